/- DebtNets: a part (5 of 9) of the proof of its row. -/
import Derived.Test.YtmeophcclkejkaaGreatNea
import Derived.Test.YtmeophcclkejkaaGreatNeb
import Derived.Test.YtmeophcclkejkaaGreatNec
import Derived.Test.YtmeophcclkejkaaGreatNed
set_option linter.all false
set_option maxRecDepth 100000
namespace Pal
open Go Go.Conc Go.Conc.Lib Go.Proofs Go.ConcR.Gen
theorem JL.uA{J:Judge Tryz.prog}{F:Fam}{Q:GP}{b:Frame}{n:Nat}{L:Env}{ds:Ld_}{k:Li_}{cs:Lf_}{s:St}{ops:Ao_}{i:Nat}{rest:List Nat}{d:Option Tmp}{x:Operand}{ty:TypeId}{p:String}{af:Ae_}{g:On_}(K:Fl b n L ops i=some ⟨d,.fieldAddr 140 x 0,ty,p,af,g⟩)(O:ev L x=some (.pointer (some F.uA)))(h:JL J Q b n (Av L d (.pointer (some F.uA))) ds (.inRegion ops rest::k) cs s):JL J Q b n L ds (.inRegion ops (i::rest)::k) cs s:=Am K (λρ h=>Gr (a:=F.uA) 0 0 Tryz.underlying140 (AR Tryz.type21) rfl rfl rfl (h _ _ O)) h
theorem Yu{P:Program}{J:Judge P}{Q:GP}{n:Nat}{L:Env}{ds:Ld_}{c:Code}{k:Li_}{cs:Lf_}{s:St}{b:Frame}(h:∀K,K=k->JL J Q b n L ds (.code c::K) cs s):JL J Q b n L ds (.code c::k) cs s:=h _ rfl
theorem TM{P:Program}{J:Judge P}{Q:GP}{n:Nat}{L:Env}{ds:Ld_}{k:Li_}{cs:Lf_}{s:St}{b:Frame}(h:∀K,K=k->JL J Q b n L ds K cs s):JL J Q b n L ds k cs s:=h _ rfl
theorem Ic:(Tryz.prog.funcs[189]?).any (·.norace)=true:=by rw [Tryz.func189];rfl
theorem Z5:(Tryz.prog.funcs[163]?).any (·.norace)=true:=by rw [Tryz.func163];rfl
theorem au:(Tryz.prog.funcs[191]?).any (·.norace)=true:=by rw [Tryz.func191];rfl
theorem PV:(Tryz.prog.funcs[211]?).any (·.norace)=true:=by rw [Tryz.func211];rfl
theorem O7:(Tryz.prog.info? 140).map (λi=>decide (i.size=0))=some false:=(congrArg (Option.map (λi=>decide (i.size=0))) Tryz.type140).trans rfl
abbrev GZ:=Bool×Bool×Nat×M4×Int
def TL(a:GZ):Prop:=(a.2.1=true->a.2.2.2.1.k=true)/\a.2.2.1<=4/\Da a.2.2.2.1
def PN(a:GZ):LP:= .Cp a.1 a.2.1 a.2.2.1 a.2.2.2.1
theorem X7{F:Fam}{sv aw:Bool}{it:Nat}{old:M4}{q:Nat}(h:old.l=false/\old.s=false):(mN sv aw old,q,#[Fam.Cf F.uA,Fam.Er F.uA],some LP.len)∈F.BY (.Cp sv aw it old) old q:=by
 obtain⟨l,k,s,w⟩:=old;obtain⟨K,O⟩:=h;simp only at K O;subst K O;simp [Fam.BY,Fam.Fx,mN]
theorem Rf{F:Fam}{sv aw:Bool}{it:Nat}{old:M4}{q:Nat}(h:¬(old.l=false/\old.s=false))(x:LP)(K:x= .Ig sv∨x= .Cz sv):(mN sv aw old,q,#[Fam.Cf F.uA,Fam.Er F.uA],some x)∈F.BY (.Cp sv aw it old) old q:=by
 obtain⟨l,k,s,w⟩:=old;show _∈F.Fx _ _ _ _ _ _;unfold Fam.Fx;rw [List.mem_append];right;rw [if_pos rfl,if_neg h];cases l <;> cases s <;> simp [mN] at h ⊢ <;> rcases K with rfl | rfl <;> simp
theorem WA{F:Fam}{sv aw:Bool}{it:Nat}{old m:M4}{q:Nat}(h:m≠old):(m,q,#[Fam.Cf F.uA],some (LP.El sv aw it))∈F.BY (.Cp sv aw it old) m q:=by
 show _∈F.Fx _ _ _ _ _ _;unfold Fam.Fx;rw [List.mem_append];right;rw [if_neg h];exact List.mem_singleton.2 rfl
theorem X2{F:Fam}{sv:Bool}{it:Nat}{old:M4}{q:Nat}(K:old.l=true/\old.s=false)(O:it<4)(U:old.k=false)(Y:old.w≠0):(({old with k:=true}:M4),q,#[Fam.Cf F.uA,Fam.Er F.uA],some (LP.El sv true (it+1)))∈F.BY (.Cp sv false it old) old q:=by
 show _∈F.Fx _ _ _ _ _ _;unfold Fam.Fx;rw [List.mem_append];left;rw [if_pos ⟨K.1,K.2,O⟩,if_pos ⟨rfl,U,Y⟩,if_pos rfl];exact List.mem_singleton.2 rfl
theorem XE{F:Fam}{sv:Bool}{it:Nat}{old m:M4}{q:Nat}(K:old.l=true/\old.s=false)(O:it<4)(U:old.k=false)(Y:old.w≠0)(hm:m≠old):(m,q,#[Fam.Cf F.uA],some (LP.El sv false (it+1)))∈F.BY (.Cp sv false it old) m q:=by
 show _∈F.Fx _ _ _ _ _ _;unfold Fam.Fx;rw [List.mem_append];left;rw [if_pos ⟨K.1,K.2,O⟩,if_pos ⟨rfl,U,Y⟩,if_neg hm];exact List.mem_singleton.2 rfl
theorem Pa{F:Fam}{sv aw:Bool}{it:Nat}{old m:M4}{q:Nat}(K:old.l=true/\old.s=false)(O:it<4)(U:¬(aw=false/\old.k=false/\old.w≠0)):(m,q,#[],some (LP.Cp sv aw (it+1) m))∈F.BY (.Cp sv aw it old) m q:=by
 show _∈F.Fx _ _ _ _ _ _;unfold Fam.Fx;rw [List.mem_append];left;rw [if_pos ⟨K.1,K.2,O⟩,if_neg U];exact List.mem_singleton.2 rfl
theorem GU(m:M4)(h:m.s=true):m={m with l:=m.l || !m.s}:=by
 obtain⟨l,k,s,w⟩:=m;simp only at h;subst h;simp
set_option maxHeartbeats 4000000 in
theorem V4{F:Fam}{n:Nat}{L:Env}{ds:Ld_}{k:Li_}{cs:Lf_}{s:St}{b:Frame}{ops:Ao_}{i:Nat}{rest:List Nat}{d:Option Tmp}{x:Operand}{ats:Array TypeId}{ty:TypeId}{pp:String}{af:Ae_}{g:On_}{kk:Nat}(ac:s.q=false)(bS:ops[i]? =some ⟨d,.call ⟨.value (.func 189),#[x],ats⟩,ty,pp,af,g⟩)(hw:AL L ops ⟨d,.call ⟨.value (.func 189),#[x],ats⟩,ty,pp,af,g⟩=some true)(bT:((b.kind != .early)&&Bf n d)=true)(bU:ev L x=some (.pointer (some F.uA)))
  (h:JL (AW Tryz.prog false) (Stop Tryz.prog F (.lk kk .EX)) b n (Av L d (.tuple #[])) ds (.inRegion ops rest::k) cs s):
  JL (AW Tryz.prog false) (Stop Tryz.prog F (.lk kk (.El false false 0))) b n L ds (.inRegion ops (i::rest)::k) cs s:=by
 refine G4 (vs:= [.pointer (some F.uA)]) bS hw bT Tryz.func189 (by decide+kernel) rfl (by simp [evs,bU]) (Nat.le_of_ble_eq_true rfl) λbE back=>zg 20 rfl (JL.uA rfl rfl ?_);refine G6 (kk:=kk) (p:= .El false false 0) CZ.stop ac rfl rfl rfl rfl rfl G1 Ic rfl λbF b7 bz=>⟨some (.Cp false false 0 bF),List.mem_singleton.2 rfl,?_⟩;refine zg 3 rfl (Yu λbV bW=>?_);have a2:∀X:Ph->GP,CZ Tryz.prog F X->(∀p g s,Stop Tryz.prog F p g s->X p g s)->∀L',look L' 0=some (.pointer (some F.uA))->JL (AW Tryz.prog false) (X (.lk kk .len)) (base 189) Tryz.f189.ntmps L' [] bV (bE::cs) s:=by
  intro X O az L' bY;rw [bW];refine EO (L':= [(0,.pointer (some F.uA))]) ⟨bY,trivial⟩ (zg 3 rfl ?_);refine KS (kk:=kk) (p:= .len) O ac rfl (λ_ _=>rfl) rfl rfl rfl rfl (by simp) NY (zg 3 rfl ?_);refine OD (kk:=kk) (p:= .Kt) O ac rfl (λ_ _=>rfl) rfl rfl rfl rfl Tryz.underlying229 Tryz.underlying185 O7 rfl (O0 (kk:=kk) (p:= .JD) (ad:=F.uA) O ac rfl (λ_ _=>rfl) rfl rfl rfl rfl (by simp) TI rfl rfl ?_);refine JL.done (JL.fin rfl rfl (Bz.none Tryz.func189 rfl) (back _ _ _ _ ?_));exact MK (λg s=>az _ g s) h
 refine JL.block (Ix ?_);refine Ep [(0,.pointer (some F.uA)),(2,iV 0),(3,.bool false),(4,.bool false),(5,iV ((0:Nat):Int)),(6,.int .i32 (bF:M4).num)] rfl (TM λbG a7=>?_);refine Tr (P:=Tryz.prog) (F:=F) (s:=s) (kk:=kk) (ph:=PN) (ok:=TL) (head:=λ(X:Ph->GP) (a:GZ)=>JL (AW Tryz.prog false) (X (.lk kk (PN a))) (base 189) Tryz.f189.ntmps ([(0,.pointer (some F.uA)),(2,iV a.2.2.2.2),(3,.bool a.1),(4,.bool a.2.1),(5,iV (a.2.2.1:Int)),(6,.int .i32 (a.2.2.2.1:M4).num)]) [] bG (bE::cs) s) ?_ (false,false,0,bF,0) ⟨(λe=>by cases e),Nat.zero_le _,bz.2.2.1⟩;intro Y bA b8 hC;have key:∀N (a:GZ),4 - a.2.2.1<N->TL a->(λ(X:Ph->GP) (a:GZ)=>JL (AW Tryz.prog false) (X (.lk kk (PN a))) (base 189) Tryz.f189.ntmps ([(0,.pointer (some F.uA)),(2,iV a.2.2.2.2),(3,.bool a.1),(4,.bool a.2.1),(5,iV (a.2.2.1:Int)),(6,.int .i32 (a.2.2.2.1:M4).num)]) [] bG (bE::cs) s) Y a:=by
  intro N
  induction N with
  | zero=>intro a bJ;omega
  | succ N bB=>
   rintro⟨sv,aw,it,old,wt⟩ bZ bz;simp only at bZ;have b0:aw=true->old.k=true:=bz.1;have bH:Da old:=bz.2.2;have a3:Cq old:=bH.Cq;show JL (AW Tryz.prog false) (Y (.lk kk (.Cp sv aw it old))) (base 189) Tryz.f189.ntmps [(0,.pointer (some F.uA)),(2,iV wt),(3,.bool sv),(4,.bool aw),(5,iV (it:Int)),(6,.int .i32 (old:M4).num)] [] bG (bE::cs) s;rw [a7];refine zg 2 rfl (Bq (λL s'=>s=s'/\L= [(0,.pointer (some F.uA)),(2,iV wt),(3,.bool sv),(4,.bool aw),(5,iV (it:Int)),(6,.int .i32 (old:M4).num)]) ?_ ?_)
   rotate_left
   ·intro a0;refine zg 3 rfl (Am (v:=CQ (BF old&&& 5)) rfl (λρ h=>Ew (c:=5) a3 (h _ _ rfl) (h _ _ rfl) (by decide)) ?_);refine zg 2 rfl (Lt (q:=((BF old&&& 5:Nat):Int)=1) (i:=17) rfl (λbK=>?_) (λbK=>?_))
    ·refine Am (v:=iV (it:Int)) rfl (λρ h=>Yl.move (h _ _ rfl)) (JL.canSpin (it:=(it:Int)) ac rfl rfl rfl rfl YA rfl (λEe=>?_) ?_)
     ·refine Am (v:= .bool true) rfl (λρ h=>Lw (h _ _ rfl) (h _ _ rfl)) ?_;have a4:=(aT old).1 bK;refine zg 5 rfl ?_;have bC:it<4:=by omega
      refine zg 1 rfl (Am (v:= .bool (!aw)) rfl (λρ h=>Yl.not (h _ _ rfl)) ?_);refine zg 1 rfl (J7 (c:= !aw) (i:=23) rfl (λc1=>?_) (λc1=>?_))
      ·refine Am (v:= .int .i32 (old:M4).num) rfl (λρ h=>Yl.move (h _ _ rfl)) (Am (v:=CQ (BF old&&& 2)) rfl (λρ h=>Ew (c:=2) a3 (h _ _ rfl) (h _ _ rfl) (by decide)) ?_);refine zg 3 rfl (Lt (q:=((BF old&&& 2:Nat):Int)=0) (i:=28) rfl (λc2=>?_) (λc2=>?_))
       ·refine Am (v:= .int .i32 (old:M4).num) rfl (λρ h=>Yl.move (h _ _ rfl)) (Am (v:=CQ old.w) rfl (λρ h=>IA a3 (h _ _ rfl) (h _ _ rfl)) ?_);refine zg 3 rfl (Lt (q:=(old.w:Int)≠0) (i:=33) rfl (λc3=>?_) (λc3=>?_))
        ·have b1:aw=false:=by simpa using c1
         subst b1;have bL:=(PW old).1 c2;have bM:old.w≠0:=by omega
         refine zg 2 rfl (JL.uA rfl rfl ?_);refine zg 2 rfl (Am (v:= .int .i32 ({old with k:=true}:M4).num) rfl (λρ h=>Nr (c:=2) a3 (by decide) (Qa old) rfl (h _ _ rfl) (h _ _ rfl)) ?_);refine Rq (kk:=kk) (p:= .Cp sv false it old) (old:=old) (nw:={old with k:=true}) bA ac rfl rfl rfl rfl rfl NS rfl rfl rfl (λq a5=>⟨some (.El sv true (it+1)),X2 a4 bC bL bM,?_⟩) (λm q hm a5=>⟨some (.El sv false (it+1)),XE a4 bC bL bM hm,?_⟩)
         ·refine Am (v:= .bool true) rfl (λρ h=>Lw (h _ _ rfl) (h _ _ rfl)) (zg 7 rfl ?_);refine JL.ext (v:= .tuple #[]) rfl rfl rfl LA rfl rfl (zg 4 rfl ?_);refine Am (v:=iV ((it+1:Nat):Int)) rfl (λρ h=>Fq (h _ _ rfl) (h _ _ rfl) (by unfold Ax;rw [if_pos (by omega)];congr 1)) (zg 6 rfl ?_);refine JL.uA rfl rfl (G6 (kk:=kk) (p:= .El sv true (it+1)) bA ac rfl rfl rfl rfl rfl G1 Ic rfl λa8 bN br=>⟨some (.Cp sv true (it+1) a8),List.mem_singleton.2 rfl,?_⟩);refine zg 3 rfl (JL.again ?_);rw [← a7];exact Ep [(0,.pointer (some F.uA)),(2,iV wt),(3,.bool sv),(4,.bool true),(5,iV ((it+1:Nat):Int)),(6,.int .i32 (a8:M4).num)] rfl (bB (sv,true,it+1,a8,wt) (by show 4 - (it+1)<N;omega) ⟨br.2.2.2,(by show it+1<=4;omega),br.2.2.1⟩)
         ·refine Am (v:= .bool false) rfl (λρ h=>Lw (h _ _ rfl) (h _ _ rfl)) (zg 5 rfl ?_);refine JL.ext (v:= .tuple #[]) rfl rfl rfl LA rfl rfl (zg 4 rfl ?_);refine Am (v:=iV ((it+1:Nat):Int)) rfl (λρ h=>Fq (h _ _ rfl) (h _ _ rfl) (by unfold Ax;rw [if_pos (by omega)];congr 1)) (zg 6 rfl ?_);refine JL.uA rfl rfl (G6 (kk:=kk) (p:= .El sv false (it+1)) bA ac rfl rfl rfl rfl rfl G1 Ic rfl λa8 bN br=>⟨some (.Cp sv false (it+1) a8),List.mem_singleton.2 rfl,?_⟩);refine zg 3 rfl (JL.again ?_);rw [← a7];exact Ep [(0,.pointer (some F.uA)),(2,iV wt),(3,.bool sv),(4,.bool false),(5,iV ((it+1:Nat):Int)),(6,.int .i32 (a8:M4).num)] rfl (bB (sv,false,it+1,a8,wt) (by show 4 - (it+1)<N;omega) ⟨br.2.2.2,(by show it+1<=4;omega),br.2.2.1⟩)
        ·refine Ie rfl rfl rfl (zg 12 rfl ?_);refine JL.ext (v:= .tuple #[]) rfl rfl rfl LA rfl rfl (zg 4 rfl ?_);refine Am (v:=iV ((it+1:Nat):Int)) rfl (λρ h=>Fq (h _ _ rfl) (h _ _ rfl) (by unfold Ax;rw [if_pos (by omega)];congr 1)) (zg 6 rfl ?_);refine JL.uA rfl rfl (G6 (kk:=kk) (p:= .Cp sv aw it old) bA ac rfl rfl rfl rfl rfl G1 Ic rfl λm q a5=>⟨some (.Cp sv aw (it+1) m),Pa a4 bC (λe=>c3 (by omega)),?_⟩);refine zg 3 rfl (JL.again ?_);rw [← a7];exact Ep [(0,.pointer (some F.uA)),(2,iV wt),(3,.bool sv),(4,.bool aw),(5,iV ((it+1:Nat):Int)),(6,.int .i32 (m:M4).num)] rfl (bB (sv,aw,it+1,m,wt) (by show 4 - (it+1)<N;omega) ⟨a5.2.2.2.2.2,(by show it+1<=4;omega),a5.2.2.2.2.1⟩)
       ·refine Ie rfl rfl rfl (zg 17 rfl ?_);refine JL.ext (v:= .tuple #[]) rfl rfl rfl LA rfl rfl (zg 4 rfl ?_);refine Am (v:=iV ((it+1:Nat):Int)) rfl (λρ h=>Fq (h _ _ rfl) (h _ _ rfl) (by unfold Ax;rw [if_pos (by omega)];congr 1)) (zg 6 rfl ?_);refine JL.uA rfl rfl (G6 (kk:=kk) (p:= .Cp sv aw it old) bA ac rfl rfl rfl rfl rfl G1 Ic rfl λm q a5=>⟨some (.Cp sv aw (it+1) m),Pa a4 bC (λe=>c2 ((PW old).2 e.2.1)),?_⟩);refine zg 3 rfl (JL.again ?_);rw [← a7];exact Ep [(0,.pointer (some F.uA)),(2,iV wt),(3,.bool sv),(4,.bool aw),(5,iV ((it+1:Nat):Int)),(6,.int .i32 (m:M4).num)] rfl (bB (sv,aw,it+1,m,wt) (by show 4 - (it+1)<N;omega) ⟨a5.2.2.2.2.2,(by show it+1<=4;omega),a5.2.2.2.2.1⟩)
      ·refine Ie rfl rfl rfl (zg 22 rfl ?_);refine JL.ext (v:= .tuple #[]) rfl rfl rfl LA rfl rfl (zg 4 rfl ?_);refine Am (v:=iV ((it+1:Nat):Int)) rfl (λρ h=>Fq (h _ _ rfl) (h _ _ rfl) (by unfold Ax;rw [if_pos (by omega)];congr 1)) (zg 6 rfl ?_);refine JL.uA rfl rfl (G6 (kk:=kk) (p:= .Cp sv aw it old) bA ac rfl rfl rfl rfl rfl G1 Ic rfl λm q a5=>⟨some (.Cp sv aw (it+1) m),Pa a4 bC (λe=>by rw [e.1] at c1;cases c1),?_⟩);refine zg 3 rfl (JL.again ?_);rw [← a7];exact Ep [(0,.pointer (some F.uA)),(2,iV wt),(3,.bool sv),(4,.bool aw),(5,iV ((it+1:Nat):Int)),(6,.int .i32 (m:M4).num)] rfl (bB (sv,aw,it+1,m,wt) (by show 4 - (it+1)<N;omega) ⟨a5.2.2.2.2.2,(by show it+1<=4;omega),a5.2.2.2.2.1⟩)
     ·refine Am (v:= .bool false) rfl (λρ h=>Lw (h _ _ rfl) (h _ _ rfl)) (zg 3 rfl ?_);exact AA (a0 _ _ ⟨rfl,rfl⟩) rfl
    ·refine Ie rfl rfl rfl (zg 5 rfl ?_);exact AA (a0 _ _ ⟨rfl,rfl⟩) rfl
   rintro _ _ ⟨rfl,rfl⟩;refine zg 6 rfl (Bq (λL s'=>s=s'/\L= [(0,.pointer (some F.uA)),(2,iV wt),(3,.bool sv),(4,.bool aw),(5,iV (it:Int)),(6,.int .i32 (old:M4).num),(7,.int .i32 ({old with l:=old.l || !old.s}:M4).num)]) ?_ ?_)
   rotate_left
   ·intro a0;refine zg 3 rfl (Am (v:=CQ (BF old&&& 4)) rfl (λρ h=>Ew (c:=4) a3 (h _ _ rfl) (h _ _ rfl) (by decide)) ?_);refine zg 2 rfl (FX (p:=((BF old&&& 4:Nat):Int)=0) rfl (λc=>?_) (λc=>?_))
    ·refine JL.region (zg 1 rfl ?_);refine Am (v:= .int .i32 ({old with l:=true}:M4).num) rfl (λρ h=>Nr (c:=1) a3 (by decide) (bf old) rfl (h _ _ rfl) (h _ _ rfl)) (zg 2 rfl ?_);refine EO ?_ (a0 _ _ ⟨rfl,rfl⟩);exact⟨rfl,rfl,rfl,rfl,rfl,rfl,congrArg (λm:M4=>some (Value.int .i32 m.num)) (by rw [(HA old).1 c];simp),trivial⟩
    ·refine JL.skip (EO ?_ (a0 _ _ ⟨rfl,rfl⟩));exact⟨rfl,rfl,rfl,rfl,rfl,rfl,congrArg (λm:M4=>some (Value.int .i32 m.num)) ((Bool.eq_false_or_eq_true old.s).elim (GU old) (λhh=>absurd ((HA old).2 hh) c)),trivial⟩
   rintro _ _ ⟨rfl,rfl⟩;have b9:Cq {old with l:=old.l || !old.s}:=a3;refine JL.seq (Bq (λL s'=>s=s'/\L= [(0,.pointer (some F.uA)),(2,iV wt),(3,.bool sv),(4,.bool aw),(5,iV (it:Int)),(6,.int .i32 (old:M4).num),(7,.int .i32 ({old with l:=old.l || !old.s,w:=if old.l=true∨old.s=true then old.w+1 else old.w}:M4).num)]) ?_ ?_)
   rotate_left
   ·intro a0;refine zg 3 rfl (Am (v:=CQ (BF old&&& 5)) rfl (λρ h=>Ew (c:=5) a3 (h _ _ rfl) (h _ _ rfl) (by decide)) ?_);refine zg 2 rfl (FX (p:=((BF old&&& 5:Nat):Int)≠0) rfl (λc=>?_) (λc=>?_))
    ·refine JL.region (zg 1 rfl ?_);refine Am (v:= .int .i32 ({old with l:=old.l || !old.s,w:=old.w+1}:M4).num) rfl (λρ h=>XN (m:={old with l:=old.l || !old.s}) bH (h _ _ rfl) (h _ _ rfl)) (zg 2 rfl ?_);refine EO ?_ (a0 _ _ ⟨rfl,rfl⟩);exact⟨rfl,rfl,rfl,rfl,rfl,rfl,congrArg (λm:M4=>some (Value.int .i32 m.num)) (by rw [if_pos (by have:=λe=>c ((LS old).2 e);cases ca:old.l <;> cases cb:old.s <;> simp_all)]),trivial⟩
    ·refine JL.skip (EO ?_ (a0 _ _ ⟨rfl,rfl⟩));exact⟨rfl,rfl,rfl,rfl,rfl,rfl,congrArg (λm:M4=>some (Value.int .i32 m.num)) (by rw [if_neg (by have:=(LS old).1 (Decidable.not_not.1 c);rw [this.1,this.2];simp)]),trivial⟩
   rintro _ _ ⟨rfl,rfl⟩;have bO:Cq ({old with l:=old.l || !old.s,w:=if old.l=true∨old.s=true then old.w+1 else old.w}:M4):=by unfold Da at bH;unfold Cq;simp only;split <;> omega
   refine JL.seq (Bq (λL s'=>s=s'/\L= [(0,.pointer (some F.uA)),(2,iV wt),(3,.bool sv),(4,.bool aw),(5,iV (it:Int)),(6,.int .i32 (old:M4).num),(7,.int .i32 ({old with l:=old.l || !old.s,s:=old.s || (sv&&old.l),w:=if old.l=true∨old.s=true then old.w+1 else old.w}:M4).num)]) ?_ ?_)
   rotate_left
   ·intro a0;refine zg 4 rfl (J7 (c:=sv) (i:=61) rfl (λc1=>?_) (λc1=>?_))
    ·refine Am (v:= .int .i32 (old:M4).num) rfl (λρ h=>Yl.move (h _ _ rfl)) (Am (v:=CQ (BF old&&& 1)) rfl (λρ h=>Ew (c:=1) a3 (h _ _ rfl) (h _ _ rfl) (by decide)) ?_);refine zg 3 rfl (FX (p:=((BF old&&& 1:Nat):Int)≠0) rfl (λc=>?_) (λc=>?_))
     ·refine JL.region (zg 1 rfl ?_);refine Am (v:= .int .i32 ({old with s:=true,l:=old.l || !old.s,w:=if old.l=true∨old.s=true then old.w+1 else old.w}:M4).num) rfl (λρ h=>Nr (c:=4) (m:={old with l:=old.l || !old.s,w:=if old.l=true∨old.s=true then old.w+1 else old.w}) bO (by decide) (bj _) rfl (h _ _ rfl) (h _ _ rfl)) ?_
      refine zg 2 rfl (EO ?_ (a0 _ _ ⟨rfl,rfl⟩));exact⟨rfl,rfl,rfl,rfl,rfl,rfl,congrArg (λm:M4=>some (Value.int .i32 m.num)) (by rcases Bool.eq_false_or_eq_true old.l with hh | hh <;> first | exact absurd ((PZ old).2 hh) c | (rw [c1,hh];simp)),trivial⟩
     ·refine JL.skip (EO ?_ (a0 _ _ ⟨rfl,rfl⟩));exact⟨rfl,rfl,rfl,rfl,rfl,rfl,congrArg (λm:M4=>some (Value.int .i32 m.num)) (by have:=(PZ old).1 (Decidable.not_not.1 c);rw [this];simp),trivial⟩
    ·refine Ie rfl rfl rfl (zg 6 rfl ?_);refine EO ?_ (a0 _ _ ⟨rfl,rfl⟩);exact⟨rfl,rfl,rfl,rfl,rfl,rfl,congrArg (λm:M4=>some (Value.int .i32 m.num)) (by rw [c1];simp),trivial⟩
   rintro _ _ ⟨rfl,rfl⟩;have bP:Cq ({old with l:=old.l || !old.s,s:=old.s || (sv&&old.l),w:=if old.l=true∨old.s=true then old.w+1 else old.w}:M4):=bO
   refine JL.seq (Bq (λL s'=>s=s'/\L= [(0,.pointer (some F.uA)),(2,iV wt),(3,.bool sv),(4,.bool aw),(5,iV (it:Int)),(6,.int .i32 (old:M4).num),(7,.int .i32 (mN sv aw old:M4).num)]) ?_ ?_)
   rotate_left
   ·intro a0;refine zg 4 rfl (OQ (t:=aw) rfl (λc=>?_) (λc=>?_))
    ·have bQ:old.k=true:=b0 c;refine zg 4 rfl ?_;refine Am (v:=CQ (BF ({old with l:=old.l || !old.s,s:=old.s || (sv&&old.l),w:=if old.l=true∨old.s=true then old.w+1 else old.w}:M4)&&& 2)) rfl (λρ h=>Ew (c:=2) (m:={old with l:=old.l || !old.s,s:=old.s || (sv&&old.l),w:=if old.l=true∨old.s=true then old.w+1 else old.w}) bP (h _ _ rfl) (h _ _ rfl) (by decide)) ?_
     refine Am (v:= .bool false) rfl (λρ h=>Yl.to (Yl.eql (h _ _ rfl) (h _ _ rfl)) (by rw [decide_eq_false (λe=>by have q:=(PW _).1 e;simp only at q;rw [bQ] at q;cases q)])) (zg 5 rfl ?_);refine Am (v:= .int .i32 ({old with k:=false,l:=old.l || !old.s,s:=old.s || (sv&&old.l),w:=if old.l=true∨old.s=true then old.w+1 else old.w}:M4).num) rfl (λρ h=>Yl.O3 (m:={old with l:=old.l || !old.s,s:=old.s || (sv&&old.l),w:=if old.l=true∨old.s=true then old.w+1 else old.w}) bP bQ (h _ _ rfl) (h _ _ rfl)) ?_
     refine zg 2 rfl (EO ?_ (a0 _ _ ⟨rfl,rfl⟩));exact⟨rfl,rfl,rfl,rfl,rfl,rfl,congrArg (λm:M4=>some (Value.int .i32 m.num)) (by simp [mN,c]),trivial⟩
    ·refine JL.skip (EO ?_ (a0 _ _ ⟨rfl,rfl⟩));exact⟨rfl,rfl,rfl,rfl,rfl,rfl,congrArg (λm:M4=>some (Value.int .i32 m.num)) (by simp [mN,c]),trivial⟩
   rintro _ _ ⟨rfl,rfl⟩;refine zg 4 rfl (JL.uA rfl rfl ?_);refine zg 2 rfl (λT b2=>(AW Tryz.prog false).stop (hC (sv,aw,it,old,wt) _ bz λX cc b3 O az bD=>?_));refine OU (kk:=kk) (p:= .Cp sv aw it old) (old:=old) (nw:=mN sv aw old) b3 ac rfl rfl rfl rfl rfl NS rfl rfl rfl (λq a5=>?_) (λm q hm a5=>⟨some (.El sv aw it),WA hm,?_⟩) T b2
   ·by_cases a4:old.l=false/\old.s=false
    ·refine⟨some .len,X7 a4,?_⟩;refine zg 6 rfl (Am (v:=CQ (BF old&&& 5)) rfl (λρ h=>Ew (c:=5) a3 (h _ _ rfl) (h _ _ rfl) (by decide)) ?_);refine Am (v:= .bool true) rfl (λρ h=>Yl.to (Yl.eql (h _ _ rfl) (h _ _ rfl)) (by rw [decide_eq_true ((LS old).2 a4)])) (zg 3 rfl ?_);exact a2 X O az _ rfl
    ·by_cases bR:wt=0
     ·refine⟨some ((.Ig sv)),Rf a4 _ (.inl rfl),?_⟩;refine zg 6 rfl (Am (v:=CQ (BF old&&& 5)) rfl (λρ h=>Ew (c:=5) a3 (h _ _ rfl) (h _ _ rfl) (by decide)) ?_);refine Am (v:= .bool false) rfl (λρ h=>Yl.to (Yl.eql (h _ _ rfl) (h _ _ rfl)) (by rw [decide_eq_false (λe=>a4 ((LS old).1 e))])) ?_;refine zg 13 rfl (Am (v:= .bool true) rfl (λρ h=>Yl.to (Yl.eql (h _ _ rfl) (h _ _ rfl)) (by rw [decide_eq_true bR])) ?_);refine zg 3 rfl (Ox (kk:=kk) (p:= .Ig sv) O ac rfl rfl rfl rfl rfl Py PV λm a6 v al=>⟨some (.Cz sv),List.mem_singleton.2 rfl,?_⟩);refine zg 6 rfl (Am (v:= .pointer (some F.qA)) rfl (λρ h=>Gr (a:=F.uA) 0 1 Tryz.underlying140 Ml rfl rfl rfl (h _ _ rfl)) ?_);refine zg 1 rfl (Ra (kk:=kk) (sv:=sv) O ac rfl rfl rfl rfl S3 rfl rfl ?_);refine JL.done ?_;cases sv
      ·rw [if_neg (by decide)];refine zg 4 rfl (Ox (kk:=kk) (p:= .FY) O ac rfl rfl rfl rfl rfl Py PV λb4 b5 v2 b6=>⟨some (.EA (decide (IntKind.i64.wrap (v2 - v)>1000000))),by (cases decide (IntKind.i64.wrap (v2 - v)>1000000) <;> simp [Fam.BY]),?_⟩);refine zg 1 rfl (Am (v:= .int .i64 (IntKind.i64.wrap (v2 - v))) rfl (λρ h=>Yl.sub (h _ _ rfl) (h _ _ rfl)) ?_);refine zg 4 rfl ?_;generalize decide (IntKind.i64.wrap (v2 - v)>1000000)=ay;refine zg 4 rfl (JL.uA rfl rfl ?_);refine G6 (kk:=kk) (p:= .EA ay) O ac rfl rfl rfl rfl rfl G1 Ic rfl ?_;intro m bI a1;have a9:Da m:=a1.2.2;have am:Cq m:=a9.Cq;by_cases ag:m.s=true
       ·refine⟨some (.Ek (!ay || m.w==1)),by simp [Fam.BY,ag],?_⟩;refine zg 2 rfl ?_;obtain⟨bu,bv,bw⟩:=a1.1 ag;refine zg 4 rfl (Am (v:=CQ (BF m&&& 4)) rfl (λρ h=>Ew (c:=4) am (h _ _ rfl) (h _ _ rfl) (by decide)) ?_);refine Am (v:= .bool true) rfl (λρ h=>Yl.to (Hu (h _ _ rfl) (h _ _ rfl)) (by have bx:(((BF m&&& 4:Nat):Int)≠0):=(λe=>by rw [(HA m).1 e] at ag;cases ag);rw [decide_eq_true bx])) ?_;refine zg 6 rfl (Am (v:=CQ (BF m&&& 3)) rfl (λρ h=>Ew (c:=3) am (h _ _ rfl) (h _ _ rfl) (by decide)) ?_);refine Am (v:= .bool false) rfl (λρ h=>Yl.to (Hu (h _ _ rfl) (h _ _ rfl)) (by rw [(NM m).2 ⟨bu,bv⟩];rfl)) (zg 2 rfl ?_);refine Am (v:=CQ m.w) rfl (λρ h=>IA am (h _ _ rfl) (h _ _ rfl)) (Am (v:= .bool false) rfl (λρ h=>Yl.to (Yl.eql (h _ _ rfl) (h _ _ rfl)) (by rw [decide_eq_false (λe=>bw (by omega))])) ?_);refine zg 12 rfl (Am (v:= .bool (!ay)) rfl (λρ h=>Yl.not (h _ _ rfl)) ?_);refine zg 1 rfl (J7 (c:= !ay) (i:=119) rfl (λd1=>?_) (λd1=>?_))
        ·refine Ie rfl rfl rfl (zg 5 rfl ?_);have hex:(!ay || m.w==1)=true:=by rw [d1];simp
         rw [hex];refine zg 2 rfl (Am (v:= .int .i32 (-11)) rfl (λρ h=>Yl.to (Yl.sub (h _ _ rfl) (h _ _ rfl)) rfl) ?_);refine zg 6 rfl (JL.uA rfl rfl ?_);refine zg 1 rfl (G3 (kk:=kk) (p:= .Ek true) (dl:= -11) O ac rfl rfl rfl rfl rfl G9 rfl rfl λK a6 al=>⟨⟨true,K.k,false,K.w - 1⟩,some .len,?_,List.mem_singleton.2 rfl,?_⟩)
         ·obtain⟨bb,be,bi,w3⟩:=K;obtain⟨U,g2,Z,ap,bn,aq⟩:=al;simp only at U g2 Z ap;subst U g2 Z;have bo:w3<134217728:=aq;have e:(⟨false,false,true,w3⟩:M4).num+(-11)=((8*(w3 - 1)+1:Nat):Int):=by simp only [M4.num,Bool.toNat_true,Bool.toNat_false];omega
          rw [e,Fs (by omega)];simp only [M4.num,Bool.toNat_true,Bool.toNat_false];omega
         exact zg 2 rfl (a2 X O az _ rfl)
        ·refine Am (v:= .int .i32 (m:M4).num) rfl (λρ h=>Yl.move (h _ _ rfl)) (Am (v:=CQ m.w) rfl (λρ h=>IA am (h _ _ rfl) (h _ _ rfl)) ?_);refine zg 3 rfl (FX (p:=(m.w:Int)=1) rfl (λd2=>?_) (λd2=>?_))
         ·have hex:(!ay || m.w==1)=true:=by rw [d1];simp;omega
          rw [hex];refine zg 2 rfl (Am (v:= .int .i32 (-11)) rfl (λρ h=>Yl.to (Yl.sub (h _ _ rfl) (h _ _ rfl)) rfl) ?_);refine zg 6 rfl (JL.uA rfl rfl ?_);refine zg 1 rfl (G3 (kk:=kk) (p:= .Ek true) (dl:= -11) O ac rfl rfl rfl rfl rfl G9 rfl rfl λK a6 al=>⟨⟨true,K.k,false,K.w - 1⟩,some .len,?_,List.mem_singleton.2 rfl,?_⟩)
          ·obtain⟨bb,be,bi,w3⟩:=K;obtain⟨U,g2,Z,ap,bn,aq⟩:=al;simp only at U g2 Z ap;subst U g2 Z;have bo:w3<134217728:=aq;have e:(⟨false,false,true,w3⟩:M4).num+(-11)=((8*(w3 - 1)+1:Nat):Int):=by simp only [M4.num,Bool.toNat_true,Bool.toNat_false];omega
           rw [e,Fs (by omega)];simp only [M4.num,Bool.toNat_true,Bool.toNat_false];omega
          exact zg 2 rfl (a2 X O az _ rfl)
         ·have hex:(!ay || m.w==1)=false:=by rw [d1];simp;omega
          rw [hex];refine zg 5 rfl (JL.uA rfl rfl ?_);refine zg 1 rfl (G3 (kk:=kk) (p:= .Ek false) (dl:= -7) O ac rfl rfl rfl rfl rfl G9 rfl rfl λK a6 al=>⟨⟨true,K.k,true,K.w - 1⟩,some .len,?_,List.mem_singleton.2 rfl,?_⟩)
          ·obtain⟨bb,be,bi,w3⟩:=K;obtain⟨U,g2,Z,ap,bn,aq⟩:=al;simp only at U g2 Z ap;subst U g2 Z;have bo:w3<134217728:=aq;have e:(⟨false,false,true,w3⟩:M4).num+(-7)=((8*(w3 - 1)+5:Nat):Int):=by simp only [M4.num,Bool.toNat_true,Bool.toNat_false];omega
           rw [e,Fs (by omega)];simp only [M4.num,Bool.toNat_true,Bool.toNat_false];omega
          exact zg 2 rfl (a2 X O az _ rfl)
       ·refine⟨some (.Cp ay true 0 m),by simp [Fam.BY,ag],?_⟩;refine zg 2 rfl ?_;have bq:m.s=false:=by simpa using ag
        refine zg 4 rfl (Am (v:=CQ (BF m&&& 4)) rfl (λρ h=>Ew (c:=4) am (h _ _ rfl) (h _ _ rfl) (by decide)) ?_);refine Am (v:= .bool false) rfl (λρ h=>Yl.to (Hu (h _ _ rfl) (h _ _ rfl)) (by rw [(HA m).2 bq];rfl)) (zg 11 rfl ?_);refine JL.again ?_;rw [← a7];exact Ep [(0,.pointer (some F.uA)),(2,iV v),(3,.bool ay),(4,.bool true),(5,iV ((0:Nat):Int)),(6,.int .i32 (m:M4).num)] rfl (bD (ay,true,0,m,v) ⟨λ_=>a1.2.1 bq,Nat.zero_le _,a9⟩)
      ·rw [if_pos rfl];refine zg 15 rfl (JL.uA rfl rfl ?_);refine G6 (kk:=kk) (p:= .EA true) O ac rfl rfl rfl rfl rfl G1 Ic rfl ?_;intro m bI a1;have a9:Da m:=a1.2.2;have am:Cq m:=a9.Cq;by_cases ag:m.s=true
       ·refine⟨some (.Ek (!true || m.w==1)),by simp [Fam.BY,ag],?_⟩;refine zg 2 rfl ?_;obtain⟨bu,bv,bw⟩:=a1.1 ag;refine zg 4 rfl (Am (v:=CQ (BF m&&& 4)) rfl (λρ h=>Ew (c:=4) am (h _ _ rfl) (h _ _ rfl) (by decide)) ?_);refine Am (v:= .bool true) rfl (λρ h=>Yl.to (Hu (h _ _ rfl) (h _ _ rfl)) (by have bx:(((BF m&&& 4:Nat):Int)≠0):=(λe=>by rw [(HA m).1 e] at ag;cases ag);rw [decide_eq_true bx])) ?_;refine zg 6 rfl (Am (v:=CQ (BF m&&& 3)) rfl (λρ h=>Ew (c:=3) am (h _ _ rfl) (h _ _ rfl) (by decide)) ?_);refine Am (v:= .bool false) rfl (λρ h=>Yl.to (Hu (h _ _ rfl) (h _ _ rfl)) (by rw [(NM m).2 ⟨bu,bv⟩];rfl)) (zg 2 rfl ?_);refine Am (v:=CQ m.w) rfl (λρ h=>IA am (h _ _ rfl) (h _ _ rfl)) (Am (v:= .bool false) rfl (λρ h=>Yl.to (Yl.eql (h _ _ rfl) (h _ _ rfl)) (by rw [decide_eq_false (λe=>bw (by omega))])) ?_);refine zg 12 rfl (Am (v:= .bool (!true)) rfl (λρ h=>Yl.not (h _ _ rfl)) ?_);refine zg 1 rfl (J7 (c:= !true) (i:=119) rfl (λd1=>?_) (λd1=>?_))
        ·refine Ie rfl rfl rfl (zg 5 rfl ?_);have hex:(!true || m.w==1)=true:=by rw [d1];simp
         rw [hex];refine zg 2 rfl (Am (v:= .int .i32 (-11)) rfl (λρ h=>Yl.to (Yl.sub (h _ _ rfl) (h _ _ rfl)) rfl) ?_);refine zg 6 rfl (JL.uA rfl rfl ?_);refine zg 1 rfl (G3 (kk:=kk) (p:= .Ek true) (dl:= -11) O ac rfl rfl rfl rfl rfl G9 rfl rfl λK a6 al=>⟨⟨true,K.k,false,K.w - 1⟩,some .len,?_,List.mem_singleton.2 rfl,?_⟩)
         ·obtain⟨bb,be,bi,w3⟩:=K;obtain⟨U,g2,Z,ap,bn,aq⟩:=al;simp only at U g2 Z ap;subst U g2 Z;have bo:w3<134217728:=aq;have e:(⟨false,false,true,w3⟩:M4).num+(-11)=((8*(w3 - 1)+1:Nat):Int):=by simp only [M4.num,Bool.toNat_true,Bool.toNat_false];omega
          rw [e,Fs (by omega)];simp only [M4.num,Bool.toNat_true,Bool.toNat_false];omega
         exact zg 2 rfl (a2 X O az _ rfl)
        ·refine Am (v:= .int .i32 (m:M4).num) rfl (λρ h=>Yl.move (h _ _ rfl)) (Am (v:=CQ m.w) rfl (λρ h=>IA am (h _ _ rfl) (h _ _ rfl)) ?_);refine zg 3 rfl (FX (p:=(m.w:Int)=1) rfl (λd2=>?_) (λd2=>?_))
         ·have hex:(!true || m.w==1)=true:=by rw [d1];simp;omega
          rw [hex];refine zg 2 rfl (Am (v:= .int .i32 (-11)) rfl (λρ h=>Yl.to (Yl.sub (h _ _ rfl) (h _ _ rfl)) rfl) ?_);refine zg 6 rfl (JL.uA rfl rfl ?_);refine zg 1 rfl (G3 (kk:=kk) (p:= .Ek true) (dl:= -11) O ac rfl rfl rfl rfl rfl G9 rfl rfl λK a6 al=>⟨⟨true,K.k,false,K.w - 1⟩,some .len,?_,List.mem_singleton.2 rfl,?_⟩)
          ·obtain⟨bb,be,bi,w3⟩:=K;obtain⟨U,g2,Z,ap,bn,aq⟩:=al;simp only at U g2 Z ap;subst U g2 Z;have bo:w3<134217728:=aq;have e:(⟨false,false,true,w3⟩:M4).num+(-11)=((8*(w3 - 1)+1:Nat):Int):=by simp only [M4.num,Bool.toNat_true,Bool.toNat_false];omega
           rw [e,Fs (by omega)];simp only [M4.num,Bool.toNat_true,Bool.toNat_false];omega
          exact zg 2 rfl (a2 X O az _ rfl)
         ·have hex:(!true || m.w==1)=false:=by rw [d1];simp;omega
          rw [hex];refine zg 5 rfl (JL.uA rfl rfl ?_);refine zg 1 rfl (G3 (kk:=kk) (p:= .Ek false) (dl:= -7) O ac rfl rfl rfl rfl rfl G9 rfl rfl λK a6 al=>⟨⟨true,K.k,true,K.w - 1⟩,some .len,?_,List.mem_singleton.2 rfl,?_⟩)
          ·obtain⟨bb,be,bi,w3⟩:=K;obtain⟨U,g2,Z,ap,bn,aq⟩:=al;simp only at U g2 Z ap;subst U g2 Z;have bo:w3<134217728:=aq;have e:(⟨false,false,true,w3⟩:M4).num+(-7)=((8*(w3 - 1)+5:Nat):Int):=by simp only [M4.num,Bool.toNat_true,Bool.toNat_false];omega
           rw [e,Fs (by omega)];simp only [M4.num,Bool.toNat_true,Bool.toNat_false];omega
          exact zg 2 rfl (a2 X O az _ rfl)
       ·refine⟨some (.Cp true true 0 m),by simp [Fam.BY,ag],?_⟩;refine zg 2 rfl ?_;have bq:m.s=false:=by simpa using ag
        refine zg 4 rfl (Am (v:=CQ (BF m&&& 4)) rfl (λρ h=>Ew (c:=4) am (h _ _ rfl) (h _ _ rfl) (by decide)) ?_);refine Am (v:= .bool false) rfl (λρ h=>Yl.to (Hu (h _ _ rfl) (h _ _ rfl)) (by rw [(HA m).2 bq];rfl)) (zg 11 rfl ?_);refine JL.again ?_;rw [← a7];exact Ep [(0,.pointer (some F.uA)),(2,iV v),(3,.bool true),(4,.bool true),(5,iV ((0:Nat):Int)),(6,.int .i32 (m:M4).num)] rfl (bD (true,true,0,m,v) ⟨λ_=>a1.2.1 bq,Nat.zero_le _,a9⟩)
     ·refine⟨some ((.Cz sv)),Rf a4 _ (.inr rfl),?_⟩;refine zg 6 rfl (Am (v:=CQ (BF old&&& 5)) rfl (λρ h=>Ew (c:=5) a3 (h _ _ rfl) (h _ _ rfl) (by decide)) ?_);refine Am (v:= .bool false) rfl (λρ h=>Yl.to (Yl.eql (h _ _ rfl) (h _ _ rfl)) (by rw [decide_eq_false (λe=>a4 ((LS old).1 e))])) ?_;refine zg 13 rfl (Am (v:= .bool false) rfl (λρ h=>Yl.to (Yl.eql (h _ _ rfl) (h _ _ rfl)) (by rw [decide_eq_false bR])) ?_);refine zg 7 rfl (Am (v:= .pointer (some F.qA)) rfl (λρ h=>Gr (a:=F.uA) 0 1 Tryz.underlying140 Ml rfl rfl rfl (h _ _ rfl)) ?_);refine zg 1 rfl (Ra (kk:=kk) (sv:=sv) O ac rfl rfl rfl rfl S3 rfl rfl ?_);refine JL.done ?_;cases sv
      ·rw [if_neg (by decide)];refine zg 4 rfl (Ox (kk:=kk) (p:= .FY) O ac rfl rfl rfl rfl rfl Py PV λb4 b5 v2 b6=>⟨some (.EA (decide (IntKind.i64.wrap (v2 - wt)>1000000))),by (cases decide (IntKind.i64.wrap (v2 - wt)>1000000) <;> simp [Fam.BY]),?_⟩);refine zg 1 rfl (Am (v:= .int .i64 (IntKind.i64.wrap (v2 - wt))) rfl (λρ h=>Yl.sub (h _ _ rfl) (h _ _ rfl)) ?_);refine zg 4 rfl ?_;generalize decide (IntKind.i64.wrap (v2 - wt)>1000000)=ay;refine zg 4 rfl (JL.uA rfl rfl ?_);refine G6 (kk:=kk) (p:= .EA ay) O ac rfl rfl rfl rfl rfl G1 Ic rfl ?_;intro m bI a1;have a9:Da m:=a1.2.2;have am:Cq m:=a9.Cq;by_cases ag:m.s=true
       ·refine⟨some (.Ek (!ay || m.w==1)),by simp [Fam.BY,ag],?_⟩;refine zg 2 rfl ?_;obtain⟨bu,bv,bw⟩:=a1.1 ag;refine zg 4 rfl (Am (v:=CQ (BF m&&& 4)) rfl (λρ h=>Ew (c:=4) am (h _ _ rfl) (h _ _ rfl) (by decide)) ?_);refine Am (v:= .bool true) rfl (λρ h=>Yl.to (Hu (h _ _ rfl) (h _ _ rfl)) (by have bx:(((BF m&&& 4:Nat):Int)≠0):=(λe=>by rw [(HA m).1 e] at ag;cases ag);rw [decide_eq_true bx])) ?_;refine zg 6 rfl (Am (v:=CQ (BF m&&& 3)) rfl (λρ h=>Ew (c:=3) am (h _ _ rfl) (h _ _ rfl) (by decide)) ?_);refine Am (v:= .bool false) rfl (λρ h=>Yl.to (Hu (h _ _ rfl) (h _ _ rfl)) (by rw [(NM m).2 ⟨bu,bv⟩];rfl)) (zg 2 rfl ?_);refine Am (v:=CQ m.w) rfl (λρ h=>IA am (h _ _ rfl) (h _ _ rfl)) (Am (v:= .bool false) rfl (λρ h=>Yl.to (Yl.eql (h _ _ rfl) (h _ _ rfl)) (by rw [decide_eq_false (λe=>bw (by omega))])) ?_);refine zg 12 rfl (Am (v:= .bool (!ay)) rfl (λρ h=>Yl.not (h _ _ rfl)) ?_);refine zg 1 rfl (J7 (c:= !ay) (i:=119) rfl (λd1=>?_) (λd1=>?_))
        ·refine Ie rfl rfl rfl (zg 5 rfl ?_);have hex:(!ay || m.w==1)=true:=by rw [d1];simp
         rw [hex];refine zg 2 rfl (Am (v:= .int .i32 (-11)) rfl (λρ h=>Yl.to (Yl.sub (h _ _ rfl) (h _ _ rfl)) rfl) ?_);refine zg 6 rfl (JL.uA rfl rfl ?_);refine zg 1 rfl (G3 (kk:=kk) (p:= .Ek true) (dl:= -11) O ac rfl rfl rfl rfl rfl G9 rfl rfl λK a6 al=>⟨⟨true,K.k,false,K.w - 1⟩,some .len,?_,List.mem_singleton.2 rfl,?_⟩)
         ·obtain⟨bb,be,bi,w3⟩:=K;obtain⟨U,g2,Z,ap,bn,aq⟩:=al;simp only at U g2 Z ap;subst U g2 Z;have bo:w3<134217728:=aq;have e:(⟨false,false,true,w3⟩:M4).num+(-11)=((8*(w3 - 1)+1:Nat):Int):=by simp only [M4.num,Bool.toNat_true,Bool.toNat_false];omega
          rw [e,Fs (by omega)];simp only [M4.num,Bool.toNat_true,Bool.toNat_false];omega
         exact zg 2 rfl (a2 X O az _ rfl)
        ·refine Am (v:= .int .i32 (m:M4).num) rfl (λρ h=>Yl.move (h _ _ rfl)) (Am (v:=CQ m.w) rfl (λρ h=>IA am (h _ _ rfl) (h _ _ rfl)) ?_);refine zg 3 rfl (FX (p:=(m.w:Int)=1) rfl (λd2=>?_) (λd2=>?_))
         ·have hex:(!ay || m.w==1)=true:=by rw [d1];simp;omega
          rw [hex];refine zg 2 rfl (Am (v:= .int .i32 (-11)) rfl (λρ h=>Yl.to (Yl.sub (h _ _ rfl) (h _ _ rfl)) rfl) ?_);refine zg 6 rfl (JL.uA rfl rfl ?_);refine zg 1 rfl (G3 (kk:=kk) (p:= .Ek true) (dl:= -11) O ac rfl rfl rfl rfl rfl G9 rfl rfl λK a6 al=>⟨⟨true,K.k,false,K.w - 1⟩,some .len,?_,List.mem_singleton.2 rfl,?_⟩)
          ·obtain⟨bb,be,bi,w3⟩:=K;obtain⟨U,g2,Z,ap,bn,aq⟩:=al;simp only at U g2 Z ap;subst U g2 Z;have bo:w3<134217728:=aq;have e:(⟨false,false,true,w3⟩:M4).num+(-11)=((8*(w3 - 1)+1:Nat):Int):=by simp only [M4.num,Bool.toNat_true,Bool.toNat_false];omega
           rw [e,Fs (by omega)];simp only [M4.num,Bool.toNat_true,Bool.toNat_false];omega
          exact zg 2 rfl (a2 X O az _ rfl)
         ·have hex:(!ay || m.w==1)=false:=by rw [d1];simp;omega
          rw [hex];refine zg 5 rfl (JL.uA rfl rfl ?_);refine zg 1 rfl (G3 (kk:=kk) (p:= .Ek false) (dl:= -7) O ac rfl rfl rfl rfl rfl G9 rfl rfl λK a6 al=>⟨⟨true,K.k,true,K.w - 1⟩,some .len,?_,List.mem_singleton.2 rfl,?_⟩)
          ·obtain⟨bb,be,bi,w3⟩:=K;obtain⟨U,g2,Z,ap,bn,aq⟩:=al;simp only at U g2 Z ap;subst U g2 Z;have bo:w3<134217728:=aq;have e:(⟨false,false,true,w3⟩:M4).num+(-7)=((8*(w3 - 1)+5:Nat):Int):=by simp only [M4.num,Bool.toNat_true,Bool.toNat_false];omega
           rw [e,Fs (by omega)];simp only [M4.num,Bool.toNat_true,Bool.toNat_false];omega
          exact zg 2 rfl (a2 X O az _ rfl)
       ·refine⟨some (.Cp ay true 0 m),by simp [Fam.BY,ag],?_⟩;refine zg 2 rfl ?_;have bq:m.s=false:=by simpa using ag
        refine zg 4 rfl (Am (v:=CQ (BF m&&& 4)) rfl (λρ h=>Ew (c:=4) am (h _ _ rfl) (h _ _ rfl) (by decide)) ?_);refine Am (v:= .bool false) rfl (λρ h=>Yl.to (Hu (h _ _ rfl) (h _ _ rfl)) (by rw [(HA m).2 bq];rfl)) (zg 11 rfl ?_);refine JL.again ?_;rw [← a7];exact Ep [(0,.pointer (some F.uA)),(2,iV wt),(3,.bool ay),(4,.bool true),(5,iV ((0:Nat):Int)),(6,.int .i32 (m:M4).num)] rfl (bD (ay,true,0,m,wt) ⟨λ_=>a1.2.1 bq,Nat.zero_le _,a9⟩)
      ·rw [if_pos rfl];refine zg 15 rfl (JL.uA rfl rfl ?_);refine G6 (kk:=kk) (p:= .EA true) O ac rfl rfl rfl rfl rfl G1 Ic rfl ?_;intro m bI a1;have a9:Da m:=a1.2.2;have am:Cq m:=a9.Cq;by_cases ag:m.s=true
       ·refine⟨some (.Ek (!true || m.w==1)),by simp [Fam.BY,ag],?_⟩;refine zg 2 rfl ?_;obtain⟨bu,bv,bw⟩:=a1.1 ag;refine zg 4 rfl (Am (v:=CQ (BF m&&& 4)) rfl (λρ h=>Ew (c:=4) am (h _ _ rfl) (h _ _ rfl) (by decide)) ?_);refine Am (v:= .bool true) rfl (λρ h=>Yl.to (Hu (h _ _ rfl) (h _ _ rfl)) (by have bx:(((BF m&&& 4:Nat):Int)≠0):=(λe=>by rw [(HA m).1 e] at ag;cases ag);rw [decide_eq_true bx])) ?_;refine zg 6 rfl (Am (v:=CQ (BF m&&& 3)) rfl (λρ h=>Ew (c:=3) am (h _ _ rfl) (h _ _ rfl) (by decide)) ?_);refine Am (v:= .bool false) rfl (λρ h=>Yl.to (Hu (h _ _ rfl) (h _ _ rfl)) (by rw [(NM m).2 ⟨bu,bv⟩];rfl)) (zg 2 rfl ?_);refine Am (v:=CQ m.w) rfl (λρ h=>IA am (h _ _ rfl) (h _ _ rfl)) (Am (v:= .bool false) rfl (λρ h=>Yl.to (Yl.eql (h _ _ rfl) (h _ _ rfl)) (by rw [decide_eq_false (λe=>bw (by omega))])) ?_);refine zg 12 rfl (Am (v:= .bool (!true)) rfl (λρ h=>Yl.not (h _ _ rfl)) ?_);refine zg 1 rfl (J7 (c:= !true) (i:=119) rfl (λd1=>?_) (λd1=>?_))
        ·refine Ie rfl rfl rfl (zg 5 rfl ?_);have hex:(!true || m.w==1)=true:=by rw [d1];simp
         rw [hex];refine zg 2 rfl (Am (v:= .int .i32 (-11)) rfl (λρ h=>Yl.to (Yl.sub (h _ _ rfl) (h _ _ rfl)) rfl) ?_);refine zg 6 rfl (JL.uA rfl rfl ?_);refine zg 1 rfl (G3 (kk:=kk) (p:= .Ek true) (dl:= -11) O ac rfl rfl rfl rfl rfl G9 rfl rfl λK a6 al=>⟨⟨true,K.k,false,K.w - 1⟩,some .len,?_,List.mem_singleton.2 rfl,?_⟩)
         ·obtain⟨bb,be,bi,w3⟩:=K;obtain⟨U,g2,Z,ap,bn,aq⟩:=al;simp only at U g2 Z ap;subst U g2 Z;have bo:w3<134217728:=aq;have e:(⟨false,false,true,w3⟩:M4).num+(-11)=((8*(w3 - 1)+1:Nat):Int):=by simp only [M4.num,Bool.toNat_true,Bool.toNat_false];omega
          rw [e,Fs (by omega)];simp only [M4.num,Bool.toNat_true,Bool.toNat_false];omega
         exact zg 2 rfl (a2 X O az _ rfl)
        ·refine Am (v:= .int .i32 (m:M4).num) rfl (λρ h=>Yl.move (h _ _ rfl)) (Am (v:=CQ m.w) rfl (λρ h=>IA am (h _ _ rfl) (h _ _ rfl)) ?_);refine zg 3 rfl (FX (p:=(m.w:Int)=1) rfl (λd2=>?_) (λd2=>?_))
         ·have hex:(!true || m.w==1)=true:=by rw [d1];simp;omega
          rw [hex];refine zg 2 rfl (Am (v:= .int .i32 (-11)) rfl (λρ h=>Yl.to (Yl.sub (h _ _ rfl) (h _ _ rfl)) rfl) ?_);refine zg 6 rfl (JL.uA rfl rfl ?_);refine zg 1 rfl (G3 (kk:=kk) (p:= .Ek true) (dl:= -11) O ac rfl rfl rfl rfl rfl G9 rfl rfl λK a6 al=>⟨⟨true,K.k,false,K.w - 1⟩,some .len,?_,List.mem_singleton.2 rfl,?_⟩)
          ·obtain⟨bb,be,bi,w3⟩:=K;obtain⟨U,g2,Z,ap,bn,aq⟩:=al;simp only at U g2 Z ap;subst U g2 Z;have bo:w3<134217728:=aq;have e:(⟨false,false,true,w3⟩:M4).num+(-11)=((8*(w3 - 1)+1:Nat):Int):=by simp only [M4.num,Bool.toNat_true,Bool.toNat_false];omega
           rw [e,Fs (by omega)];simp only [M4.num,Bool.toNat_true,Bool.toNat_false];omega
          exact zg 2 rfl (a2 X O az _ rfl)
         ·have hex:(!true || m.w==1)=false:=by rw [d1];simp;omega
          rw [hex];refine zg 5 rfl (JL.uA rfl rfl ?_);refine zg 1 rfl (G3 (kk:=kk) (p:= .Ek false) (dl:= -7) O ac rfl rfl rfl rfl rfl G9 rfl rfl λK a6 al=>⟨⟨true,K.k,true,K.w - 1⟩,some .len,?_,List.mem_singleton.2 rfl,?_⟩)
          ·obtain⟨bb,be,bi,w3⟩:=K;obtain⟨U,g2,Z,ap,bn,aq⟩:=al;simp only at U g2 Z ap;subst U g2 Z;have bo:w3<134217728:=aq;have e:(⟨false,false,true,w3⟩:M4).num+(-7)=((8*(w3 - 1)+5:Nat):Int):=by simp only [M4.num,Bool.toNat_true,Bool.toNat_false];omega
           rw [e,Fs (by omega)];simp only [M4.num,Bool.toNat_true,Bool.toNat_false];omega
          exact zg 2 rfl (a2 X O az _ rfl)
       ·refine⟨some (.Cp true true 0 m),by simp [Fam.BY,ag],?_⟩;refine zg 2 rfl ?_;have bq:m.s=false:=by simpa using ag
        refine zg 4 rfl (Am (v:=CQ (BF m&&& 4)) rfl (λρ h=>Ew (c:=4) am (h _ _ rfl) (h _ _ rfl) (by decide)) ?_);refine Am (v:= .bool false) rfl (λρ h=>Yl.to (Hu (h _ _ rfl) (h _ _ rfl)) (by rw [(HA m).2 bq];rfl)) (zg 11 rfl ?_);refine JL.again ?_;rw [← a7];exact Ep [(0,.pointer (some F.uA)),(2,iV wt),(3,.bool true),(4,.bool true),(5,iV ((0:Nat):Int)),(6,.int .i32 (m:M4).num)] rfl (bD (true,true,0,m,wt) ⟨λ_=>a1.2.1 bq,Nat.zero_le _,a9⟩)
   ·refine JL.done (zg 4 rfl ?_);refine JL.uA rfl rfl (G6 (kk:=kk) (p:= .El sv aw it) O ac rfl rfl rfl rfl rfl G1 Ic rfl λa8 bN br=>⟨some (.Cp sv aw it a8),List.mem_singleton.2 rfl,?_⟩);refine zg 3 rfl (JL.again ?_);rw [← a7];exact Ep [(0,.pointer (some F.uA)),(2,iV wt),(3,.bool sv),(4,.bool aw),(5,iV (it:Int)),(6,.int .i32 (a8:M4).num)] rfl (bD (sv,aw,it,a8,wt) ⟨br.2.2.2,bz.2.1,br.2.2.1⟩)
 exact λa bJ=>key 5 a (by omega) bJ
set_option maxHeartbeats 4000000 in
theorem U1{F:Fam}{n:Nat}{L:Env}{ds:Ld_}{k:Li_}{cs:Lf_}{s:St}{b:Frame}{ops:Ao_}{i:Nat}{rest:List Nat}{d:Option Tmp}{x:Operand}{ats:Array TypeId}{ty:TypeId}{pp:String}{af:Ae_}{g:On_}{kk:Nat}(K:s.q=false)(O:ops[i]? =some ⟨d,.call ⟨.value (.func 162),#[x],ats⟩,ty,pp,af,g⟩)(hw:AL L ops ⟨d,.call ⟨.value (.func 162),#[x],ats⟩,ty,pp,af,g⟩=some true)(U:((b.kind != .early)&&Bf n d)=true)(Y:ev L x=some (.pointer (some F.uA)))
  (h:JL (AW Tryz.prog false) (Stop Tryz.prog F (.lk kk .EX)) b n (Av L d (.tuple #[])) ds (.inRegion ops rest::k) cs s):
  JL (AW Tryz.prog false) (Stop Tryz.prog F (.lk kk .F3)) b n L ds (.inRegion ops (i::rest)::k) cs s:=by
 refine G4 (vs:= [.pointer (some F.uA)]) O hw U Tryz.func162 (by decide+kernel) rfl (by simp [evs,Y]) (Nat.le_of_ble_eq_true rfl) λac back=>zg 2 rfl (KS (kk:=kk) (p:= .F3) CZ.stop K rfl (λ_ _=>rfl) rfl rfl rfl rfl (by simp) TJ ?_);refine zg 6 rfl (JL.uA rfl rfl ?_);refine Rq (kk:=kk) (p:= .Hb) (old:=M4.zero) (nw:=⟨true,false,false,0⟩) CZ.stop K rfl rfl rfl rfl rfl NS rfl rfl rfl (λq Z=>⟨some .len,by simp [Fam.BY],?_⟩) (λm q hm Z=>⟨some (.El false false 0),by simp [Fam.BY,hm],?_⟩)
 ·refine JL.done (zg 5 rfl ?_);refine KS (kk:=kk) (p:= .len) CZ.stop K rfl (λ_ _=>rfl) rfl rfl rfl rfl (by simp) NY (zg 3 rfl ?_);refine OD (kk:=kk) (p:= .Kt) CZ.stop K rfl (λ_ _=>rfl) rfl rfl rfl rfl Tryz.underlying229 Tryz.underlying185 O7 rfl (O0 (kk:=kk) (p:= .JD) (ad:=F.uA) CZ.stop K rfl (λ_ _=>rfl) rfl rfl rfl rfl (by simp) TI rfl rfl ?_);exact JL.done (JL.ret rfl rfl (Bz.none Tryz.func162 rfl) (back _ _ _ _ h))
 ·refine JL.done (zg 4 rfl ?_);refine V4 (kk:=kk) K rfl rfl rfl rfl (JL.done ?_);exact JL.fin rfl rfl (Bz.none Tryz.func162 rfl) (back _ _ _ _ h)
set_option maxHeartbeats 4000000 in
theorem VS{F:Fam}{n:Nat}{L:Env}{ds:Ld_}{k:Li_}{cs:Lf_}{s:St}{b:Frame}{ops:Ao_}{i:Nat}{rest:List Nat}{d:Option Tmp}{x:Operand}{ats:Array TypeId}{ty:TypeId}{pp:String}{af:Ae_}{g:On_}{kk:Nat}(K:s.q=false)(O:ops[i]? =some ⟨d,.call ⟨.value (.func 121),#[x],ats⟩,ty,pp,af,g⟩)(hw:AL L ops ⟨d,.call ⟨.value (.func 121),#[x],ats⟩,ty,pp,af,g⟩=some true)(U:((b.kind != .early)&&Bf n d)=true)(Y:ev L x=some (.pointer (some F.uA)))
  (h:JL (AW Tryz.prog false) (Stop Tryz.prog F (.lk kk .EX)) b n (Av L d (.tuple #[])) ds (.inRegion ops rest::k) cs s):
  JL (AW Tryz.prog false) (Stop Tryz.prog F (.lk kk .F3)) b n L ds (.inRegion ops (i::rest)::k) cs s:=by
 refine G4 (vs:= [.pointer (some F.uA)]) O hw U Tryz.func121 (by decide+kernel) rfl (by simp [evs,Y]) (Nat.le_of_ble_eq_true rfl) λZ back=>zg 3 rfl (Am (v:= .pointer (some F.uA)) rfl (λρ h=>Gr (a:=F.uA) 1 0 Tryz.underlying142 (AR Tryz.type140) rfl rfl rfl (h _ _ rfl)) ?_);refine U1 (kk:=kk) K rfl rfl rfl rfl (JL.done ?_);exact JL.fin rfl rfl (Bz.none Tryz.func121 rfl) (back _ _ _ _ h)
end Pal
namespace Pal
open Go Go.Conc Go.Conc.Lib Go.Proofs Go.ConcR.Gen
def Is(m:M4):LP:=if m.l=false/\m.k=false/\m.s=false/\m.w≠0 then .EJ m else .EY
def P2(m:M4):LP:=if m.s=true then .EW true else if m.k=false/\m.w≠0 then .EJ {m with l:=false} else .EY
set_option maxHeartbeats 4000000 in
theorem UU{F:Fam}{n:Nat}{L:Env}{ds:Ld_}{k:Li_}{cs:Lf_}{s:St}{b:Frame}{ops:Ao_}{i:Nat}{rest:List Nat}{d:Option Tmp}{x Z:Operand}{nw:M4}{ats:Array TypeId}{ty:TypeId}{pp:String}{af:Ae_}{g:On_}{kk:Nat}(U:s.q=false)(a4:ops[i]? =some ⟨d,.call ⟨.value (.func 191),#[x,Z],ats⟩,ty,pp,af,g⟩)(hw:AL L ops ⟨d,.call ⟨.value (.func 191),#[x,Z],ats⟩,ty,pp,af,g⟩=some true)(a5:((b.kind != .early)&&Bf n d)=true)(a6:ev L x=some (.pointer (some F.uA)))(a7:ev L Z=some (.int .i32 nw.num))(al:nw.l=false)(a8:Da nw)(ac:Cq nw)
  (h:JL (AW Tryz.prog false) (Stop Tryz.prog F (.lk kk .EY)) b n (Av L d (.tuple #[])) ds (.inRegion ops rest::k) cs s):
  JL (AW Tryz.prog false) (Stop Tryz.prog F (.lk kk (if nw.s=true then .EW true else if nw.k=false/\nw.w≠0 then .EJ nw else .EY))) b n L ds (.inRegion ops (i::rest)::k) cs s:=by
 refine G4 (vs:= [.pointer (some F.uA),.int .i32 nw.num]) a4 hw a5 Tryz.func191 (by decide+kernel) rfl (by simp [evs,a6,a7]) (Nat.le_of_ble_eq_true rfl) λam back=>zg 4 rfl (Am (v:= .int .i32 ({nw with l:=true}:M4).num) rfl (λρ h=>Xh ac al (h _ _ rfl) (h _ _ rfl)) ?_);refine Am (v:=CQ (BF ({nw with l:=true}:M4)&&& 1)) rfl (λρ h=>Ew (c:=1) (m:={nw with l:=true}) ac (h _ _ rfl) (h _ _ rfl) (by decide)) (Am (v:= .bool false) rfl (λρ h=>Yl.to (Yl.eql (h _ _ rfl) (h _ _ rfl)) (by rw [decide_eq_false (λe=>by have q:=(PZ _).1 e;cases q)])) ?_);refine zg 6 rfl (Am (v:=CQ (BF nw&&& 4)) rfl (λρ h=>Ew (c:=4) ac (h _ _ rfl) (h _ _ rfl) (by decide)) ?_);refine zg 2 rfl (FX (p:=((BF nw&&& 4:Nat):Int)=0) rfl (λc=>?_) (λc=>?_))
 ·have ap:=(HA nw).1 c;rw [if_neg (by rw [ap];exact Bool.false_ne_true)];refine zg 6 rfl ?_;refine Ix ?_;refine Ep [(0,.pointer (some F.uA)),(4,.int .i32 nw.num)] rfl ?_;refine TM λaq aw=>?_;have a9:(if nw.k=false/\nw.w≠0 then LP.EJ nw else .EY)=Is nw:=by unfold Is;rw [al,ap];simp
  rw [a9];refine Tr (P:=Tryz.prog) (F:=F) (s:=s) (kk:=kk) (ph:=λm=>LP.EJ m) (ok:=Da) (head:=λ(X:Ph->GP) (a:M4)=>JL (AW Tryz.prog false) (X (.lk kk (Is a))) (base 191) Tryz.f191.ntmps ([(0,.pointer (some F.uA)),(4,.int .i32 (a:M4).num)]) [] aq (am::cs) s) ?_ nw a8;intro Y bv ay hC old az;have K:Cq old:=az.Cq;show JL (AW Tryz.prog false) (Y (.lk kk (Is old))) (base 191) Tryz.f191.ntmps [(0,.pointer (some F.uA)),(4,.int .i32 old.num)] [] aq (am::cs) s;rw [aw];refine zg 5 rfl (Am (v:=CQ old.w) rfl (λρ h=>IA K (h _ _ rfl) (h _ _ rfl)) ?_);refine zg 2 rfl (Lt (q:=(old.w:Int)=0) (i:=17) rfl (λc2=>?_) (λc2=>?_))
  ·have O:Is old= .EY:=by unfold Is;rw [if_neg (λe=>e.2.2.2 (by omega))]
   refine zg 6 rfl ?_;rw [O];exact JL.ret rfl rfl (Bz.none Tryz.func191 rfl) (back _ _ _ _ (MK (λg s=>ay _ g s) h))
  ·refine Am (v:= .int .i32 (old:M4).num) rfl (λρ h=>Yl.move (h _ _ rfl)) (Am (v:=CQ (BF old&&& 7)) rfl (λρ h=>Ew (c:=7) K (h _ _ rfl) (h _ _ rfl) (by decide)) ?_);refine zg 3 rfl (FX (p:=((BF old&&& 7:Nat):Int)≠0) rfl (λc3=>?_) (λc3=>?_))
   ·have O:Is old= .EY:=by unfold Is;rw [if_neg (λe=>c3 ((TR old).2 ⟨e.1,e.2.1,e.2.2.1⟩))]
    rw [O];exact JL.ret rfl rfl (Bz.none Tryz.func191 rfl) (back _ _ _ _ (MK (λg s=>ay _ g s) h))
   ·have bb:=(TR old).1 (Decidable.not_not.1 c3);obtain⟨l0,bw,bx,w0⟩:=old;obtain⟨z1,a0,a1⟩:=bb;simp only at z1 a0 a1 c2;subst z1 a0 a1;have a2:w0≠0:=by omega
    have O:Is ⟨false,false,false,w0⟩= .EJ ⟨false,false,false,w0⟩:=by unfold Is;rw [if_pos ⟨rfl,rfl,rfl,a2⟩]
    rw [O];refine zg 4 rfl (Am (v:= .int .i32 (⟨false,false,false,w0 - 1⟩:M4).num) rfl (λρ h=>XB (m:=⟨false,false,false,w0⟩) K a2 (h _ _ rfl) (h _ _ rfl)) ?_);refine Am (v:= .int .i32 (⟨false,true,false,w0 - 1⟩:M4).num) rfl (λρ h=>Nr (c:=2) (m:=⟨false,false,false,w0 - 1⟩) (by unfold Cq at K ⊢;simp only at K ⊢;omega) (by decide) (Qa _) rfl (h _ _ rfl) (h _ _ rfl)) (zg 7 rfl ?_);refine JL.uA rfl rfl (zg 2 rfl ?_);refine λT be=>(AW Tryz.prog false).stop (hC ⟨false,false,false,w0⟩ _ az λX bz bi a3 bn bo=>?_);refine OU (kk:=kk) (p:= .EJ ⟨false,false,false,w0⟩) (old:=⟨false,false,false,w0⟩) (nw:=⟨false,true,false,w0 - 1⟩) bi U rfl rfl rfl rfl rfl NS rfl rfl rfl (λq bq=>⟨some (.EW false),by simp [Fam.BY],?_⟩) (λm q hm bq=>⟨some .He,by simp [Fam.BY,hm],?_⟩) T be
    ·refine JL.done (zg 5 rfl ?_);refine Am (v:= .pointer (some F.qA)) rfl (λρ h=>Gr (a:=F.uA) 0 1 Tryz.underlying140 Ml rfl rfl rfl (h _ _ rfl)) (QR (kk:=kk) (st:=false) a3 U rfl rfl rfl rfl Tu rfl rfl ?_);exact JL.done (JL.ret rfl rfl (Bz.none Tryz.func191 rfl) (back _ _ _ _ (MK (λg s=>bn _ g s) h)))
    ·refine JL.done (zg 5 rfl ?_);refine JL.uA rfl rfl (G6 (kk:=kk) (p:= .He) a3 U rfl rfl rfl rfl rfl G1 au rfl λag bA br=>⟨some (Is ag),List.mem_singleton.2 rfl,?_⟩);refine zg 3 rfl (JL.again ?_);rw [← aw];exact Ep [(0,.pointer (some F.uA)),(4,.int .i32 ag.num)] rfl (bo ag br)
 ·have bu:nw.s=true:=by rcases Bool.eq_false_or_eq_true nw.s with hh | hh;exact hh;exact absurd ((HA nw).2 hh) c
  rw [if_pos bu];refine zg 3 rfl (Am (v:= .pointer (some F.qA)) rfl (λρ h=>Gr (a:=F.uA) 0 1 Tryz.underlying140 Ml rfl rfl rfl (h _ _ rfl)) ?_);refine QR (kk:=kk) (st:=true) CZ.stop U rfl rfl rfl rfl Tu rfl rfl (JL.done ?_);exact JL.fin rfl rfl (Bz.none Tryz.func191 rfl) (back _ _ _ _ h)
set_option maxHeartbeats 4000000 in
theorem Uw{F:Fam}{n:Nat}{L:Env}{ds:Ld_}{k:Li_}{cs:Lf_}{s:St}{b:Frame}{ops:Ao_}{i:Nat}{rest:List Nat}{d:Option Tmp}{x:Operand}{ats:Array TypeId}{ty:TypeId}{pp:String}{af:Ae_}{g:On_}{kk:Nat}(K:s.q=false)(al:ops[i]? =some ⟨d,.call ⟨.value (.func 163),#[x],ats⟩,ty,pp,af,g⟩)(hw:AL L ops ⟨d,.call ⟨.value (.func 163),#[x],ats⟩,ty,pp,af,g⟩=some true)(am:((b.kind != .early)&&Bf n d)=true)(ap:ev L x=some (.pointer (some F.uA)))
  (h:JL (AW Tryz.prog false) (Stop Tryz.prog F .HI) b n (Av L d (.tuple #[])) ds (.inRegion ops rest::k) cs s):
  JL (AW Tryz.prog false) (Stop Tryz.prog F (.lk kk .Gx)) b n L ds (.inRegion ops (i::rest)::k) cs s:=by
 refine G4 (vs:= [.pointer (some F.uA)]) al hw am Tryz.func163 (by decide+kernel) rfl (by simp [evs,ap]) (Nat.le_of_ble_eq_true rfl) λa1 back=>zg 6 rfl (JL.uA rfl rfl ?_);refine G6 (kk:=kk) (p:= .Gx) CZ.stop K rfl rfl rfl rfl rfl G1 Z5 rfl λa2 a3 a4=>⟨some .JK,List.mem_singleton.2 rfl,?_⟩;refine zg 4 rfl (OD (kk:=kk) (p:= .JK) CZ.stop K rfl (λ_ _=>rfl) rfl rfl rfl rfl Tryz.underlying229 Tryz.underlying185 O7 rfl ?_);refine O0 (kk:=kk) (p:= .JR) (ad:=F.uA) CZ.stop K rfl (λ_ _=>rfl) rfl rfl rfl rfl (by simp) aX rfl rfl (zg 2 rfl ?_);refine KS (kk:=kk) (p:= .JI) CZ.stop K rfl (λ_ _=>rfl) rfl rfl rfl rfl (by simp) TJ (zg 5 rfl ?_);refine JL.uA rfl rfl (G3 (kk:=kk) (p:= .HG) (dl:= -1) CZ.stop K rfl rfl rfl rfl rfl G9 rfl rfl λm q Y=>⟨{m with l:=false},some (P2 m),?_,List.mem_singleton.2 rfl,?_⟩)
 ·obtain⟨aq,O,U,w3⟩:=m;obtain⟨Z,aw⟩:=Y;simp only at Z;subst Z;have a5:w3<134217728:=aw;have a6:=Bool.toNat_le O;have a7:=Bool.toNat_le U;have e:(⟨true,O,U,w3⟩:M4).num+(-1)=((2*O.toNat+4*U.toNat+8*w3:Nat):Int):=by simp only [M4.num,Bool.toNat_true];omega
  rw [e,Fs (by omega)];simp only [M4.num,Bool.toNat_false];omega
 ·have ac:Da m:=Y.2;have ay:Cq ({m with l:=false}:M4):=(show Da ({m with l:=false}:M4) from ac).Cq;refine zg 8 rfl ?_;refine FX (p:=({m with l:=false}:M4).num≠0) rfl (λc=>?_) (λc=>?_)
  ·refine JL.region (zg 2 rfl ?_);refine UU (kk:=kk) (nw:={m with l:=false}) K rfl rfl rfl rfl rfl rfl ac ay (zg 2 rfl ?_);refine KS (kk:=kk) (p:= .EY) CZ.stop K rfl (λ_ _=>rfl) rfl rfl rfl rfl (by simp) NY (JL.done ?_);exact JL.fin rfl rfl (Bz.none Tryz.func163 rfl) (back _ _ _ _ h)
  ·have az:({m with l:=false}:M4).num=0:=Decidable.not_not.1 c;have ag:m.k=false/\m.s=false/\m.w=0:=by
    obtain⟨aq,O,U,w3⟩:=m;cases O <;> cases U <;> simp [M4.num] at az ⊢ <;> omega
   have a0:P2 m= .EY:=by unfold P2;rw [if_neg (by rw [ag.2.1];exact Bool.false_ne_true),if_neg (λe=>e.2 ag.2.2)]
   rw [a0];refine zg 2 rfl (KS (kk:=kk) (p:= .EY) CZ.stop K rfl (λ_ _=>rfl) rfl rfl rfl rfl (by simp) NY ?_);exact JL.done (JL.fin rfl rfl (Bz.none Tryz.func163 rfl) (back _ _ _ _ h))
theorem JO.X9{F:Fam}{n:Nat}{M:Env}{ds:Ld_}{cs:Lf_}{s:St}{b:Frame}{kk:Nat}(K:b.roundOf=none)(O:s.q=false)(h:JO (AW Tryz.prog false) (Stop Tryz.prog F .HI) b n M ds cs s):
  JO (AW Tryz.prog false) (Stop Tryz.prog F (.lk kk .Gx)) b n M (dcall 122 #[.pointer (some F.uA)]::ds) cs s:=by
 refine JO.enter (vs:= [.pointer (some F.uA)]) K Tryz.func122 (by decide+kernel) rfl (Nat.le_of_ble_eq_true rfl) λT U todo=>zg 3 rfl (Am (v:= .pointer (some F.uA)) rfl (λρ h=>Gr (a:=F.uA) 1 0 Tryz.underlying142 (AR Tryz.type140) rfl rfl rfl (h _ _ rfl)) ?_);refine Uw (kk:=kk) O rfl rfl rfl rfl (JL.done ?_);exact JL.out rfl (JO.leaveD rfl Tryz.func122 rfl (.inl rfl) (h T U todo))
end Pal
namespace Pal
open Go Go.Conc
open Go.ConcN (upd)
section
variable {P:Program}{F:Fam}{n:Nat}{L L':Env}{ds:Ld_}{k:Li_}{cs:Lf_}{s s':St}{b:Frame}
variable {ops:Ao_}{i:Nat}{rest:List Nat}{d:Option Tmp}{f:FuncId}{x y z:Operand}{ats:Array TypeId}{ty t u tw:TypeId}{pp:String}{af:Ae_}{g:On_}{kk:Nat}
theorem Uz{m:Nat}(h:Bl P t=some m)(w:World):(Go.sizeOf t).run P w= .ok m w:=by
 unfold Bl at h;simp only [Go.sizeOf,typeInfo,bind,Sem.bind,program,Sem.run];cases hi:P.info? t with
 | none=>rw [hi] at h;cases h
 | some j=>rw [hi] at h;simp at h;subst h;rfl
theorem XQ{w:World}{K:Nat->Value}(h:F.FD w K)(O:kk<F.n):w.cell? ⟨F.fd,kk,none⟩=some (K kk)/\w.frozen? ⟨F.fd,kk,none⟩=false:=by
 unfold Fam.FD Fam.Im at h;constructor
 ·simp [World.cell?,h,O]
 ·simp [World.frozen?,h]
theorem UX{w:World}{O:Nat->Value}{v:Value}(h:F.FD w O)(ac:kk<F.n):w.setCell ⟨F.fd,kk,none⟩ v=F.Hd w (upd O kk v):=by
 unfold Fam.Hd World.setCell;congr 1;apply Array.ext_getElem?;intro i;unfold Fam.FD Fam.Im at h;rw [Array.getElem?_modify];have U:F.fd<w.heap.size:=by
  rcases Nat.lt_or_ge F.fd w.heap.size with K | K
  ·exact K
  ·simp [Array.getElem?_eq_none K] at h
 by_cases e:F.fd=i
 ·subst e;rw [Array.getElem?_setIfInBounds_self_of_lt U,h];simp only [if_true,Option.map_some,Fam.Im,Option.some.injEq,Obj.cells.injEq,and_true];apply Array.ext
  ·simp
  ·intro j ag Y;by_cases e2:kk=j
   ·subst e2;simp [upd]
   ·have Z:¬j=kk:=λe=>e2 e.symm;simp [upd,Z];rw [Array.getElem_setIfInBounds (by simpa using Y),if_neg e2];simp
 ·rw [Array.getElem?_setIfInBounds_ne e,if_neg e]
theorem U7{X:Ph->GP}(aw:CZ P F X){a:Option Addr}{l c:Nat}(ay:s.q=false)(Y:kk<F.n)
  (az:ops[i]? =some ⟨d,.store t x y,ty,pp,af,g⟩) (Z:b.roundOf=none) (hw:AL L ops ⟨d,.store t x y,ty,pp,af,g⟩=some true) (U:((b.kind != .early)&&Bf n d)=true)
  (a0:Bl P t=some 1) (a1:(P.funcs[b.fn]?).any (·.norace)=false) (a2:ev L x=some (.pointer (some ⟨F.fd,kk,none⟩))) (a3:ev L y=some (.slice a l c)) (hm:F.msg kk (.slice a l c) s.E)
  (h:JL (AW P false) (X (.lk kk .Gx)) b n (Av L d undef) ds (.inRegion ops rest::k) cs s):
  JL (AW P false) (X (.lk kk .EX)) b n L ds (.inRegion ops (i::rest)::k) cs s:=λT K=>by
 simp only [Bool.and_eq_true] at U
 refine(AW P _).stop (aw _ _ _ {
  run:=rfl,offers:=rfl,quiet:=(by simp [Fam.CO]),live:=λ_=>ay,act:=(by simp [Fam.act]),II:=(by simp),EZ:=(by simp),go:=(by simp),lk:=λk' l e a4=>by cases e;exact absurd rfl a4
  Cz:=(by simp),store:=λk' e=>?_,fin:=(by simp)})
 cases e
 refine⟨_,hm,G (fr b (CM T d undef) ds (.inRegion ops rest::k)) cs,rfl,λw a5 ac=>?_,h _ (K.put U.2 _)⟩
 obtain⟨c1,c2⟩:=XQ ac Y
 have ag:execOp (⟨T,ds⟩:Act).eval ⟨d,.store t x y,ty,pp,af,g⟩=(do Instr.storeAt t (.pointer (some ⟨F.fd,kk,none⟩)) (.slice a l c);pure Next.skip):=by
  rw [KD];simp only [execOp,K.ev a2,K.ev a3]
 have al:(Value.slice a l c).cells= #[.slice a l c]:=rfl;have am:(Value.slice a l c).oneCell'=true:=rfl;have ap:(Addr.add ⟨F.fd,kk,none⟩ 0)=⟨F.fd,kk,none⟩:=by rw [Ec rfl];rfl
 have aq:=Uz (P:=P) a0 w;have O:=run_store P w ⟨F.fd,kk,none⟩ (.slice a l c) .plain am;rw [c1] at O;simp only [c2,Bool.false_eq_true,if_false] at O;rw [BM Z,BM Z,stepG_none (a:=⟨T,ds⟩) (w':=F.Hd w (upd a5 kk (.slice a l c))) az (B6 K hw) (by simpa using U.1) (by
  rw [ag]
  simp [Instr.storeAt,Instr.sureAddr,storeVar,al,aq,storeCells,ap,O,UX ac Y,Result.andThen]),Eg]
 have e2:listed P b.fn ⟨T,ds⟩ ⟨d,.store t x y,ty,pp,af,g⟩ w= #[⟨.cell ⟨F.fd,kk,none⟩,true,false⟩]:=by
  unfold listed;rw [ag];have a6:=events_store (P:=P) (w:=w) (es:= #[]) ⟨F.fd,kk,none⟩ (.slice a l c) .plain am;have a7:(do Instr.storeAt t (.pointer (some ⟨F.fd,kk,none⟩)) (.slice a l c);pure Next.skip:Sem Next).events P w #[]= #[⟨.cell ⟨F.fd,kk,none⟩,true,false⟩]:=by
   simp [Instr.storeAt,Instr.sureAddr,storeVar,al,aq,storeCells,ap,O,c1,c2,a6,Result.evThen]
  rw [a7,seen_def];simp [seenStep,a1]
 rw [e2]
end
end Pal
namespace Pal
open Go Go.Conc Go.Proofs
open Go.Proofs.Tryz
open Go.Conc.Lib Go.ConcR.Gen
theorem ab:(Tryz.prog.funcs[117]?).any (·.norace)=false:=by rw [func117];rfl
def Kp(fu_:Nat)(K:AQ)(p:Aw)(j:Nat):Option (List Int):=
 (f120 fu_ K).bind λO=>
 (f119 fu_ ([O]:List (List (AG))) ((j:Nat):Int) p ([]:List ((Nat×Bb)×Bool))).bind λU=>
 some U.1
set_option maxHeartbeats 1000000 in
theorem Zv{F:Fam}{j:Nat}{E:LH}{ap a1 aq:An}{Z c2 aw ac op ag al am oi kf off:Nat}{p:Aw}{O:AQ}(a4:At E ac op [.slice ap p.length Z])(a5:Al As E ap Z p)(a6:At E ag al [sV a1 O.1 c2,sV aq O.2 aw])(a7:Al (rL rI) E a1 c2 O.1)(a8:Al As E aq aw O.2)(hi:At E am oi [iV ((j:Nat):Int)])(a9:At E kf off [.slice (some ⟨F.fd,0,none⟩) F.n F.n]){fu_:Nat}{r:List Int}(a0:Kp fu_ O p j=some r)(a2:j<F.n)(bb:∀E' a c,Le E E'->Al rI E' a c r->(r= []->a=none)->F.msg j (.slice a r.length c) E'):
  Way Tryz.prog false (Stop Tryz.prog F (F.start j)) (born Tryz.prog ⟨.fn (.func 117) [.pointer (some F.sA),Aj ac op,Aj ag al,Aj am oi,.pointer (some F.uA),Aj kf off].toArray,#[]⟩) ⟨E,λ_=>none,false⟩:=by
 refine Wt (fn:=Tryz.f117) (vs:= [.pointer (some F.sA),Aj ac op,Aj ag al,Aj am oi,.pointer (some F.uA),Aj kf off]) func117 (by decide+kernel) rfl (by simp) (Nat.le_of_ble_eq_true rfl) ?_;obtain⟨H,be⟩:∃H:LH,H=λ_=>none:=⟨_,rfl⟩;rw [← be];have bi:Ap E H []:=trivial;refine(?_:JL (AW Tryz.prog false) (Stop Tryz.prog F (.lk j .F3)) (baseD 117) Tryz.f117.ntmps (Ga 0 [.pointer (some F.sA),Aj ac op,Aj ag al,Aj am oi,.pointer (some F.uA),Aj kf off]) [] [.code _] [K6 Tryz.prog] (Ak E H []));unfold Kp at a0;refine zg 2 rfl (JL.defer (vs:= [.pointer (some F.sA)]) rfl rfl rfl rfl rfl ?_);refine zg 3 rfl (CL 0 a4 BI rfl rfl rfl ?_);refine JS.makeMap rfl rfl rfl bi λr1 bn=>Am (v:= .agg #[sV ap p Z,.map (some r1)]) rfl (λρ h=>C3 [(0,1),(1,1)] h (Dz type153) underlying153 ⟨rfl,AR type80,rfl,AR type151,trivial⟩ rfl rfl) (JS.box (v:= .agg #[sV ap p Z,.map (some r1)]) rfl rfl rfl bn rfl λbL bo=>?_);refine zg 3 rfl (Dr 1 bo rfl λbM K bq br=>?_);refine Ei 5 λay=>Cs 0 ay rfl rfl (Gq 1 ay (a6.Ag K) F6 DX rfl rfl rfl ?_);refine Dj 4 ay 0 (hi.Ag K) A2 rfl rfl rfl rfl ?_;obtain⟨a3,bu,bv⟩:=bs a0;refine JG.call (i:=2) (vs:= [.agg #[sV a1 O.1 c2,sV aq O.2 aw]]) (Yn (a7.Ag K) (a8.Ag K) bu) (by decide+kernel) rfl rfl rfl (A3 func120 rfl) rfl br ?_;rintro _ bN _ U ⟨bw,bx,rfl,rfl,bz⟩ bA;refine JG.one (i:=3) rfl (by decide+kernel) (Take.DU (pp:=(rL (rM rI false rI false))) [sV bw a3 bx] ([a3]:List (List AG)) bA rfl rfl rfl underlying158 Jh Mj (by decide) rfl rfl rfl ⟨⟨_,_,rfl,bz⟩,trivial⟩ λbO bP bB bC=>?_);refine Ck [5,6] (BJ 3 bB bC rfl λbQ Y bD bE=>?_);obtain⟨bF,bG,bH⟩:=bs bv;refine Cv 0 (YC bD (bq.Ag (U.Ad Y)) (a5.Ag ((K.Ad U).Ad Y)) Bx.nil bG) rfl rfl (A3 func119 rfl) bE rfl ?_;rintro _ bR _ az ⟨bS,bT,bU,rfl,rfl,bI,bJ,bV⟩ bW;refine zg 3 rfl ?_;have bK:r=bF.1:=(Option.some.inj bH).symm;subst bK;refine JL.region (VS (kk:=j) rfl rfl rfl rfl rfl ?_);refine zg 3 rfl (JL.defer (vs:= [.pointer (some F.uA)]) rfl rfl rfl rfl rfl ?_);refine zg 2 rfl (CL 0 (a9.Ag (((K.Ad U).Ad Y).Ad az)) Dy rfl rfl rfl ?_);refine CL 0 (hi.Ag (((K.Ad U).Ad Y).Ad az)) A2 rfl rfl rfl (zg 1 rfl ?_);refine Am (v:= Aj F.fd j) rfl (λρ h=>Yl.to (Fp (xs:=List.replicate F.n ()) (m:=((j:Nat):Int)) (xv:=()) (List.length_replicate) (by simp [ix,a2]) underlying22 Eu (h _ _ rfl) (h _ _ rfl)) (by show Aj F.fd (j*1)=_;rw [Nat.mul_one])) (U7 (kk:=j) CZ.stop rfl a2 rfl rfl rfl rfl Eu ab rfl rfl (bb _ _ _ (((K.Ad U).Ad Y).Ad az) bI bJ) ?_);exact JL.done (JL.out rfl (JO.X9 (kk:=j) rfl rfl (JO.aD Tryz.Kd rfl rfl (JO.leaveD rfl func117 rfl (.inr rfl) UL))))
end Pal
namespace Pal
open Go Go.Conc Go.Proofs
open Go.Proofs.Tryz
open Go.Conc.Lib Go.ConcR.Gen
theorem OL.Y4{e:TypeId}{E:LH}{r c:Nat}{seg:Seg}{xs:Lv_}(h:OL e rV E (AX r) c seg xs)(Y:c=xs.length):seg= [(r,.cells xs.toArray e (0,0))]:=by
 obtain⟨wss,ag,K,Z⟩:=h;rcases ag with⟨al,_⟩ | ⟨bk,f,am,e2,ac,ap,O⟩
 ·cases al
 cases am;have hw:wss=xs.map λx=> [x]:=by
  apply List.ext_getElem?;intro i;rw [List.getElem?_map];cases U:xs[i]? with
  | none=>rw [List.getElem?_eq_none (by rw [K];exact List.getElem?_eq_none_iff.1 U)];rfl
  | some x=>
   have hi:i<wss.length:=by rw [K];exact(List.getElem?_eq_some_iff.1 U).1
   have:=(Z i x wss[i] U (List.getElem?_eq_getElem hi)).1;rw [List.getElem?_eq_getElem hi,this];rfl
 have aq:wss.flatten=xs:=by
  rw [hw];clear hw O Z K ac ap Y
  induction xs with
  | nil=>rfl
  | cons x xs aw=>simp [aw]
 rw [aq] at O;have az:rV.n=1:=rfl;have ay:f.toList=xs:=by
  rw [O];rw [List.take_of_length_le (by rw [Array.length_toList,ac,Y];exact Nat.le_refl _)]
 rw [e2,← ay]
noncomputable def Kl:Code:=match(Tryz.f77.body).bind (I8 0) with | some (.loop c)=>c | _=> .skip
noncomputable def T4:Code:=match(Tryz.f77.body).bind (I8 2) with | some (.loop c)=>c | _=> .skip
set_option maxHeartbeats 1000000 in
theorem X8{F:Fam}{n:Nat}(ay:F.n=n)(bv:0<n)(bw:n<=1000){E:LH}{ap a1 al:An}{am c2 aq:Nat}{p:Aw}{O:AQ}(az:Al As E ap am p)(a0:Al (rL rI) E a1 c2 O.1)(a2:Al As E al aq O.2)(hlen:p.length=n){Y Z kf:Nat}(a3:At E Y 0 [.slice ap p.length am])(a4:At E Z 0 [sV a1 O.1 c2,sV al O.2 aq])(a5:At E kf 0 [.slice (some ⟨F.fd,0,none⟩) F.n F.n]){fu_:Nat}{xs:Nat->List Int}(a6:∀j,j<n->Kp fu_ O p j=some (xs j))(a7:∀j,j<n->∀E' a c,Al rI E' a c (xs j)->(xs j= []->a=none)->F.msg j (.slice a (xs j).length c) E'){j:Nat}(ac:j<n){ag H:LH}(hle:Le E ag)(a8:Ap ag H []){k:Li_}{cs:Lf_}
  (h:∀U,Le E U->Ap U H []->JL (AW Tryz.prog true) (Stop Tryz.prog F (F.EC j)) (base 77) Tryz.f77.ntmps [(2,Aj Z 0),(3,Aj Y 0),(6,.pointer (some F.uA)),(7,.pointer (some F.sA)),(8,Aj kf 0),(19,iV (p.length:Int)),(20,iV ((j+1:Nat):Int))] [] (.inLoop Kl::k) cs (Ak U H [])):
  JL (AW Tryz.prog true) (Stop Tryz.prog F (.Gc j)) (base 77) Tryz.f77.ntmps [(2,Aj Z 0),(3,Aj Y 0),(6,.pointer (some F.uA)),(7,.pointer (some F.sA)),(8,Aj kf 0),(19,iV (p.length:Int)),(20,iV ((j:Nat):Int))] [] (.code Kl:: .inLoop Kl::k) cs (Ak ag H []):=by
 refine zg 2 rfl (Am (v:= .bool true) rfl (λρ h=>Yl.to (Yl.lss (h _ _ rfl) (h _ _ rfl)) (by rw [decide_eq_true (show((j:Nat):Int)<(p.length:Int) by omega)])) ?_);refine zg 9 rfl (BO a8 Cg λrn a9=>?_);refine Bv 0 a9 AB λbb=>?_;refine Dr 0 bb rfl λU be bi bn=>HZ (S':= []) (by simp) bn λbo=>?_;have K:=hle.trans be;refine zg 3 rfl (VT Tryz.Kd rfl rfl rfl rfl rfl rfl ?_);refine zg 2 rfl (Am (v:= .func (.func 117) #[] ([.pointer (some F.sA),Aj Y 0,Aj Z 0,Aj rn 0,.pointer (some F.uA),Aj kf 0]:Lv_).toArray) rfl (λρ h=>KC (by simp) (by simp [h (.tmp 7) _ rfl,h (.tmp 3) _ rfl,h (.tmp 2) _ rfl,h (.tmp 9) _ rfl,h (.tmp 6) _ rfl,h (.tmp 8) _ rfl])) ?_);have aw:=Zv (F:=F) (j:=j) (a3.Ag K) (az.Ag K) (a4.Ag K) (a0.Ag K) (a2.Ag K) bi (a5.Ag K) (a6 j ac) (by rw [ay];exact ac) (λE' a c _ bq br=>a7 j ac E' a c bq br);refine Yx (fi:= #[]) rfl rfl rfl rfl rfl rfl rfl (by first | exact aw | (simp only [List.append_toArray,List.nil_append,Array.append_empty,Array.empty_append];exact aw)) ?_
 refine zg 3 rfl ?_;have bu:Ax (((j:Nat):Int)+1)=some (((j+1:Nat)):Int):=by unfold Ax;rw [if_pos (by omega)];simp
 refine Bt bu rfl rfl rfl (zg 2 rfl ?_);exact AA (h U K bo) rfl
theorem U5{F:Fam}{n:Nat}(Y:F.n=n)(ay:0<n)(az:n<=1000){E:LH}{ap a1 ag:An}{al c2 am:Nat}{p:Aw}{O:AQ}(a0:Al As E ap al p)(a2:Al (rL rI) E a1 c2 O.1)(a3:Al As E ag am O.2)(hlen:p.length=n){Z ac kf:Nat}(a4:At E Z 0 [.slice ap p.length al])(a5:At E ac 0 [sV a1 O.1 c2,sV ag O.2 am])(a6:At E kf 0 [.slice (some ⟨F.fd,0,none⟩) F.n F.n]){fu_:Nat}{xs:Nat->List Int}(a7:∀j,j<n->Kp fu_ O p j=some (xs j))(a8:∀j,j<n->∀E' a c,Al rI E' a c (xs j)->(xs j= []->a=none)->F.msg j (.slice a (xs j).length c) E'){H:LH}{k:Li_}{cs:Lf_}
  (h:∀K,Le E K->Ap K H []->JL (AW Tryz.prog true) (Stop Tryz.prog F .Dt) (base 77) Tryz.f77.ntmps [(2,Aj ac 0),(3,Aj Z 0),(6,.pointer (some F.uA)),(7,.pointer (some F.sA)),(8,Aj kf 0),(19,iV (p.length:Int)),(20,iV (p.length:Int))] [] (.code Kl:: .inLoop Kl::k) cs (Ak K H [])):
  ∀(m j:Nat),j+m=n->0<m->∀U,Le E U->Ap U H []->JL (AW Tryz.prog true) (Stop Tryz.prog F (.Gc j)) (base 77) Tryz.f77.ntmps [(2,Aj ac 0),(3,Aj Z 0),(6,.pointer (some F.uA)),(7,.pointer (some F.sA)),(8,Aj kf 0),(19,iV (p.length:Int)),(20,iV ((j:Nat):Int))] [] (.code Kl:: .inLoop Kl::k) cs (Ak U H []):=by
 intro m
 induction m with
 | zero=>intro j _ a9;cases a9
 | succ m bb=>
  intro j bn _ U hle be;refine X8 Y ay az a0 a2 a3 hlen a4 a5 a6 a7 a8 (by omega) hle be λK aq aw=>JL.again ?_;by_cases hm:m=0
  ·subst hm;have bi:j+1=F.n:=by rw [Y];omega
   have e:F.EC j= .Dt:=by unfold Fam.EC;rw [if_pos bi]
   rw [e];have e2:((j+1:Nat):Int)=(p.length:Int):=by rw [hlen];omega
   rw [e2];exact h K aq aw
  ·have e:F.EC j= .Gc (j+1):=by unfold Fam.EC;rw [if_neg (by rw [Y];omega)]
   rw [e];exact bb (j+1) (by omega) (by omega) K aq aw
def N2(fu_:Nat)(K:AQ)(p:Aw)(j:Nat):List Int:=(Kp fu_ K p j).getD []
def LF(n:Nat)(xs:Nat->List Int):(List Int)×Bool:=match(List.range n).find? (λj=> !(xs j).isEmpty) with | some j=>(xs j,true) | none=>([],false)
def f77(fu_:Nat)(K:AQ)(p:Aw):Option ((List Int)×Bool):= if p.length=0 then some ([],true) else if p.length<=1000/\(List.range p.length).all (λj=>(Kp fu_ K p j).isSome)=true then some (LF p.length (N2 fu_ K p)) else none
theorem Vm{n:Nat}{xs:Nat->List Int}{i:Nat}(hi:i<n)(K:xs i≠ [])(O:∀k,k<i->xs k= []):LF n xs=(xs i,true):=by
 unfold LF;have:(List.range n).find? (λj=> !(xs j).isEmpty)=some i:=by
  rw [List.find?_range_eq_some];refine⟨by simp [K],by simpa using hi,λj U=>by simp [O j U]⟩
 rw [this]
theorem Vx{n:Nat}{xs:Nat->List Int}(K:∀k,k<n->xs k= []):LF n xs=([],false):=by
 unfold LF;have:(List.range n).find? (λj=> !(xs j).isEmpty)=none:=by
  rw [List.find?_eq_none];intro j O;simp [K j (List.mem_range.1 O)]
 rw [this]
theorem Xb{E:LH}{a:An}{c:Nat}{xs:List Int}(h:Al rI E a c xs)(K:xs≠ []):a.isNone=false:=by
 rcases h.2 with⟨e,_⟩ | ⟨bk,off,e,_⟩
 ·exact absurd e K
 ·rw [e];rfl
set_option maxHeartbeats 1000000 in
theorem ZF{J:Judge Tryz.prog}{Q:Gs_}{Y:Frame}{cs:Lf_}{fd n:Nat}{f:Nat->Value}{xs:Nat->List Int}(az:n<=1000){E H:LH}{k:Li_}(ag:Ap E H [[(fd,.cells (Array.ofFn λi:Fin n=>f i) 28 (0,0))]])(hm:∀k,k<n->∃a c,f k= .slice a (xs k).length c/\Al rI E a c (xs k)/\(xs k= []->a=none))
  (al:∀i a c L',i<n->xs i≠ []->(∀k,k<i->xs k= [])->Al rI E a c (xs i)->look L' 4=some (.slice a (xs i).length c)->look L' 5=some (.bool true)->∀k',JL J Q (base 77) Tryz.f77.ntmps L' [] (.code .ret::k') (Y::cs) (Ak E H [[(fd,.cells (Array.ofFn λi:Fin n=>f i) 28 (0,0))]]))
  (am:(∀k,k<n->xs k= [])->JL J Q (base 77) Tryz.f77.ntmps [] [] k (Y::cs) (Ak E H [[(fd,.cells (Array.ofFn λi:Fin n=>f i) 28 (0,0))]])):
  ∀m i,i+m=n->(∀k,k<i->xs k= [])->JL J Q (base 77) Tryz.f77.ntmps [(27,.slice (AX fd) n n),(28,iV (n:Int)),(29,iV (i:Int))] [] (.code T4:: .inLoop T4:: .inBlock 2::k) (Y::cs) (Ak E H [[(fd,.cells (Array.ofFn λi:Fin n=>f i) 28 (0,0))]]):=by
 intro m
 induction m with
 | zero=>
  intro i hi K;refine zg 2 rfl (Am (v:= .bool false) rfl (λρ h=>Yl.to (Yl.lss (h _ _ rfl) (h _ _ rfl)) (by rw [decide_eq_false (show ¬((i:Int)<(n:Int)) by omega)])) ?_);refine zg 4 rfl (Ep [] rfl ?_);exact am λk a0=>K k (by omega)
 | succ m ap=>
  intro i hi K;have O:i<n:=by omega
  obtain⟨a,c,aq,ac,aw⟩:=hm i O;refine zg 2 rfl (Am (v:= .bool true) rfl (λρ h=>Yl.to (Yl.lss (h _ _ rfl) (h _ _ rfl)) (by rw [decide_eq_true (show(i:Int)<(n:Int) by omega)])) ?_);refine zg 8 rfl (Am (v:= Aj fd i) rfl (λρ h=>Yl.to (Fp (xs:=List.replicate n ()) (m:=((i:Nat):Int)) (xv:=()) (List.length_replicate) (by simp [ix,O]) underlying22 Eu (h _ _ rfl) (h _ _ rfl)) (by show Aj fd (i*1)=_;rw [Nat.mul_one])) ?_);refine Am (v:= .slice a (xs i).length c) rfl (λρ h=>Yl.load GA (h _ _ rfl) (BR (j:=0) (off:=i) ag rfl (by simp [O,aq]))) (zg 5 rfl ?_);refine Am (v:= .bool (!a.isNone)) rfl (λρ h=>Vp underlying28 (h _ _ rfl) (h _ _ rfl)) (JL.done ?_);by_cases U:xs i= []
  ·have Z:(!a.isNone)=false:=by rw [aw U];rfl
   rw [Z];refine zg 4 rfl ?_;have ay:Ax (((i:Nat):Int)+1)=some (((i+1:Nat)):Int):=by unfold Ax;rw [if_pos (by omega)];simp
   refine Bt ay rfl rfl rfl ?_;refine zg 2 rfl ?_;refine JL.again ?_;refine EO ?_ (ap (i+1) (by omega) (λk a1=>by
    by_cases e:k=i
    ·subst e;exact U
    ·exact K k (by omega)))
   exact⟨rfl,rfl,rfl,trivial⟩
  ·have Z:(!a.isNone)=true:=by rw [Xb ac U];rfl
   rw [Z];exact zg 7 rfl (al i a c _ O U K ac rfl rfl _)
end Pal
namespace Pal
open Go Go.Conc Go.Proofs
open Go.Proofs.Tryz
open Go.Conc.Lib Go.ConcR.Gen
set_option maxHeartbeats 2000000 in
theorem aM{E:LH}{a1:An}{c2:Nat}{a9:An}{bb:Nat}{ap:An}{be:Nat}{O:AQ}{p:Aw}(bG:Al (rL rI) E a1 c2 O.1)(bH:Al As E a9 bb O.2)(bI:Al As E ap be p){fu_:Nat}{r:(List Int)×Bool}(U:f77 fu_ O p=some r):
  AK (GI Tryz.prog) 77 [.agg #[sV a1 O.1 c2,sV a9 O.2 bb],sV ap p be] E [] (λw E' B'=>∃(bi:An) (bn:Nat),w= .tuple #[sV bi r.1 bn,.bool r.2]/\B'= []/\Al rI E' bi bn r.1):=by
 refine Nu func77 rfl rfl λQ cg cs H bJ Y=>?_;unfold f77 at U;refine zg 2 rfl (Cr bJ λbK ci bL bM bN=>?_);refine Cr bN λbO ck bo am bP=>?_;refine HZ (S':= []) (by simp) bP λbq=>?_;have br:=bL.Ad bo;refine zg 6 rfl (CL 0 am BI rfl rfl rfl ?_);refine JL.ln underlying80 rfl rfl rfl (zg 2 rfl ?_);refine FX (p:=(p.length:Int)=0) rfl (λbQ=>?_) (λbQ=>?_)
 ·rw [if_pos (by omega)] at U;have Z:=(Option.some.inj U).symm;subst Z;refine zg 5 rfl (AN func77 rfl rfl ?_);exact Y _ _ _ _ br rfl ⟨none,0,rfl,rfl,Al.nil⟩ bq
 rw [if_neg (by omega)] at U;split at U
 rotate_left
 ·cases U
 rename_i hb;obtain⟨bu,bR⟩:=hb;have Z:=(Option.some.inj U).symm;have ag:∀j,j<p.length->Kp fu_ O p j=some (N2 fu_ O p j):=λj a0=>by
  have aq:=List.all_eq_true.1 bR j (List.mem_range.2 a0);obtain⟨x,a2⟩:=Option.isSome_iff_exists.1 aq;unfold N2;rw [a2];rfl
 generalize cm:N2 fu_ O p=xs at ag Z;have bv:0<p.length:=by omega
 refine zg 3 rfl (BO bq (Dz type142) λmu bS=>?_);refine zg 3 rfl (BO bS (Dz type148) λwg bT=>?_);refine JL.done (HZ (S':= [[(mu,.cells #[.int .i32 0,.int .u32 0] 142 (0,0))],[(wg,.cells #[.int .u64 0,.int .u32 0] 148 (0,0))]]) (by simp [Value.cells]) bT λbU=>?_);refine zg 2 rfl (CL 0 am BI rfl rfl rfl ?_);refine JL.ln underlying80 rfl rfl rfl ?_;have bV:IE (p.length:Int) (Value.slice none 0 0)=some (List.replicate p.length nS):=by unfold IE;rw [if_pos (by omega)];simp
 refine JS.make (pp:=rV) bV rfl rfl rfl rfl rfl underlying22 Eu (B8 type28) (by decide) Kz (by decide) ⟨rfl,rfl⟩ bU λfd cn bW bw=>?_;have bY:=OL.Y4 bW rfl;subst bY;obtain⟨K,bx⟩:∃K,K=List.replicate p.length (Value.slice none 0 0):=⟨_,rfl⟩;have bz:(List.replicate p.length (Value.slice none 0 0)).length=p.length:=by simp
 rw [← bx] at bw bz ⊢;rw [bz];refine BO bw (Dz type22) λkf bZ=>?_;refine Bv 3 bZ Dg λb0=>?_;refine Dr 3 b0 rfl λac aw bA b1=>HZ (S':= [[(mu,.cells #[.int .i32 0,.int .u32 0] 142 (0,0))],[(wg,.cells #[.int .u64 0,.int .u32 0] 148 (0,0))],[(fd,.cells K.toArray 28 (0,0))]]) (by simp) b1 λal=>?_;have ay:=br.Ad aw;refine zg 4 rfl (CL 0 (am.Ag aw) BI rfl rfl rfl ?_);refine JL.ln underlying80 rfl rfl rfl (zg 3 rfl ?_);refine Ix (Ep [(2,Aj bK 0),(3,Aj bO 0),(6,.pointer (some (⟨mu,0,none⟩:Addr))),(7,.pointer (some (⟨wg,0,none⟩:Addr))),(8,Aj kf 0),(19,iV (p.length:Int)),(20,iV ((0:Nat):Int))] rfl ?_);have bB:=Nd.iff.1 al;intro T b2;let F:Fam:=⟨wg,mu,fd,148,142,28,p.length,λkk v E=>kk<p.length/\∃a c,v= .slice a (xs kk).length c/\Al rI E a c (xs kk)/\(xs kk= []->a=none),λg s=>(GI Tryz.prog).ok Q g s⟩;have az:=bB.1;simp only [List.flatten_cons,List.flatten_nil,List.append_nil,List.cons_append,List.nil_append,List.map_cons,List.map_nil,List.nodup_cons,List.mem_cons,List.not_mem_nil,not_or,or_false,not_false_eq_true,and_true,List.nodup_nil] at az;have b3:(Ak ac H [[(mu,.cells #[.int .i32 0,.int .u32 0] 142 (0,0))],[(wg,.cells #[.int .u64 0,.int .u32 0] 148 (0,0))],[(fd,.cells K.toArray 28 (0,0))]]).H fd=some (F.Im λ_=> nS):=by
  rw [IK (j:=2) al rfl];have:(Array.ofFn λ_:Fin p.length=>Value.slice none 0 0)=K.toArray:=by
   rw [bx];apply Array.ext
   ·simp
   ·intro i aq bC;simp
  show some (Obj.cells K.toArray 28 (0,0))=some (Obj.cells (Array.ofFn λ_:Fin p.length=>Value.slice none 0 0) 28 (0,0));rw [this]
 refine Xt F (f₀:=λ_=> .slice none 0 0) (show 1<=p.length by omega) (show p.length<134217728 by omega) ?_ az.1.1 (λe=>az.2 e.symm) (λe=>az.1.2 e.symm) (IK (j:=1) al rfl) (IK (j:=0) al rfl) b3 ?_ (λg s h=>h)
 ·rintro kk v co cp b4 ⟨aq,a,c,bC,a3,a4⟩;exact⟨aq,a,c,bC,a3.Ag b4,a4⟩
 have b5:=U0 al;show Way Tryz.prog true (Stop Tryz.prog F (.Gc 0)) _ (⟨(Ak ac H [[(mu,.cells #[.int .i32 0,.int .u32 0] 142 (0,0))],[(wg,.cells #[.int .u64 0,.int .u32 0] 148 (0,0))],[(fd,.cells K.toArray 28 (0,0))]]).E,Js (Ak ac H [[(mu,.cells #[.int .i32 0,.int .u32 0] 142 (0,0))],[(wg,.cells #[.int .u64 0,.int .u32 0] 148 (0,0))],[(fd,.cells K.toArray 28 (0,0))]]).H wg mu fd,false⟩:St);rw [show(Ak ac H [[(mu,.cells #[.int .i32 0,.int .u32 0] 142 (0,0))],[(wg,.cells #[.int .u64 0,.int .u32 0] 148 (0,0))],[(fd,.cells K.toArray 28 (0,0))]]).E=ac from rfl,b5];have b6:Ap ac H []:=trivial;have b7:H fd=none:=(bB.2 (fd,.cells K.toArray 28 (0,0)) (by simp)).2;refine U5 (F:=F) (n:=p.length) rfl bv bu (bI.Ag ay) (bG.Ag ay) (bH.Ag ay) rfl (am.Ag aw) (bM.Ag (bo.Ad aw)) bA ag (λj a0 E' a c b8 b9=>⟨a0,a,c,rfl,b8,b9⟩) (λca bD cq=>?_) p.length 0 (by omega) bv ac Ay b6 T b2;refine zg 2 rfl ?_;refine Am (v:= .bool false) rfl (λρ h=>Yl.to (Yl.lss (h _ _ rfl) (h _ _ rfl)) (by rw [decide_eq_false (show ¬((p.length:Int)<(p.length:Int)) by omega)])) ?_;refine zg 6 rfl ?_;refine JL.wait Tryz.Kd (F:=F) (show p.length<2147483648 by omega) rfl rfl rfl rfl rfl (Q:=Q) (λg s h=>h) λa5 f bE cb cr cc=>?_;have a6:Ap a5 H [[(fd,F.Im f)]]:=Nd.iff.2 ⟨by simp,λq ag=>by
  simp at ag;subst ag;exact⟨cb,b7⟩⟩
 have es:(⟨a5,F.Jv (Ak ca H []).H f,false⟩:St)=Ak a5 H [[(fd,F.Im f)]]:=by
  unfold Ak mk;congr 1
 rw [es];have bF:=(ay.Ad bD).Ad bE;refine zg 4 rfl (CL 0 (bA.Ag (bD.Ad bE)) Dy rfl rfl rfl ?_);refine JL.ln underlying22 rfl rfl rfl (zg 3 rfl ?_);refine Ix (Ep [(27,.slice (AX fd) p.length p.length),(28,iV (p.length:Int)),(29,iV ((0:Nat):Int))] rfl ?_);refine ZF (n:=p.length) (f:=f) (xs:=xs) bu a6 (λk Y=>?_) (λi a c L' hi a2 a7 cd a3 a4 k'=>?_) (λa7=>?_) p.length 0 (by omega) (λk Y=>absurd Y (Nat.not_lt_zero _))
 ·obtain⟨_,a,c,ce,e2,cf⟩:=cc k Y;exact⟨a,c,ce,e2,cf⟩
 ·rw [Vm hi a2 a7] at Z;subst Z;exact JL.ret (v:= .tuple #[.slice a (xs i).length c,.bool true]) rfl rfl (Bz.list func77 rfl (vs:= [.slice a (xs i).length c,.bool true]) ⟨a3,a4,trivial⟩) (QI a6 λa8=>Y _ _ _ _ bF rfl ⟨a,c,rfl,rfl,cd⟩ a8)
 ·rw [Vx a7] at Z;subst Z;refine zg 5 rfl (AN func77 rfl rfl ?_);exact QI a6 λa8=>Y _ _ _ _ bF rfl ⟨none,0,rfl,rfl,Al.nil⟩ a8
end Pal
namespace Pal
open Go Go.Conc Go.Proofs
open Go.Proofs.Tryz
def SZ(fu_:Nat)(Z:AQ×Int)(O:A0)(K:Int):Option (Bm Int ((Aw×(List Int)×Int)⊕(Unit))):= if K<(O.length:Int) then((ix O K).bind λU=> (f77 fu_ Z.1 U).bind λY=> if Y.2=true then(some (.done (Sum.inl (U,Y.1,0)))) else((Ax (K+1)).bind λac=> some (.more ac))) else(some (.done (Sum.inr ())))
def f27(fu_:Nat)(p0:AQ):Option (Aw×(List Int)×Int):= (f70 fu_ p0 ([])).bind λK=> if K.2≠0 then(some ([],[],K.2)) else((f71 fu_ K.1 0).bind λO=> (f76 fu_ O).bind λU=> Option.bind (iter (SZ fu_ K U) fu_ 0) λY=> Sum.elim (λr=>some r) (λZ=> some ([],[],11)) Y)
theorem aI{E:LH}{a1:An}{c2:Nat}{al:An}{am:Nat}{p0:AQ}(bH:Al (rL rI) E a1 c2 p0.1)(bI:Al As E al am p0.2){fu_:Nat}{r:Aw×(List Int)×Int}(a9:f27 fu_ p0=some r):AK (GI Tryz.prog) 27 [.agg #[sV a1 p0.1 c2,sV al p0.2 am]] E [] (λw E' B'=>∃(bb:An) (be:Nat) (bi:An) (bn:Nat),w= .tuple #[sV bb r.1 be,sV bi r.2.1 bn,iV r.2.2]/\B'= []/\Al As E' bb be r.1/\Al rI E' bi bn r.2.1):=by
 refine Bd func27 λQ cF cs H bJ a3=>?_;unfold f27 at a9;refine zg 2 rfl (Cr bJ λbK cG Y bL bM=>?_);refine zg 6 rfl (B3 bL B2 Bu rfl rfl ?_);obtain⟨K,bN,bO⟩:=bs a9;refine BU (Ke (bH.Ag Y) (bI.Ag Y) Al.nil bN) rfl rfl J0 bM ?_;rintro _ cH _ a4 ⟨ap,aq,aw,ay,rfl,rfl,bo,bq⟩ bP;refine zg 3 rfl (BO bP Ho λbr bQ=>?_);refine Bv 3 bQ DX λbR=>?_;refine Dr 3 bR rfl λcI O bu bv=>zg 8 rfl (AT bO (λbS bT=>?_) (λbS bU=>?_))
 ·refine zg 7 rfl ?_;obtain rfl:=oi bT;exact AN func27 rfl rfl (a3 ((Y.Ad a4).Ad O) rfl ⟨none,0,none,0,rfl,rfl,Al.nil,Al.nil⟩ bv)
 ·refine zg 3 rfl (B3 bu F6 DX rfl rfl ?_);obtain⟨cJ,bV,bW⟩:=bs bU;refine BU (PX (bo.Ag O) (bq.Ag O) bV) rfl rfl Og bv ?_;rintro _ cK cM Z ⟨az,a0,_,rfl,rfl,bY⟩ bZ;obtain⟨ac,b0,b1⟩:=bs bW;refine zg 5 rfl (Cv 4 (YS bY b0) rfl rfl (A3 func76 rfl) bZ rfl ?_);rintro _ b2 b3 ag ⟨rfl,b4,a5⟩ b5;refine EO (L':= [(23,.tuple #[]),(0,.agg #[.slice a1 p0.1.length c2,.slice al p0.2.length am]),(1,Aj bK 0),(2,.slice none 0 0),(3,.slice none 0 0),(4,iV 0),(13,.agg #[.slice a1 p0.1.length c2,.slice al p0.2.length am]),(14,.tuple #[.agg #[.slice ap K.1.1.length aq,.slice aw K.1.2.length ay],iV K.2]),(12,.tuple #[.agg #[.slice ap K.1.1.length aq,.slice aw K.1.2.length ay],iV K.2]),(15,.agg #[.slice ap K.1.1.length aq,.slice aw K.1.2.length ay]),(16,iV K.2),(5,Aj br 0),(6,iV K.2),(17,iV K.2),(18,.bool (decide (K.2≠0))),(20,.agg #[.slice ap K.1.1.length aq,.slice aw K.1.2.length ay]),(21,.slice az ac.length a0),(7,.slice az ac.length a0),(22,.slice az ac.length a0)]) ⟨rfl,rfl,rfl,rfl,rfl,rfl,rfl,rfl,rfl,rfl,rfl,rfl,rfl,rfl,rfl,rfl,by rw [a5];rfl,by rw [a5];rfl,by rw [a5];rfl,trivial⟩ ?_;refine zg 5 rfl (JL.ln underlying83 rfl rfl rfl ?_);obtain⟨bw,b6,bx⟩:=bs b1;refine zg 2 rfl (Bq (λL s=>∃(bz:Unit) (bA:LH),bw=Sum.inr bz/\Jm b2 H bA [] [] L s) ?_ ?_)
  ·rintro _ _ ⟨bz,bA,rfl,rfl,rfl,b7,b8⟩;have b9:=elim_inr bx;refine zg 6 rfl ?_;obtain rfl:=oi b9;exact AN func27 rfl rfl (a3 (((((Y.Ad a4).Ad O).Ad Z).Ad ag).Ad b7) rfl ⟨none,0,none,0,rfl,rfl,Al.nil,Al.nil⟩ b8)
  ·intro ca;refine JL.block (Di b6 (λa6=> [b3]) (λa6=> [(5,Aj br 0),(24,sV az ac a0),(25,iV (ac.length:Int)),(26,iV a6)]) Ay b5 ?_);rintro a6 cb U a7 bB ⟨cN,a2⟩ cc;have bC:=a2;unfold SZ at bC;refine zg 5 rfl (AT bC (λcd ce=>?_) (λcd cf=>?_))
   ·obtain⟨cg,ci,ck⟩:=bs ce;refine zg 5 rfl (M5 0 (b4.Ag U) ci rfl rfl rfl rfl rfl rfl underlying83 Bj ?_);rintro cO cP f93 _ cm ⟨bD,bE,rfl,bF⟩ cn cQ cR cT cV;refine Am (v:= sV bD cg bE) rfl (λρ h=>Yl.load BI (h _ _ rfl) (BR (j:=0) a7 cm (cn 0 _ rfl))) (zg 4 rfl ?_);refine B3 (bu.Ag ((Z.Ad ag).Ad U)) F6 DX rfl rfl ?_;obtain⟨cW,co,cp⟩:=bs ck;refine zg 1 rfl (BU (aM (bo.Ag (((O.Ad Z).Ad ag).Ad U)) (bq.Ag (((O.Ad Z).Ad ag).Ad U)) bF co) rfl rfl (A3 func77 rfl) a7 ?_);rintro _ cX _ a8 ⟨cq,cr,rfl,rfl,ct⟩ bG;refine zg 10 rfl (Cc cp (λcu cv=>?_) (λcu cw=>?_))
    ·refine zg 8 rfl (JS.drop 0 bG rfl λcy=>?_);obtain rfl:=oi cv;obtain rfl:=bB _ a2;have cz:=elim_inl bx;obtain rfl:=oi cz;exact AN func27 rfl rfl (a3 ((((((Y.Ad a4).Ad O).Ad Z).Ad ag).Ad U).Ad a8) rfl ⟨bD,bE,cq,cr,rfl,rfl,(bF.Ag a8),ct⟩ cy)
    ·obtain⟨cA,cB,cC⟩:=bs cw;refine zg 3 rfl (Bt cB rfl rfl rfl ?_);refine zg 2 rfl ?_;obtain rfl:=oi cC;exact cc cA (U.Ad a8) bG rfl a2
   ·refine JL.exit rfl (JS.drop 0 a7 rfl λcD=>?_);obtain rfl:=oi cf;have cE:bw=(Sum.inr ()):=(bB _ a2).symm;exact AA (ca _ _ ⟨(),cb,cE,rfl,rfl,U,cD⟩) rfl
end Pal
namespace Pal
open Go Go.Conc Go.Proofs
open Go.Proofs.Tryz
variable {J:Judge Tryz.prog}{E:LH}
def Tk(fu_:Nat)(p0:List Int)(K:Aw×Int):Option (Bm (Aw×Int) (Aw)):= (Ax (K.2+2)).bind λO=> if O<(p0.length:Int) then((ix p0 K.2).bind λU=> (Ax (K.2+1)).bind λY=> (ix p0 Y).bind λZ=> (Ax (K.2+2)).bind λac=> (ix p0 ac).bind λag=> (C4 K.1 ([(U,Z,ag)]:Aw)).bind λal=> (Ax (K.2+3)).bind λam=> some (.more (al,am))) else(some (.done K.1))
def f67(fu_:Nat)(p0:List Int):Option (Aw):= Option.bind (iter (Tk fu_ p0) fu_ ([],0)) λK=> some K
theorem NH{a1:An}{c2:Nat}{p0:List Int}(aq:Al rI E a1 c2 p0){fu_:Nat}{r:Aw}(a3:f67 fu_ p0=some r):AK J 67 [sV a1 p0 c2] E [] (λw E' B'=>∃(a4:An) (a5:Nat) (g0:Seg),w= sV a4 r a5/\B'=g0/\OL 27 As E' a4 a5 g0 r):=by
 refine Bd func67 λQ cb cs H bi bn=>?_;unfold f67 at a3;obtain⟨a6,bo,bq⟩:=bs a3;refine zg 13 rfl (Bq (λL s=>∃(aw:LH) (Y:An) (Z:Nat) (ac:Seg),Jn E H aw [ac] [(3,sV Y a6 Z)] L s (OL 27 As aw Y Z ac a6)) ?_ ?_)
 ·rintro _ _ ⟨aw,Y,Z,ac,rfl,rfl,br,bu,bv⟩;refine zg 5 rfl ?_;obtain rfl:=oi bq;exact AN func67 rfl rfl (bn br rfl ⟨Y,Z,ac,rfl,(by first | rfl | simp | (simp [Value.cells])),bv⟩ bu)
 ·intro bw;refine JL.block (CI bo (λL s ag=>∃(al:LH) (am:An) (ap:Nat) (O:Seg),Jn E H al [O] [(0,sV a1 p0 c2),(3,sV am ag.1 ap),(4,iV ag.2)] L s (OL 27 As al am ap O ag.1)) ⟨E,none,0,[],rfl,rfl,Ay,bi,OL.nil⟩ ?_);rintro _ _ ag ⟨al,am,ap,O,rfl,rfl,U,a7,a8⟩ bx ⟨cc,ay⟩ bz;have a9:=ay;unfold Tk at a9;obtain⟨cd,bA,bB⟩:=bs a9;refine zg 4 rfl (Bt bA rfl rfl rfl ?_);refine zg 1 rfl (JL.ln underlying28 rfl rfl rfl ?_);refine zg 2 rfl (AT bB (λbC bD=>?_) (λbC bE=>?_))
  ·refine zg 3 rfl (Ei 17 λK=>?_);refine A6 K rfl [0,1,2] rfl ?_;obtain⟨az,bF,bG⟩:=bs bD;refine ER 3 (aq.Ag U) bF K underlying28 AB ?_;rintro ce cf _ rfl bH;refine Dj 4 K 0 bH A2 rfl rfl rfl rfl (A6 K rfl [5,6] rfl ?_);obtain⟨cg,bI,bJ⟩:=bs bG;refine AP 7 K rfl rfl (λρ h s' bb=>Fq (h _ _ rfl) (h _ _ rfl) bI) ?_;obtain⟨a0,bK,bL⟩:=bs bJ;refine ER 8 (aq.Ag U) bK K underlying28 AB ?_;rintro ci ck _ rfl bM;refine Dj 9 K 0 bM A2 rfl rfl rfl rfl (A6 K rfl [10,11] rfl ?_);obtain⟨cm,bN,bO⟩:=bs bL;refine AP 12 K rfl rfl (λρ h s' bb=>Fq (h _ _ rfl) (h _ _ rfl) bN) ?_;obtain⟨a2,bP,bQ⟩:=bs bO;refine ER 13 (aq.Ag U) bP K underlying28 AB ?_;rintro cn co _ rfl bR;refine Dj 14 K 0 bR A2 rfl rfl rfl rfl (AP (v:= .agg #[iV az,iV a0,iV a2]) 15 K rfl rfl (λρ h s' bb=>C3 [(0,1),(1,1),(2,1)] h Bp underlying27 ⟨rfl,AR type3,rfl,AR type3,rfl,AR type3,trivial⟩ rfl rfl) ?_);refine JG.one (i:=16) rfl (by decide+kernel) (Take.DU (pp:=As) [.agg #[iV az,iV a0,iV a2]] ([(az,a0,a2)]:Aw) a7 rfl rfl rfl underlying23 AV Bp (by decide) rfl rfl rfl ⟨⟨_,_,rfl,rfl,⟨_,_,rfl,rfl,rfl⟩⟩,trivial⟩ λcp bS bT bU=>?_);refine Ck [17,18] (Bs (S':= [O,bS]) rfl bU λbV=>?_);refine BJ 1 bT bV rfl λbW be bY bZ=>?_;obtain⟨b0,b1,b2⟩:=bs bQ;refine FF (pp:=As) 0 b1 rfl rfl rfl rfl rfl rfl rfl underlying23 underlying23 AV (B8 type27) Bp rfl (by decide) (by decide) (a8.Ag be) bY bZ rfl λb3 b4 b5 b6 b7=>?_;obtain⟨b8,b9,ca⟩:=bs b2;refine zg 5 rfl (Bt b9 rfl rfl rfl ?_);refine zg 2 rfl ?_;obtain rfl:=oi ca;exact AA (bz _ _ (b0,b8) ⟨bW,b3,b4,b5,rfl,rfl,(U.Ad be),b7,b6⟩ ay) rfl
  ·refine JL.exit rfl ?_;obtain rfl:=oi bE;obtain rfl:=bx _ ay;exact AA (bw _ _ ⟨al,am,ap,O,rfl,rfl,U,a7,a8⟩) rfl
def f110(fu_:Nat)(p0:List Int)(K:List Int):Option (AQ):= (f67 fu_ ([0,1,5,1,2,5,2,3,2,0,3,1,3,1,1]:List Int)).bind λO=> (f67 fu_ K).bind λU=> (C4 O U).bind λY=> some (([p0,[],([3]:List Int),([1]:List Int)]:Bb),Y)
theorem Pq{a1:An}{c2:Nat}{az:An}{a0:Nat}{p0:List Int}{al:List Int}(bb:Al rI E a1 c2 p0)(be:Al rI E az a0 al){fu_:Nat}{r:AQ}(a2:f110 fu_ p0 al=some r):AK J 110 [sV a1 p0 c2,sV az al a0] E [] (λw E' B'=>∃(a3:An) (a4:Nat) (a5:An) (a6:Nat),w= .agg #[sV a3 r.1 a4,sV a5 r.2 a6]/\B'= []/\Al (rL rI) E' a3 a4 r.1/\Al As E' a5 a6 r.2):=by
 refine Bd func110 λQ cc cs H bi bn=>?_;unfold f110 at a2;refine zg 2 rfl (BO bi GB λY bo=>?_);refine zg 4 rfl (FG (pp:=rI) [iV 3] [3] rfl rfl rfl underlying28 AB Cg (by decide) rfl rfl rfl ⟨rfl,trivial⟩ bo λbq br bu bv=>?_);refine FG (pp:=rI) [iV 1] [1] rfl rfl rfl underlying28 AB Cg (by decide) rfl rfl rfl ⟨rfl,trivial⟩ bv λbw bx bz bA=>Bs (S':= [[],[(Y,.cells #[nS,nS] 25 (0,0))],br,bx]) rfl bA λbB=>BJ 2 bu bB rfl λcd ac bC bD=>BJ 3 (bz.Ag ac) bD rfl λce ag bE bF=>FG (pp:=(rL rI)) [sV a1 p0 c2,nS,.slice (AX bq) (([3]:List Int)).length 1,.slice (AX bw) (([1]:List Int)).length 1] [p0,[],([3]:List Int),([1]:List Int)] rfl rfl rfl underlying22 Eu Kz (by decide) rfl rfl rfl ⟨⟨_,_,rfl,(bb.Ag (ac.Ad ag))⟩,⟨_,_,rfl,Al.nil⟩,⟨_,_,rfl,(bC.Ag ag)⟩,⟨_,_,rfl,bE⟩,trivial⟩ bF λK am bG bH=>Bs (S':= [[],[(Y,.cells #[nS,nS] 25 (0,0))],[],[],am]) rfl bH λbI=>FG (pp:=rI) [iV 0,iV 1,iV 5,iV 1,iV 2,iV 5,iV 2,iV 3,iV 2,iV 0,iV 3,iV 1,iV 3,iV 1,iV 1] [0,1,5,1,2,5,2,3,2,0,3,1,3,1,1] rfl rfl rfl underlying28 AB Cg (by decide) rfl rfl rfl ⟨rfl,rfl,rfl,rfl,rfl,rfl,rfl,rfl,rfl,rfl,rfl,rfl,rfl,rfl,rfl,trivial⟩ bI λcf cg bJ bK=>BJ 5 bJ bK rfl λci ap bL bM=>?_;obtain⟨ck,bN,bO⟩:=bs a2;refine BU (NH bL bN) rfl rfl Mi bM ?_;rintro _ cm bP aq ⟨cn,co,_,rfl,rfl,bQ⟩ bR;refine Bs (S':= [[],[(Y,.cells #[nS,nS] 25 (0,0))],[],[],am,[],bP]) rfl bR λbS=>?_;obtain⟨cp,bT,bU⟩:=bs bO;refine zg 1 rfl (BU (NH (be.Ag (((ac.Ad ag).Ad ap).Ad aq)) bT) rfl rfl Mi bS ?_);rintro _ cq cr aw ⟨ct,cu,_,rfl,rfl,bV⟩ bW;refine BJ 7 bV bW rfl λcv ay bY bZ=>?_;obtain⟨Z,b0,b1⟩:=bs bU;refine FF (pp:=As) 6 b0 rfl rfl rfl rfl rfl rfl rfl underlying23 underlying23 AV (B8 type27) Bp rfl (by decide) (by decide) (bQ.Ag (aw.Ad ay)) bY bZ rfl λO U b2 b3 b4=>Bs (S':= [[],[(Y,.cells #[nS,nS] 25 (0,0))],[],[],am,[],b2,[]]) rfl b4 λb5=>Am (v:= .agg #[.slice (AX K) (([p0,[],([3]:List Int),([1]:List Int)]:Bb)).length 4,sV O Z U]) rfl (λρ h=>C3 [(0,1),(1,1)] h GB underlying25 ⟨rfl,AR type22,rfl,AR type23,trivial⟩ rfl rfl) (Bv 1 b5 Bu λb6=>?_);refine JL.done (BJ 4 (bG.Ag (((ap.Ad aq).Ad aw).Ad ay)) b6 rfl λcw a7 b7 b8=>?_);refine BJ 6 (b3.Ag a7) b8 rfl λcy a8 b9 ca=>Bs (S':= [[],[(Y,.cells #[.slice (AX K) (([p0,[],([3]:List Int),([1]:List Int)]:Bb)).length 4,sV O Z U] 25 (0,0))],[],[],[],[],[],[]]) rfl ca λa9=>?_;obtain rfl:=oi b1;refine JL.ret (v:= .agg #[.slice (AX K) (([p0,[],([3]:List Int),([1]:List Int)]:Bb)).length 4,sV O Z U]) rfl rfl (Bz.list func110 rfl (vs:= [.agg #[.slice (AX K) (([p0,[],([3]:List Int),([1]:List Int)]:Bb)).length 4,sV O Z U]]) ⟨⟨_,rfl,Ld.many (vs:= [.slice (AX K) (([p0,[],([3]:List Int),([1]:List Int)]:Bb)).length 4,sV O Z U]) B2 Bu (Dp (off:=0) 1 a9 rfl rfl)⟩,trivial⟩) (Db 1 a9 rfl λcb=>?_);exact bn (((((((ac.Ad ag).Ad ap).Ad aq).Ad aw).Ad ay).Ad a7).Ad a8) rfl ⟨(AX K),4,O,U,rfl,rfl,(b7.Ag a8),b9⟩ cb
def f63(fu_:Nat):Option (AQ):= (f110 fu_ ([1,2,3]:List Int) ([])).bind λK=> some K
theorem NI{fu_:Nat}{r:AQ}(ac:f63 fu_=some r):AK J 63 [] E [] (λw E' B'=>∃(ag:An) (al:Nat) (am:An) (ap:Nat),w= .agg #[sV ag r.1 al,sV am r.2 ap]/\B'= []/\Al (rL rI) E' ag al r.1/\Al As E' am ap r.2):=by
 refine Bd func63 λQ bi cs H aw ay=>?_;unfold f63 at ac;refine zg 2 rfl (BO aw GB λr1 az=>?_);refine zg 3 rfl (FG (pp:=rI) [iV 1,iV 2,iV 3] [1,2,3] rfl rfl rfl underlying28 AB Cg (by decide) rfl rfl rfl ⟨rfl,rfl,rfl,trivial⟩ az λbn bo a0 a1=>?_);refine BJ 2 a0 a1 rfl λbq a2 a3 a4=>?_;obtain⟨K,a5,a6⟩:=bs ac;refine BU (Pq a3 Al.nil a5) rfl rfl N9 a4 ?_;rintro _ br _ a7 ⟨O,U,Y,Z,rfl,rfl,a8,a9⟩ bb;refine Bv 1 bb Bu λaq=>?_;refine JL.done ?_;obtain rfl:=oi a6;refine JL.ret (v:= .agg #[sV O K.1 U,sV Y K.2 Z]) rfl rfl (Bz.list func63 rfl (vs:= [.agg #[sV O K.1 U,sV Y K.2 Z]]) ⟨⟨_,rfl,Ld.many (vs:= [sV O K.1 U,sV Y K.2 Z]) B2 Bu (Dp (off:=0) 1 aq rfl rfl)⟩,trivial⟩) (Db 1 aq rfl λbe=>?_);exact ay (a2.Ad a7) rfl ⟨O,U,Y,Z,rfl,rfl,a8,a9⟩ be
def f64(fu_:Nat):Option (AQ):= (f110 fu_ ([]) ([])).bind λK=> some K
theorem ae{fu_:Nat}{r:AQ}(ac:f64 fu_=some r):AK J 64 [] E [] (λw E' B'=>∃(ag:An) (al:Nat) (am:An) (ap:Nat),w= .agg #[sV ag r.1 al,sV am r.2 ap]/\B'= []/\Al (rL rI) E' ag al r.1/\Al As E' am ap r.2):=by
 refine Bd func64 λQ a7 cs H aw ay=>?_;unfold f64 at ac;refine zg 2 rfl (BO aw GB λr1 az=>?_);obtain⟨K,a0,a1⟩:=bs ac;refine zg 3 rfl (BU (Pq Al.nil Al.nil a0) rfl rfl N9 az ?_);rintro _ a8 _ a2 ⟨O,U,Y,Z,rfl,rfl,a3,a4⟩ a5;refine Bv 1 a5 Bu λaq=>?_;refine JL.done ?_;obtain rfl:=oi a1;refine JL.ret (v:= .agg #[sV O K.1 U,sV Y K.2 Z]) rfl rfl (Bz.list func64 rfl (vs:= [.agg #[sV O K.1 U,sV Y K.2 Z]]) ⟨⟨_,rfl,Ld.many (vs:= [sV O K.1 U,sV Y K.2 Z]) B2 Bu (Dp (off:=0) 1 aq rfl rfl)⟩,trivial⟩) (Db 1 aq rfl λa6=>?_);exact ay a2 rfl ⟨O,U,Y,Z,rfl,rfl,a3,a4⟩ a6
def f65(fu_:Nat):Option (AQ):= (f110 fu_ ([5,1]:List Int) ([])).bind λK=> some K
theorem Z9{fu_:Nat}{r:AQ}(ac:f65 fu_=some r):AK J 65 [] E [] (λw E' B'=>∃(ag:An) (al:Nat) (am:An) (ap:Nat),w= .agg #[sV ag r.1 al,sV am r.2 ap]/\B'= []/\Al (rL rI) E' ag al r.1/\Al As E' am ap r.2):=by
 refine Bd func65 λQ bi cs H aw ay=>?_;unfold f65 at ac;refine zg 2 rfl (BO aw GB λr1 az=>?_);refine zg 3 rfl (FG (pp:=rI) [iV 5,iV 1] [5,1] rfl rfl rfl underlying28 AB Cg (by decide) rfl rfl rfl ⟨rfl,rfl,trivial⟩ az λbn bo a0 a1=>?_);refine BJ 2 a0 a1 rfl λbq a2 a3 a4=>?_;obtain⟨K,a5,a6⟩:=bs ac;refine BU (Pq a3 Al.nil a5) rfl rfl N9 a4 ?_;rintro _ br _ a7 ⟨O,U,Y,Z,rfl,rfl,a8,a9⟩ bb;refine Bv 1 bb Bu λaq=>?_;refine JL.done ?_;obtain rfl:=oi a6;refine JL.ret (v:= .agg #[sV O K.1 U,sV Y K.2 Z]) rfl rfl (Bz.list func65 rfl (vs:= [.agg #[sV O K.1 U,sV Y K.2 Z]]) ⟨⟨_,rfl,Ld.many (vs:= [sV O K.1 U,sV Y K.2 Z]) B2 Bu (Dp (off:=0) 1 aq rfl rfl)⟩,trivial⟩) (Db 1 aq rfl λbe=>?_);exact ay (a2.Ad a7) rfl ⟨O,U,Y,Z,rfl,rfl,a8,a9⟩ be
def f66(fu_:Nat):Option (Aw):= (f67 fu_ ([0,1,1,0,2,3,0,3,2]:List Int)).bind λK=> some K
theorem ai{fu_:Nat}{r:Aw}(K:f66 fu_=some r):AK J 66 [] E [] (λw E' B'=>∃(O:An) (U:Nat),w= sV O r U/\B'= []/\Al As E' O U r):=by
 refine Bd func66 λQ a6 cs H Y Z=>?_;unfold f66 at K;refine zg 6 rfl (FG (pp:=rI) [iV 0,iV 1,iV 1,iV 0,iV 2,iV 3,iV 0,iV 3,iV 2] [0,1,1,0,2,3,0,3,2] rfl rfl rfl underlying28 AB Cg (by decide) rfl rfl rfl ⟨rfl,rfl,rfl,rfl,rfl,rfl,rfl,rfl,rfl,trivial⟩ Y λr1 g2 ac ag=>?_);refine BJ 1 ac ag rfl λa7 al am ap=>?_;obtain⟨a8,aq,aw⟩:=bs K;refine BU (NH am aq) rfl rfl Mi ap ?_;rintro _ a9 bb ay ⟨az,a0,_,rfl,rfl,a1⟩ a2;refine zg 2 rfl (BJ 2 a1 a2 rfl λbe a3 a4 a5=>?_);obtain rfl:=oi aw;exact AN func66 rfl rfl (Z ((al.Ad ay).Ad a3) rfl ⟨az,a0,rfl,rfl,a4⟩ a5)
def Nm(fu_:Nat)(p0:List Int)(O:List Int)(K:Int):Option (Bm Int ((Bool)⊕(Unit))):= Option.bind (if K<(p0.length:Int) then(some (decide (K<(O.length:Int)))) else(some false)) λU=> if U=true then((ix p0 K).bind λY=> (ix O K).bind λZ=> if Y≠Z then(some (.done (Sum.inl false))) else((Ax (K+1)).bind λac=> some (.more ac))) else(some (.done (Sum.inr ())))
def f29(fu_:Nat)(p0:List Int)(K:List Int):Option Bool:= Option.bind (iter (Nm fu_ p0 K) fu_ 0) λO=> Sum.elim (λr=>some r) (λU=> some (decide ((p0.length:Int)=(K.length:Int)))) O
theorem K3{a1:An}{c2:Nat}{U:An}{Y:Nat}{p0:List Int}{K:List Int}(a8:Al rI E a1 c2 p0)(a9:Al rI E U Y K){fu_:Nat}{r:Bool}(aw:f29 fu_ p0 K=some r):AK J 29 [sV a1 p0 c2,sV U K Y] E [] (λw E' B'=>w= .bool r/\B'= []):=by
 refine Bd func29 λQ bS cs H bb ay=>?_;unfold f29 at aw;obtain⟨az,be,a0⟩:=bs aw;refine zg 9 rfl (Bq (λL s=>∃(a2:Unit) (a3:LH),az=Sum.inr a2/\Jm E H a3 [] [(0,sV a1 p0 c2),(1,sV U K Y)] L s) ?_ ?_)
 ·rintro _ _ ⟨a2,a3,rfl,rfl,rfl,bi,bn⟩;have bo:=elim_inr a0;refine zg 3 rfl (JL.ln underlying28 rfl rfl rfl ?_);refine zg 1 rfl (JL.ln underlying28 rfl rfl rfl ?_);refine zg 3 rfl ?_;obtain rfl:=oi bo;exact AN func29 rfl rfl (ay bi rfl ⟨rfl,rfl⟩ bn)
 ·intro bq;refine JL.block (Di be (λag=> []) (λag=> [(0,sV a1 p0 c2),(1,sV U K Y),(5,iV ag)]) Ay bb ?_);rintro ag am Z a4 a5 ⟨bT,al⟩ br;have a6:=al;unfold Nm at a6;refine zg 5 rfl (JL.ln underlying28 rfl rfl rfl ?_);obtain⟨bu,bv,bw⟩:=bs a6;refine zg 2 rfl (Gp [] (λL s=>∃(ap:LH),Jm am H ap [] [(0,sV a1 p0 c2),(1,sV U K Y),(5,iV ag),(15,.bool bu)] L s) ?_ ?_)
  ·rintro _ _ ⟨ap,rfl,rfl,ac,aq⟩;refine JL.done (Cc bw (λbx bz=>?_) (λbx bA=>?_))
   ·refine zg 4 rfl (Ei 8 λO=>?_);refine A6 O rfl [0,1] rfl ?_;obtain⟨bU,bB,bC⟩:=bs bz;refine ER 2 (a8.Ag (Z.Ad ac)) bB O underlying28 AB ?_;rintro bV bW _ rfl bD;refine Dj 3 O 0 bD A2 rfl rfl rfl rfl (A6 O rfl [4,5] rfl ?_);obtain⟨bY,bE,bF⟩:=bs bC;refine ER 6 (a9.Ag (Z.Ad ac)) bE O underlying28 AB ?_;rintro bZ b0 _ rfl bG;refine Dj 7 O 0 bG A2 rfl rfl rfl rfl (Ck [8] ?_);refine zg 2 rfl (AT bF (λbH bI=>?_) (λbH bJ=>?_))
    ·refine zg 4 rfl ?_;obtain rfl:=oi bI;obtain rfl:=a5 _ al;have bK:=elim_inl a0;obtain rfl:=oi bK;exact AN func29 rfl rfl (ay (Z.Ad ac) rfl ⟨rfl,rfl⟩ aq)
    ·obtain⟨bL,bM,bN⟩:=bs bJ;refine zg 4 rfl (Bt bM rfl rfl rfl ?_);refine zg 2 rfl ?_;obtain rfl:=oi bN;exact br bL (Z.Ad ac) aq rfl al
   ·refine JL.exit rfl ?_;obtain rfl:=oi bA;have bO:az=(Sum.inr ()):=(a5 _ al).symm;exact AA (bq _ _ ⟨(),ap,bO,rfl,rfl,(Z.Ad ac),aq⟩) rfl
  ·intro a7;refine GL 10 bv (λbP bQ=>?_) (λbP bR=>?_)
   ·refine zg 2 rfl (JL.ln underlying28 rfl rfl rfl ?_);refine zg 2 rfl ?_;obtain rfl:=oi bQ;exact AA (a7 _ _ ⟨am,rfl,rfl,Ay,a4⟩) rfl
   ·refine zg 5 rfl ?_;obtain rfl:=oi bR;exact AA (a7 _ _ ⟨am,rfl,rfl,Ay,a4⟩) rfl
def Nj(fu_:Nat)(p0:Aw)(O:Aw)(K:Int):Option (Bm Int ((Bool)⊕(Unit))):= Option.bind (if K<(p0.length:Int) then(some (decide (K<(O.length:Int)))) else(some false)) λU=> if U=true then((ix p0 K).bind λY=> (ix O K).bind λZ=> if Y≠Z then(some (.done (Sum.inl false))) else((Ax (K+1)).bind λac=> some (.more ac))) else(some (.done (Sum.inr ())))
def f26(fu_:Nat)(p0:Aw)(K:Aw):Option Bool:= Option.bind (iter (Nj fu_ p0 K) fu_ 0) λO=> Sum.elim (λr=>some r) (λU=> some (decide ((p0.length:Int)=(K.length:Int)))) O
theorem NL{a1:An}{c2:Nat}{U:An}{Y:Nat}{p0:Aw}{K:Aw}(bb:Al As E a1 c2 p0)(be:Al As E U Y K){fu_:Nat}{r:Bool}(az:f26 fu_ p0 K=some r):AK J 26 [sV a1 p0 c2,sV U K Y] E [] (λw E' B'=>w= .bool r/\B'= []):=by
 refine Bd func26 λQ bU cs H bi a0=>?_;unfold f26 at az;obtain⟨a2,bn,a3⟩:=bs az;refine zg 9 rfl (Bq (λL s=>∃(a4:Unit) (a5:LH),a2=Sum.inr a4/\Jm E H a5 [] [(0,sV a1 p0 c2),(1,sV U K Y)] L s) ?_ ?_)
 ·rintro _ _ ⟨a4,a5,rfl,rfl,rfl,bo,bq⟩;have br:=elim_inr a3;refine zg 3 rfl (JL.ln underlying23 rfl rfl rfl ?_);refine zg 1 rfl (JL.ln underlying23 rfl rfl rfl ?_);refine zg 3 rfl ?_;obtain rfl:=oi br;exact AN func26 rfl rfl (a0 bo rfl ⟨rfl,rfl⟩ bq)
 ·intro bu;refine JL.block (Di bn (λap=> []) (λap=> [(0,sV a1 p0 c2),(1,sV U K Y),(5,iV ap)]) Ay bi ?_);rintro ap aw Z a6 a7 ⟨bV,aq⟩ bv;have a8:=aq;unfold Nj at a8;refine zg 5 rfl (JL.ln underlying23 rfl rfl rfl ?_);obtain⟨bw,bx,bz⟩:=bs a8;refine zg 2 rfl (Gp [] (λL s=>∃(ac:LH),Jm aw H ac [] [(0,sV a1 p0 c2),(1,sV U K Y),(5,iV ap),(15,.bool bw)] L s) ?_ ?_)
  ·rintro _ _ ⟨ac,rfl,rfl,ag,ay⟩;refine JL.done (Cc bz (λbA bB=>?_) (λbA bC=>?_))
   ·refine zg 4 rfl (Ei 8 λO=>?_);refine A6 O rfl [0,1] rfl ?_;obtain⟨al,bD,bE⟩:=bs bB;refine ER 2 (bb.Ag (Z.Ad ag)) bD O underlying23 AV ?_;rintro bW bY _ ⟨_,_,rfl,rfl,⟨_,_,rfl,rfl,rfl⟩⟩ bF;refine Gq 3 O bF Dm AV rfl rfl rfl (A6 O rfl [4,5] rfl ?_);obtain⟨am,bG,bH⟩:=bs bE;refine ER 6 (be.Ag (Z.Ad ag)) bG O underlying23 AV ?_;rintro bZ b0 _ ⟨_,_,rfl,rfl,⟨_,_,rfl,rfl,rfl⟩⟩ bI;refine Gq 7 O bI Dm AV rfl rfl rfl (Ck [8] ?_);refine Am (v:= .bool (decide (al≠am))) rfl (λρ h=>Sm (E:=ac) (E':=ac) (ws:= [iV al.1,iV al.2.1,iV al.2.2]) (ws':= [iV am.1,iV am.2.1,iV am.2.2]) (a:=al) (b:=am) Z0 (by decide) (by decide+kernel) ⟨_,_,rfl,rfl,⟨_,_,rfl,rfl,rfl⟩⟩ ⟨_,_,rfl,rfl,⟨_,_,rfl,rfl,rfl⟩⟩ (h _ _ rfl) (h _ _ rfl)) (JL.done ?_);refine AT bH (λbJ bK=>?_) (λbJ bL=>?_)
    ·refine zg 4 rfl ?_;obtain rfl:=oi bK;obtain rfl:=a7 _ aq;have bM:=elim_inl a3;obtain rfl:=oi bM;exact AN func26 rfl rfl (a0 (Z.Ad ag) rfl ⟨rfl,rfl⟩ ay)
    ·obtain⟨bN,bO,bP⟩:=bs bL;refine zg 4 rfl (Bt bO rfl rfl rfl ?_);refine zg 2 rfl ?_;obtain rfl:=oi bP;exact bv bN (Z.Ad ag) ay rfl aq
   ·refine JL.exit rfl ?_;obtain rfl:=oi bC;have bQ:a2=(Sum.inr ()):=(a7 _ aq).symm;exact AA (bu _ _ ⟨(),ac,bQ,rfl,rfl,(Z.Ad ag),ay⟩) rfl
  ·intro a9;refine GL 10 bx (λbR bS=>?_) (λbR bT=>?_)
   ·refine zg 2 rfl (JL.ln underlying23 rfl rfl rfl ?_);refine zg 2 rfl ?_;obtain rfl:=oi bS;exact AA (a9 _ _ ⟨aw,rfl,rfl,Ay,a6⟩) rfl
   ·refine zg 5 rfl ?_;obtain rfl:=oi bT;exact AA (a9 _ _ ⟨aw,rfl,rfl,Ay,a6⟩) rfl
def f18(fu_:Nat):Option Bool:= (f63 fu_).bind λag=> (f43 fu_ ag).bind λO=> (f63 fu_).bind λal=> (f33 fu_ al).bind λU=> (f63 fu_).bind λam=> (f22 fu_ am).bind λY=> (f63 fu_).bind λap=> (f24 fu_ ap).bind λZ=> (f64 fu_).bind λaq=> (f39 fu_ aq).bind λac=> (f65 fu_).bind λaw=> (f27 fu_ aw).bind λK=> Option.bind (if O.2=0 then(some (decide (U.2=0))) else(some false)) λay=> Option.bind (if ay=true then(some (decide (Y.2=0))) else(some false)) λaz=> Option.bind (if az=true then(some (decide (Z.2=0))) else(some false)) λa0=> Option.bind (if a0=true then(some (decide (ac.2=0))) else(some false)) λa1=> Option.bind (if a1=true then(some (decide (K.2.2=0))) else(some false)) λa2=> Option.bind (if a2=true then(some (decide (Z.1=16))) else(some false)) λa3=> Option.bind (if a3=true then((f29 fu_ O.1 ([(-6),1,3,2]:List Int)).bind λa4=> some a4) else(some false)) λa5=> Option.bind (if a5=true then((f29 fu_ U.1 ([1,2,3]:List Int)).bind λa6=> some a6) else(some false)) λa7=> Option.bind (if a7=true then((f66 fu_).bind λa8=> (f26 fu_ Y.1 a8).bind λa9=> some a9) else(some false)) λbb=> Option.bind (if bb=true then((f29 fu_ ac.1 ([0]:List Int)).bind λbe=> some be) else(some false)) λbi=> Option.bind (if bi=true then((f67 fu_ ([0,2,6,2,3,3,3,1,1]:List Int)).bind λbn=> (f26 fu_ K.1 bn).bind λbo=> some bo) else(some false)) λbq=> Option.bind (if bq=true then((f29 fu_ K.2.1 ([0,1,2]:List Int)).bind λbr=> some br) else(some false)) λbu=> some bu
theorem TS{E:LH}{fu_:Nat}{r:Bool}(bA:f18 fu_=some r):AK (GI Tryz.prog) 18 [] E [] (λw E' B'=>w= .bool r/\B'= []):=by
 refine Bd func18 λQ fP cs H cb cc=>?_;unfold f18 at bA;obtain⟨fQ,cd,ce⟩:=bs bA;refine zg 6 rfl (BU (NI cd) rfl rfl Mh cb ?_);rintro _ fR _ cf ⟨fS,fT,fU,fW,rfl,rfl,cg,ci⟩ ck;obtain⟨a7,cm,cn⟩:=bs ce;refine BU (T1 cg ci cm) rfl rfl (A3 func43 rfl) ck ?_;rintro _ fX _ co ⟨a8,a9,rfl,rfl,cp⟩ cq;obtain⟨fY,cr,ct⟩:=bs cn;refine zg 8 rfl (BU (NI cr) rfl rfl Mh cq ?_);rintro _ fZ _ bB ⟨ga,gb,gc,gd,rfl,rfl,cu,cv⟩ cw;refine Bs (S':= [[],[],[],[]]) rfl cw λcy=>?_;obtain⟨aw,cz,cA⟩:=bs ct;refine BU (Z7 cu cv cz) rfl rfl (A3 func33 rfl) cy ?_;rintro _ ge _ bC ⟨ay,az,rfl,rfl,cB⟩ cC;obtain⟨gf,cD,cE⟩:=bs cA;refine zg 8 rfl (BU (NI cD) rfl rfl Mh cC ?_);rintro _ gg _ bw ⟨gh,gi,gj,gk,rfl,rfl,cF,cG⟩ cH;obtain⟨ag,cI,cJ⟩:=bs cE;refine BU (ZP cF cG cI) rfl rfl (A3 func22 rfl) cH ?_;rintro _ gl _ bx ⟨ap,aq,rfl,rfl,cK⟩ cM;refine Bs (S':= [[],[],[],[],[],[],[]]) rfl cM λcN=>?_;obtain⟨gm,cO,cP⟩:=bs cJ;refine zg 8 rfl (BU (NI cO) rfl rfl Mh cN ?_);rintro _ gn _ bo ⟨gp,gq,gr,gt,rfl,rfl,cQ,cR⟩ cT;obtain⟨a0,cV,cW⟩:=bs cP;refine Cn (ZM cQ cR cV) rfl rfl (A3 func24 rfl) cT λgu bq cX=>?_;obtain⟨gv,cY,cZ⟩:=bs cW;refine zg 8 rfl (BU (ae cY) rfl rfl (A3 func64 rfl) cX ?_);rintro _ gw _ br ⟨gx,gy,gz,gA,rfl,rfl,c0,c1⟩ c2;refine Bs (S':= [[],[],[],[],[],[],[],[],[],[]]) rfl c2 λc3=>?_;obtain⟨O,c4,c5⟩:=bs cZ;refine BU (Z6 c0 c1 c4) rfl rfl (A3 func39 rfl) c3 ?_;rintro _ gB _ bu ⟨al,am,rfl,rfl,c6⟩ c7;obtain⟨gC,c8,c9⟩:=bs c5;refine zg 8 rfl (BU (Z9 c8) rfl rfl (A3 func65 rfl) c7 ?_);rintro _ gD _ be ⟨gE,gF,gG,gH,rfl,rfl,da,db⟩ dc;obtain⟨K,dd,de⟩:=bs c9;refine BU (aI da db dd) rfl rfl (A3 func27 rfl) dc ?_;rintro _ gI _ bi ⟨Z,ac,U,Y,rfl,rfl,df,dg⟩ dh;refine Bs (S':= [[],[],[],[],[],[],[],[],[],[],[],[],[]]) rfl dh λbD=>?_;obtain⟨di,dj,dk⟩:=bs de;refine zg 13 rfl (FH 6 52 [] [(1,sV a8 a7.1 a9),(3,sV ay aw.1 az),(5,sV ap ag.1 aq),(6,iV ag.2),(7,iV a0.1),(8,iV a0.2),(9,sV al O.1 am),(10,iV O.2),(11,sV Z K.1 ac),(12,sV U K.2.1 Y),(13,iV K.2.2),(50,.bool di)] (λgJ a1 bE=>?_) (λbF=>?_))
 ·obtain⟨dn,dp,dq⟩:=bs dk;refine zg 1 rfl (FH 10 48 [] [(1,sV a8 a7.1 a9),(3,sV ay aw.1 az),(5,sV ap ag.1 aq),(7,iV a0.1),(8,iV a0.2),(9,sV al O.1 am),(10,iV O.2),(11,sV Z K.1 ac),(12,sV U K.2.1 Y),(13,iV K.2.2),(54,.bool dn)] (λgK a2 bG=>?_) (λbH=>?_))
  ·obtain⟨dr,dt,du⟩:=bs dq;refine zg 1 rfl (FH 14 44 [] [(1,sV a8 a7.1 a9),(3,sV ay aw.1 az),(5,sV ap ag.1 aq),(7,iV a0.1),(9,sV al O.1 am),(10,iV O.2),(11,sV Z K.1 ac),(12,sV U K.2.1 Y),(13,iV K.2.2),(58,.bool dr)] (λgL a3 bI=>?_) (λbJ=>?_))
   ·obtain⟨dv,dw,dx⟩:=bs du;refine zg 1 rfl (FH 18 40 [] [(1,sV a8 a7.1 a9),(3,sV ay aw.1 az),(5,sV ap ag.1 aq),(7,iV a0.1),(9,sV al O.1 am),(11,sV Z K.1 ac),(12,sV U K.2.1 Y),(13,iV K.2.2),(62,.bool dv)] (λgM a4 bK=>?_) (λbL=>?_))
    ·obtain⟨dy,dz,dA⟩:=bs dx;refine zg 1 rfl (FH 22 36 [] [(1,sV a8 a7.1 a9),(3,sV ay aw.1 az),(5,sV ap ag.1 aq),(7,iV a0.1),(9,sV al O.1 am),(11,sV Z K.1 ac),(12,sV U K.2.1 Y),(66,.bool dy)] (λgO a5 bM=>?_) (λbN=>?_))
     ·obtain⟨dB,dC,dD⟩:=bs dA;refine zg 1 rfl (FH 26 32 [] [(1,sV a8 a7.1 a9),(3,sV ay aw.1 az),(5,sV ap ag.1 aq),(9,sV al O.1 am),(11,sV Z K.1 ac),(12,sV U K.2.1 Y),(70,.bool dB)] (λgP a6 bO=>?_) (λbP=>?_))
      ·obtain⟨dE,dF,dG⟩:=bs dD;refine zg 1 rfl (FH 31 27 [] [(3,sV ay aw.1 az),(5,sV ap ag.1 aq),(9,sV al O.1 am),(11,sV Z K.1 ac),(12,sV U K.2.1 Y),(75,.bool dE)] (λgQ bb bQ=>?_) (λbR=>?_))
       ·obtain⟨dH,dI,dJ⟩:=bs dG;refine zg 1 rfl (FH 36 22 [] [(5,sV ap ag.1 aq),(9,sV al O.1 am),(11,sV Z K.1 ac),(12,sV U K.2.1 Y),(80,.bool dH)] (λgR bn bS=>?_) (λbT=>?_))
        ·obtain⟨dK,dL,dM⟩:=bs dJ;refine zg 1 rfl (FH 41 17 [] [(9,sV al O.1 am),(11,sV Z K.1 ac),(12,sV U K.2.1 Y),(85,.bool dK)] (λgS bv bU=>?_) (λbV=>?_))
         ·obtain⟨dN,dO,dP⟩:=bs dM;refine zg 1 rfl (FH 46 12 [] [(11,sV Z K.1 ac),(12,sV U K.2.1 Y),(90,.bool dN)] (λgT bz bW=>?_) (λbY=>?_))
          ·obtain⟨dQ,dR,dS⟩:=bs dP;refine zg 1 rfl (FH 52 6 [] [(12,sV U K.2.1 Y),(96,.bool dQ)] (λgU bZ b0=>?_) (λb1=>?_))
           ·obtain⟨dT,dU,dV⟩:=bs dS;refine zg 1 rfl (FH 57 1 [] [(101,.bool dT)] (λgV dW dX=>?_) (λb2=>?_))
            ·refine zg 2 rfl ?_;obtain rfl:=oi dV;exact AN func18 rfl rfl (cc (((((((((((((((((((((((cf.Ad co).Ad bB).Ad bC).Ad bw).Ad bx).Ad bo).Ad bq).Ad br).Ad bu).Ad be).Ad bi).Ad a1).Ad a2).Ad a3).Ad a4).Ad a5).Ad a6).Ad bb).Ad bn).Ad bv).Ad bz).Ad bZ).Ad dW) rfl ⟨rfl,rfl⟩ dX)
            ·refine Fh 97 dU (λdY dZ=>?_) (λdY ea=>?_)
             ·refine zg 1 rfl (FG (pp:=rI) [iV 0,iV 1,iV 2] [0,1,2] rfl rfl rfl underlying28 AB Cg (by decide) rfl rfl rfl ⟨rfl,rfl,rfl,trivial⟩ b0 λgW gX eb ec=>?_);refine BJ 0 eb ec rfl λgY b3 ed ee=>?_;obtain⟨gZ,ef,eg⟩:=bs dZ;refine Cn (K3 (dg.Ag (((((((((((a1.Ad a2).Ad a3).Ad a4).Ad a5).Ad a6).Ad bb).Ad bn).Ad bv).Ad bz).Ad bZ).Ad b3)) ed ef) rfl rfl Ky ee λg0 eh ei=>Bs (S':= [[],[]]) rfl ei λej=>zg 1 rfl ?_;obtain rfl:=oi eg;exact b2 (b3.Ad eh) ej rfl
             ·refine zg 4 rfl ?_;obtain rfl:=oi ea;exact b2 Ay b0 rfl
           ·refine Fh 91 dR (λek el=>?_) (λek em=>?_)
            ·refine zg 1 rfl (FG (pp:=rI) [iV 0,iV 2,iV 6,iV 2,iV 3,iV 3,iV 3,iV 1,iV 1] [0,2,6,2,3,3,3,1,1] rfl rfl rfl underlying28 AB Cg (by decide) rfl rfl rfl ⟨rfl,rfl,rfl,rfl,rfl,rfl,rfl,rfl,rfl,trivial⟩ bW λg1 g3 en eo=>?_);refine BJ 0 en eo rfl λg4 b4 ep er=>?_;obtain⟨g5,et,eu⟩:=bs el;refine BU (NH ep et) rfl rfl Mi er ?_;rintro _ g6 ew b5 ⟨g7,g8,_,rfl,rfl,ex⟩ ey;refine Bs (S':= [[],ew]) rfl ey λez=>BJ 1 ex ez rfl λg9 b6 eA eB=>?_;obtain⟨ha,eC,eD⟩:=bs eu;refine Cn (NL (df.Ag ((((((((((((a1.Ad a2).Ad a3).Ad a4).Ad a5).Ad a6).Ad bb).Ad bn).Ad bv).Ad bz).Ad b4).Ad b5).Ad b6)) eA eC) rfl rfl Mg eB λhb eE eF=>zg 1 rfl ?_;obtain rfl:=oi eD;exact b1 (((b4.Ad b5).Ad b6).Ad eE) eF rfl
            ·refine zg 5 rfl ?_;obtain rfl:=oi em;exact b1 Ay bW rfl
          ·refine Fh 86 dO (λeG eH=>?_) (λeG eI=>?_)
           ·refine zg 1 rfl (FG (pp:=rI) [iV 0] [0] rfl rfl rfl underlying28 AB Cg (by decide) rfl rfl rfl ⟨rfl,trivial⟩ bU λhc hd eJ eK=>?_);refine BJ 0 eJ eK rfl λhe b7 eL eM=>?_;obtain⟨hf,eN,eO⟩:=bs eH;refine Cn (K3 (c6.Ag (((((((((((be.Ad bi).Ad a1).Ad a2).Ad a3).Ad a4).Ad a5).Ad a6).Ad bb).Ad bn).Ad bv).Ad b7)) eL eN) rfl rfl Ky eM λhg eP eQ=>Bs (S':= [[],[]]) rfl eQ λeR=>zg 1 rfl ?_;obtain rfl:=oi eO;exact bY (b7.Ad eP) eR rfl
           ·refine zg 4 rfl ?_;obtain rfl:=oi eI;exact bY Ay bU rfl
         ·refine Fh 81 dL (λeS eT=>?_) (λeS eU=>?_)
          ·obtain⟨hj,eV,eW⟩:=bs eT;refine zg 1 rfl (BU (ai eV) rfl rfl (A3 func66 rfl) bS ?_);rintro _ hk _ b8 ⟨hl,hm,rfl,rfl,eX⟩ eY;obtain⟨hn,eZ,e0⟩:=bs eW;refine Cn (NL (cK.Ag ((((((((((((((bo.Ad bq).Ad br).Ad bu).Ad be).Ad bi).Ad a1).Ad a2).Ad a3).Ad a4).Ad a5).Ad a6).Ad bb).Ad bn).Ad b8)) eX eZ) rfl rfl Mg eY λho e1 e3=>zg 1 rfl ?_;obtain rfl:=oi e0;exact bV (b8.Ad e1) e3 rfl
          ·refine zg 4 rfl ?_;obtain rfl:=oi eU;exact bV Ay bS rfl
        ·refine Fh 76 dI (λe4 e5=>?_) (λe4 e6=>?_)
         ·refine zg 1 rfl (FG (pp:=rI) [iV 1,iV 2,iV 3] [1,2,3] rfl rfl rfl underlying28 AB Cg (by decide) rfl rfl rfl ⟨rfl,rfl,rfl,trivial⟩ bQ λhp hq e7 e8=>?_);refine BJ 0 e7 e8 rfl λhr b9 e9 fa=>?_;obtain⟨hs,fb,fc⟩:=bs e5;refine Cn (K3 (cB.Ag (((((((((((((((bw.Ad bx).Ad bo).Ad bq).Ad br).Ad bu).Ad be).Ad bi).Ad a1).Ad a2).Ad a3).Ad a4).Ad a5).Ad a6).Ad bb).Ad b9)) e9 fb) rfl rfl Ky fa λht fe ff=>Bs (S':= [[],[]]) rfl ff λfg=>zg 1 rfl ?_;obtain rfl:=oi fc;exact bT (b9.Ad fe) fg rfl
         ·refine zg 4 rfl ?_;obtain rfl:=oi e6;exact bT Ay bQ rfl
       ·refine Fh 71 dF (λfh fj=>?_) (λfh fk=>?_)
        ·refine zg 1 rfl (FG (pp:=rI) [iV (-6),iV 1,iV 3,iV 2] [(-6),1,3,2] rfl rfl rfl underlying28 AB Cg (by decide) rfl rfl rfl ⟨rfl,rfl,rfl,rfl,trivial⟩ bO λhu hv fl fm=>?_);refine BJ 0 fl fm rfl λhw ca fo fp=>?_;obtain⟨hx,fq,fs⟩:=bs fj;refine Cn (K3 (cp.Ag ((((((((((((((((bB.Ad bC).Ad bw).Ad bx).Ad bo).Ad bq).Ad br).Ad bu).Ad be).Ad bi).Ad a1).Ad a2).Ad a3).Ad a4).Ad a5).Ad a6).Ad ca)) fo fq) rfl rfl Ky fp λhy fu fv=>Bs (S':= [[],[]]) rfl fv λfw=>zg 1 rfl ?_;obtain rfl:=oi fs;exact bR (ca.Ad fu) fw rfl
        ·refine zg 4 rfl ?_;obtain rfl:=oi fk;exact bR Ay bO rfl
      ·refine Fh 67 dC (λfx fy=>?_) (λfx fz=>?_)
       ·refine zg 3 rfl ?_;obtain rfl:=oi fy;exact bP Ay bM rfl
       ·refine zg 3 rfl ?_;obtain rfl:=oi fz;exact bP Ay bM rfl
     ·refine Fh 63 dz (λfA fB=>?_) (λfA fC=>?_)
      ·refine zg 3 rfl ?_;obtain rfl:=oi fB;exact bN Ay bK rfl
      ·refine zg 3 rfl ?_;obtain rfl:=oi fC;exact bN Ay bK rfl
    ·refine Fh 59 dw (λfD fE=>?_) (λfD fF=>?_)
     ·refine zg 3 rfl ?_;obtain rfl:=oi fE;exact bL Ay bI rfl
     ·refine zg 3 rfl ?_;obtain rfl:=oi fF;exact bL Ay bI rfl
   ·refine Fh 55 dt (λfG fH=>?_) (λfG fI=>?_)
    ·refine zg 3 rfl ?_;obtain rfl:=oi fH;exact bJ Ay bG rfl
    ·refine zg 3 rfl ?_;obtain rfl:=oi fI;exact bJ Ay bG rfl
  ·refine Fh 51 dp (λfJ fK=>?_) (λfJ fL=>?_)
   ·refine zg 3 rfl ?_;obtain rfl:=oi fK;exact bH Ay bE rfl
   ·refine zg 3 rfl ?_;obtain rfl:=oi fL;exact bH Ay bE rfl
 ·refine GL 47 dj (λfM fN=>?_) (λfM fO=>?_)
  ·refine zg 3 rfl ?_;obtain rfl:=oi fN;exact bF Ay bD rfl
  ·refine zg 3 rfl ?_;obtain rfl:=oi fO;exact bF Ay bD rfl
end Pal
namespace Pal
open Go Go.Conc Go.Proofs
open Go.Proofs.Tryz
variable {J:Judge Tryz.prog}{E:LH}
def NA(fu_:Nat)(p0:AQ)(K:Int):Option (Bm Int ((Bool)⊕(Unit))):= if K<(p0.1.length:Int) then((ix p0.1 K).bind λO=> if 20<(O.length:Int) then(some (.done (Sum.inl true))) else((Ax (K+1)).bind λU=> some (.more U))) else(some (.done (Sum.inr ())))
def f17(fu_:Nat)(p0:AQ):Option Bool:= Option.bind (if 20<(p0.1.length:Int) then(some true) else(some (decide (20<(p0.2.length:Int))))) λK=> if K=true then(some true) else(Option.bind (iter (NA fu_ p0) fu_ 0) λO=> Sum.elim (λr=>some r) (λU=> some false) O)
theorem ZZ{a1:An}{c2:Nat}{aq:An}{aw:Nat}{p0:AQ}(bb:Al (rL rI) E a1 c2 p0.1)(bU:Al As E aq aw p0.2){fu_:Nat}{r:Bool}(ay:f17 fu_ p0=some r):AK J 17 [.agg #[sV a1 p0.1 c2,sV aq p0.2 aw]] E [] (λw E' B'=>w= .bool r/\B'= []):=by
 refine Bd func17 λQ bV cs H be ac=>?_;unfold f17 at ay;refine zg 2 rfl (Cr be λaz ag U Y a0=>?_);refine zg 5 rfl (Bw 0 Y underlying25 Dg Dy ?_);refine JL.ln underlying22 rfl rfl rfl ?_;obtain⟨bi,bn,bo⟩:=bs ay;refine zg 2 rfl (Gp [] (λL s=>∃(al:LH),Jm ag H al [] [(1,Aj az 0),(13,.bool bi)] L s) ?_ ?_)
 ·rintro _ _ ⟨al,rfl,rfl,K,a2⟩;refine JL.done (Cc bo (λbq br=>?_) (λbq bu=>?_))
  ·refine zg 4 rfl ?_;obtain rfl:=oi br;exact AN func17 rfl rfl (ac (U.Ad K) rfl ⟨rfl,rfl⟩ a2)
  ·obtain⟨a3,bv,a4⟩:=bs bu;refine zg 6 rfl (Bq (λL s=>∃(a5:Unit) (a6:LH),a3=Sum.inr a5/\Jm al H a6 [] [] L s) ?_ ?_)
   ·rintro _ _ ⟨a5,a6,rfl,rfl,rfl,bw,bx⟩;have bz:=elim_inr a4;refine zg 4 rfl ?_;obtain rfl:=oi bz;exact AN func17 rfl rfl (ac ((U.Ad K).Ad bw) rfl ⟨rfl,rfl⟩ bx)
   ·intro bA;refine JL.block (Di bv (λam=> []) (λam=> [(1,Aj az 0),(3,iV am)]) Ay a2 ?_);rintro am bB O ap a7 ⟨bW,Z⟩ bC;have a8:=Z;unfold NA at a8;refine zg 4 rfl (Bw 0 (Y.Ag (K.Ad O)) underlying25 Dg Dy ?_);refine JL.ln underlying22 rfl rfl rfl (zg 2 rfl ?_);refine AT a8 (λbD bE=>?_) (λbD bF=>?_)
    ·refine zg 5 rfl (Bw 0 (Y.Ag (K.Ad O)) underlying25 Dg Dy ?_);obtain⟨bY,bG,bH⟩:=bs bE;refine zg 1 rfl (JS.ix (bb.Ag ((U.Ad K).Ad O)) bG underlying22 Eu ?_);rintro bZ b0 _ ⟨b1,b2,rfl,b3⟩ bI;refine CL 0 bI GA rfl rfl rfl (JL.ln underlying28 rfl rfl rfl ?_);refine zg 2 rfl (AT bH (λbJ bK=>?_) (λbJ bL=>?_))
     ·refine zg 4 rfl ?_;obtain rfl:=oi bK;obtain rfl:=a7 _ Z;have bM:=elim_inl a4;obtain rfl:=oi bM;exact AN func17 rfl rfl (ac ((U.Ad K).Ad O) rfl ⟨rfl,rfl⟩ ap)
     ·obtain⟨bN,bO,bP⟩:=bs bL;refine zg 4 rfl (Bt bO rfl rfl rfl ?_);refine zg 2 rfl ?_;obtain rfl:=oi bP;exact bC bN O ap rfl Z
    ·refine JL.exit rfl ?_;obtain rfl:=oi bF;have bQ:a3=(Sum.inr ()):=(a7 _ Z).symm;exact AA (bA _ _ ⟨(),bB,bQ,rfl,rfl,O,ap⟩) rfl
 ·intro a9;refine GL 8 bn (λbR bS=>?_) (λbR bT=>?_)
  ·refine zg 5 rfl ?_;obtain rfl:=oi bS;exact AA (a9 _ _ ⟨ag,rfl,rfl,Ay,a0⟩) rfl
  ·refine Bw 1 Y underlying25 Cu Et ?_;refine JL.ln underlying23 rfl rfl rfl (zg 2 rfl ?_);obtain rfl:=oi bT;exact AA (a9 _ _ ⟨ag,rfl,rfl,Ay,a0⟩) rfl
def f104(fu_:Nat)(p0:List Int):Option ((List Int)):= (C4 ([]:List Int) p0).bind λK=> some K
theorem Zh{a1:An}{c2:Nat}{p0:List Int}(Y:Al rI E a1 c2 p0){fu_:Nat}{r:(List Int)}(K:f104 fu_ p0=some r):AK J 104 [sV a1 p0 c2] E [] (λw E' B'=>∃(O:An) (U:Nat),w= sV O r U/\B'= []/\Al rI E' O U r):=by
 refine Bd func104 λQ a4 cs H Z ac=>?_;unfold f104 at K;refine zg 6 rfl (MR (pp:=rI) rfl rfl rfl underlying28 AB Z λa5 a6 ag al=>?_);obtain⟨a7,am,ap⟩:=bs K;refine zg 1 rfl (FF (pp:=rI) 1 am rfl rfl rfl rfl rfl rfl rfl underlying28 underlying28 AB (B8 type3) Cg rfl (by decide) (by decide) ag Y al rfl λaq aw a8 ay az=>?_);refine zg 2 rfl (BJ 1 ay az rfl λa9 a0 a2 a3=>?_);obtain rfl:=oi ap;exact AN func104 rfl rfl (ac a0 rfl ⟨aq,aw,rfl,rfl,a2⟩ a3)
def Nz(fu_:Nat)(p0:Bb)(K:Bb×Int):Option (Bm (Bb×Int) (Bb)):= if K.2<(p0.length:Int) then((ix p0 K.2).bind λO=> (f104 fu_ O).bind λU=> (ix K.1 K.2).bind λZ=> (Ax (K.2+1)).bind λY=> some (.more ((K.1.set (Int.toNat K.2) U),Y))) else(some (.done K.1))
def f68(fu_:Nat)(p0:Bb):Option (Bb):= (IE (p0.length:Int) ([]:List Int)).bind λK=> Option.bind (iter (Nz fu_ p0) fu_ (K,0)) λO=> some O
theorem TP{a1:An}{c2:Nat}{p0:Bb}(bi:Al (rL rI) E a1 c2 p0){fu_:Nat}{r:Bb}(a2:f68 fu_ p0=some r):AK J 68 [sV a1 p0 c2] E [] (λw E' B'=>∃(a3:An) (a4:Nat),w= sV a3 r a4/\B'= []/\Al (rL rI) E' a3 a4 r):=by
 refine Bd func68 λQ cd cs H bn bo=>?_;unfold f68 at a2;refine zg 7 rfl (JL.ln underlying22 rfl rfl rfl ?_);obtain⟨bq,br,bu⟩:=bs a2;refine JS.make (pp:=(rL rI)) br rfl rfl rfl rfl rfl underlying22 Eu (B8 type28) (by decide) Kz (by decide) ⟨_,_,rfl,Al.nil⟩ bn λbv bw bx bz=>?_;obtain⟨a5,bA,bB⟩:=bs bu;refine zg 7 rfl (Bq (λL s=>∃(aq:LH) (Z:An) (ac:Nat) (aw:Seg),Jn E H aq [aw] [(3,sV Z a5 ac)] L s (OL 28 (rL rI) aq Z ac aw a5)) ?_ ?_)
 ·rintro _ _ ⟨aq,Z,ac,aw,rfl,rfl,bC,bD,bE⟩;refine zg 5 rfl (BJ 0 bE bD rfl λce bF bG bH=>?_);obtain rfl:=oi bB;exact AN func68 rfl rfl (bo (bC.Ad bF) rfl ⟨Z,ac,rfl,rfl,bG⟩ bH)
 ·intro bI;refine JL.block (CI bA (λL s K=>∃(ag:LH) (U:An) (Y:Nat) (al:Seg),Jn E H ag [al] [(0,sV a1 p0 c2),(3,sV U K.1 Y),(4,iV K.2)] L s (OL 28 (rL rI) ag U Y al K.1)) ⟨E,(AX bv),bq.length,bw,rfl,rfl,Ay,bz,bx⟩ ?_);rintro _ _ K ⟨ag,U,Y,al,rfl,rfl,ay,a6,a7⟩ bJ ⟨cf,az⟩ bK;have a8:=az;unfold Nz at a8;refine zg 5 rfl (JL.ln underlying22 rfl rfl rfl ?_);refine zg 2 rfl (AT a8 (λbL bM=>?_) (λbL bN=>?_))
  ·obtain⟨bO,bP,bQ⟩:=bs bM;refine zg 8 rfl (JS.ix (bi.Ag ay) bP underlying22 Eu ?_);rintro bR bS _ ⟨bT,bU,rfl,bV⟩ bW;refine CL 0 bW GA rfl rfl rfl ?_;obtain⟨O,bY,bZ⟩:=bs bQ;refine BU (Zh bV bY) rfl rfl (A3 func104 rfl) a6 ?_;rintro _ b0 _ a9 ⟨am,ap,rfl,rfl,b1⟩ b2;obtain⟨cg,b3,b4⟩:=bs bZ;refine M5 0 (a7.Ag a9) b3 rfl rfl rfl rfl rfl rfl underlying22 Eu ?_;rintro bb a0 f78 _ b5 ⟨ci,ck,rfl,cm⟩ cn b6 b7 co cp;refine JS.store (v:= sV am O ap) (off:=a0) 0 rfl rfl rfl b2 rfl rfl Eu (by simp [Value.cells,Dc]) b5 (by have:=b6;simp only [Rp.n,rK,rN,rB,rP,rL] at this;show _+1<=_;omega) λb8=>?_;have b9:=b7 O [sV am O ap] ⟨_,_,rfl,b1⟩;have be:(K.1.set (Int.toNat K.2) O).length=K.1.length:=List.length_set;refine EO (L':= [(0,.slice a1 p0.length c2),(3,.slice U ((K.1.set (Int.toNat K.2) O)).length Y),(4,iV K.2),(8,iV K.2),(9,.slice a1 p0.length c2),(10,iV (p0.length:Int)),(11,.bool (decide (K.2<(p0.length:Int)))),(14,.slice U ((K.1.set (Int.toNat K.2) O)).length Y),(15,iV K.2),(16,.slice a1 p0.length c2),(17,iV K.2),(18,Aj bR bS),(19,.slice bT bO.length bU),(20,.slice am O.length ap),(21,Aj bb a0)]) ⟨rfl,by rw [be];rfl,rfl,rfl,rfl,rfl,rfl,by rw [be];rfl,rfl,rfl,rfl,rfl,rfl,rfl,rfl,trivial⟩ ?_;obtain⟨ca,cb,cc⟩:=bs b4;refine zg 4 rfl (Bt cb rfl rfl rfl ?_);refine zg 2 rfl ?_;obtain rfl:=oi cc;exact AA (bK _ _ ((K.1.set (Int.toNat K.2) O),ca) ⟨b0,U,Y,[(bb,.cells (Be f78 a0 [sV am O ap]) 28 (0,0))],rfl,rfl,(ay.Ad a9),b8,b9⟩ az) rfl
  ·refine JL.exit rfl ?_;obtain rfl:=oi bN;obtain rfl:=bJ _ az;exact AA (bI _ _ ⟨ag,U,Y,al,rfl,rfl,ay,a6,a7⟩) rfl
def f69(fu_:Nat)(p0:Aw):Option (Aw):= (C4 ([]:Aw) p0).bind λK=> some K
theorem ZR{a1:An}{c2:Nat}{p0:Aw}(Y:Al As E a1 c2 p0){fu_:Nat}{r:Aw}(K:f69 fu_ p0=some r):AK J 69 [sV a1 p0 c2] E [] (λw E' B'=>∃(O:An) (U:Nat),w= sV O r U/\B'= []/\Al As E' O U r):=by
 refine Bd func69 λQ a4 cs H Z ac=>?_;unfold f69 at K;refine zg 6 rfl (MR (pp:=As) rfl rfl rfl underlying23 AV Z λa5 a6 ag al=>?_);obtain⟨a7,am,ap⟩:=bs K;refine zg 1 rfl (FF (pp:=As) 1 am rfl rfl rfl rfl rfl rfl rfl underlying23 underlying23 AV (B8 type27) Bp rfl (by decide) (by decide) ag Y al rfl λaq aw a8 ay az=>?_);refine zg 2 rfl (BJ 1 ay az rfl λa9 a0 a2 a3=>?_);obtain rfl:=oi ap;exact AN func69 rfl rfl (ac a0 rfl ⟨aq,aw,rfl,rfl,a2⟩ a3)
def f21(fu_:Nat)(p0:AQ):Option (AQ):= (f68 fu_ p0.1).bind λK=> (f69 fu_ p0.2).bind λO=> some (K,O)
theorem aA{a1:An}{c2:Nat}{am:An}{ap:Nat}{p0:AQ}(a6:Al (rL rI) E a1 c2 p0.1)(a7:Al As E am ap p0.2){fu_:Nat}{r:AQ}(aq:f21 fu_ p0=some r):AK J 21 [.agg #[sV a1 p0.1 c2,sV am p0.2 ap]] E [] (λw E' B'=>∃(aw:An) (ay:Nat) (az:An) (a0:Nat),w= .agg #[sV aw r.1 ay,sV az r.2 a0]/\B'= []/\Al (rL rI) E' aw ay r.1/\Al As E' az a0 r.2):=by
 refine Bd func21 λQ bz cs H a8 a9=>?_;unfold f21 at aq;refine zg 2 rfl (Cr a8 λbA bB al a2 bb=>?_);refine BO bb GB λbC be=>?_;refine zg 2 rfl (Ei 5 λZ=>?_);refine JG.fd 0 Z underlying25 Dg rfl rfl rfl rfl (Dj 1 Z 0 a2 Dy rfl rfl rfl rfl ?_);refine JG.fd 3 Z underlying25 Cu rfl rfl rfl rfl (Dj 4 Z 1 a2 Et rfl rfl rfl rfl ?_);obtain⟨ac,bi,bn⟩:=bs aq;refine JG.call (i:=2) (vs:= [sV a1 p0.1 c2]) (TP (a6.Ag al) bi) (by decide+kernel) rfl rfl rfl (A3 func68 rfl) rfl be ?_;rintro _ bD _ a3 ⟨K,O,rfl,rfl,bo⟩ bq;refine Ck [5,6,7] ?_;obtain⟨ag,br,bu⟩:=bs bn;refine BU (ZR (a7.Ag (al.Ad a3)) br) rfl rfl (A3 func69 rfl) bq ?_;rintro _ bE _ a4 ⟨U,Y,rfl,rfl,bv⟩ bw;refine Am (v:= .agg #[sV K ac O,sV U ag Y]) rfl (λρ h=>C3 [(0,1),(1,1)] h GB underlying25 ⟨rfl,AR type22,rfl,AR type23,trivial⟩ rfl rfl) (Bv 2 bw Bu λa5=>?_);refine JL.done ?_;obtain rfl:=oi bu;refine JL.ret (v:= .agg #[sV K ac O,sV U ag Y]) rfl rfl (Bz.list func21 rfl (vs:= [.agg #[sV K ac O,sV U ag Y]]) ⟨⟨_,rfl,Ld.many (vs:= [sV K ac O,sV U ag Y]) B2 Bu (Dp (off:=0) 2 a5 rfl rfl)⟩,trivial⟩) (Db 2 a5 rfl λbx=>?_);exact a9 ((al.Ad a3).Ad a4) rfl ⟨K,O,U,Y,rfl,rfl,(bo.Ag a4),bv⟩ bx
def f20(fu_:Nat)(p0:List Int):Option ((Cw)):= some (p0,0,2685821657736338717)
theorem Z1{a1:An}{c2:Nat}{p0:List Int}(Z:Al rI E a1 c2 p0){fu_:Nat}{r:(Cw)}(K:f20 fu_ p0=some r):AK J 20 [sV a1 p0 c2] E [] (λw E' B'=>∃(O:Nat) (U:An) (Y:Nat),w= Aj O 0/\B'= [(O,.cells #[sV U r.1 Y,iV r.2.1,.int .u64 ((r.2.2:Nat):Int)] 74 (0,0))]/\Al rI E' U Y r.1):=by
 refine Bd func20 λQ ap cs H ac ag=>?_;unfold f20 at K;refine zg 7 rfl (Am (v:= .agg #[sV a1 p0 c2,iV 0,.int .u64 ((2685821657736338717:Nat):Int)]) rfl (λρ h=>C3 [(0,1),(1,1),(2,1)] h (Dz type74) underlying74 ⟨rfl,AR type28,rfl,AR type3,rfl,AR type72,trivial⟩ rfl rfl) ?_);refine JS.box (v:= .agg #[sV a1 p0 c2,iV 0,.int .u64 ((2685821657736338717:Nat):Int)]) rfl rfl rfl ac rfl λal am=>zg 2 rfl ?_;obtain rfl:=oi K;exact AN func20 rfl rfl (ag Ay rfl ⟨al,a1,c2,rfl,(by first | rfl | simp | (simp [Value.cells])),Z⟩ am)
def f92(fu_:Nat)(p0:Int)(K:Int)(p2:Int):Option Bool:= Option.bind (if K<=p0 then(some (decide (p0<=p2))) else(some false)) λO=> some O
theorem NJ{p0:Int}{K:Int}{p2:Int}{fu_:Nat}{r:Bool}(O:f92 fu_ p0 K p2=some r):AK J 92 [iV p0,iV K,iV p2] E [] (λw E' B'=>w= .bool r/\B'= []):=by
 refine Bd func92 λQ az cs H U Z=>?_;unfold f92 at O;obtain⟨ac,ag,al⟩:=bs O;refine zg 10 rfl (FH 8 1 [] [(14,.bool ac)] (λa0 am ap=>?_) (λY=>?_))
 ·refine zg 2 rfl ?_;obtain rfl:=oi al;exact AN func92 rfl rfl (Z am rfl ⟨rfl,rfl⟩ ap)
 ·refine GL 10 ag (λaq aw=>?_) (λaq ay=>?_)
  ·refine zg 4 rfl ?_;obtain rfl:=oi aw;exact Y Ay U rfl
  ·refine zg 4 rfl ?_;obtain rfl:=oi ay;exact Y Ay U rfl
def f88(fu_:Nat)(p0:Int)(K:Int×Int×Int)(p2:Int):Option Int:= (Ax (p0 - 1)).bind λO=> (f92 fu_ K.1 0 O).bind λU=> Option.bind (if(!U)=true then(some true) else((Ax (p0 - 1)).bind λY=> (f92 fu_ K.2.1 0 Y).bind λZ=> some (!Z))) λac=> if ac=true then(some 3) else(if K.1=K.2.1 then(some 8) else((f92 fu_ K.2.2 1 p2).bind λag=> if(!ag)=true then(some 1) else(some 0)))
theorem aN{p0:Int}{Y:Int×Int×Int}{p2:Int}{fu_:Nat}{r:Int}(al:f88 fu_ p0 Y p2=some r):AK J 88 [iV p0,.agg #[iV Y.1,iV Y.2.1,iV Y.2.2],iV p2] E [] (λw E' B'=>w=iV r/\B'= []):=by
 refine Bd func88 λQ bI cs H ay Z=>?_;unfold f88 at al;refine zg 2 rfl (Cr ay λr2 bJ ac U az=>?_);refine zg 6 rfl (Bw 0 U underlying27 AB A2 ?_);obtain⟨bK,a0,a1⟩:=bs al;refine zg 1 rfl (Cm a0 rfl rfl rfl ?_);obtain⟨a2,a3,a4⟩:=bs a1;refine Cn (NJ a3) rfl rfl Mf az λbL K am=>Am (v:= .bool (!a2)) rfl (λρ h=>Yl.not (h _ _ rfl)) ?_;obtain⟨a5,a6,a7⟩:=bs a4;refine zg 1 rfl (FH 14 1 [] [(2,iV p2),(4,Aj r2 0),(21,.bool a5)] (λbM O ag=>?_) (λap=>?_))
 ·refine zg 2 rfl (Cc a7 (λa8 a9=>?_) (λa8 bb=>?_))
  ·refine zg 4 rfl ?_;obtain rfl:=oi a9;exact AN func88 rfl rfl (Z ((ac.Ad K).Ad O) rfl ⟨rfl,rfl⟩ ag)
  ·refine zg 2 rfl (Bw 0 (U.Ag (K.Ad O)) underlying27 AB A2 ?_);refine Bw 1 (U.Ag (K.Ad O)) underlying27 AB A2 ?_;refine zg 3 rfl (AT bb (λbe bi=>?_) (λbe bn=>?_))
   ·refine zg 4 rfl ?_;obtain rfl:=oi bi;exact AN func88 rfl rfl (Z ((ac.Ad K).Ad O) rfl ⟨rfl,rfl⟩ ag)
   ·refine zg 2 rfl (Bw 2 (U.Ag (K.Ad O)) underlying27 AB A2 ?_);obtain⟨bo,bq,br⟩:=bs bn;refine zg 1 rfl (Cn (NJ bq) rfl rfl Mf ag λbN aq aw=>?_);refine Am (v:= .bool (!bo)) rfl (λρ h=>Yl.not (h _ _ rfl)) (zg 2 rfl ?_);refine Cc br (λbu bv=>?_) (λbu bw=>?_)
    ·refine zg 4 rfl ?_;obtain rfl:=oi bv;exact AN func88 rfl rfl (Z (((ac.Ad K).Ad O).Ad aq) rfl ⟨rfl,rfl⟩ aw)
    ·refine zg 6 rfl ?_;obtain rfl:=oi bw;exact AN func88 rfl rfl (Z (((ac.Ad K).Ad O).Ad aq) rfl ⟨rfl,rfl⟩ aw)
 ·refine Fh 14 a6 (λbx bz=>?_) (λbx bA=>?_)
  ·refine zg 7 rfl ?_;obtain rfl:=oi bz;exact ap Ay am rfl
  ·refine Bw 1 (U.Ag K) underlying27 AB A2 ?_;obtain⟨bO,bB,bC⟩:=bs bA;refine zg 1 rfl (Cm bB rfl rfl rfl ?_);obtain⟨bD,bE,bF⟩:=bs bC;refine Cn (NJ bE) rfl rfl Mf am λbP bG bH=>Am (v:= .bool (!bD)) rfl (λρ h=>Yl.not (h _ _ rfl)) (zg 1 rfl ?_);obtain rfl:=oi bF;exact ap bG bH rfl
def KY(fu_:Nat)(p0:AQ)(O:Int)(K:Int):Option (Bm Int ((Int)⊕(Unit))):= (ix p0.1 O).bind λU=> if K<(U.length:Int) then((ix p0.1 O).bind λY=> (ix Y K).bind λZ=> (f92 fu_ Z 1 9).bind λac=> if(!ac)=true then(some (.done (Sum.inl 1))) else((Ax (K+1)).bind λag=> some (.more ag))) else(some (.done (Sum.inr ())))
def KX(fu_:Nat)(p0:AQ)(K:Int):Option (Bm Int ((Int)⊕(Unit))):= if K<(p0.1.length:Int) then((ix p0.1 K).bind λO=> if 3<(O.length:Int) then(some (.done (Sum.inl 6))) else(Option.bind (iter (KY fu_ p0 K) fu_ 0) λU=> Sum.elim (λr=>some (.done (Sum.inl r))) (λZ=> (Ax (K+1)).bind λY=> some (.more Y)) U)) else(some (.done (Sum.inr ())))
def Nv(fu_:Nat)(p0:AQ)(K:Int):Option (Bm Int ((Int)⊕(Unit))):= if K<(p0.2.length:Int) then((ix p0.2 K).bind λU=> (f88 fu_ (p0.1.length:Int) U 9).bind λO=> if O≠0 then(some (.done (Sum.inl O))) else((Ax (K+1)).bind λY=> some (.more Y))) else(some (.done (Sum.inr ())))
def f48(fu_:Nat)(p0:AQ):Option Int:= if(p0.1.length:Int)<2 then(some 7) else(if 5<(p0.1.length:Int) then(some 6) else(Option.bind (iter (KX fu_ p0) fu_ 0) λK=> Sum.elim (λr=>some r) (λU=> if 8<(p0.2.length:Int) then(some 6) else(Option.bind (iter (Nv fu_ p0) fu_ 0) λO=> Sum.elim (λr=>some r) (λY=> some 0) O)) K))
theorem PM{a1:An}{c2:Nat}{a7:An}{a8:Nat}{p0:AQ}(ay:Al (rL rI) E a1 c2 p0.1)(bL:Al As E a7 a8 p0.2){fu_:Nat}{r:Int}(a9:f48 fu_ p0=some r):AK J 48 [.agg #[sV a1 p0.1 c2,sV a7 p0.2 a8]] E [] (λw E' B'=>w=iV r/\B'= []):=by
 refine Bd func48 λQ di cs H bM U=>?_;unfold f48 at a9;refine zg 2 rfl (Cr bM λal bN K Y az=>?_);refine zg 4 rfl (Bw 0 Y underlying25 Dg Dy ?_);refine JL.ln underlying22 rfl rfl rfl (zg 8 rfl ?_);refine AT a9 (λbO bP=>?_) (λbO bQ=>?_)
 ·refine zg 4 rfl ?_;obtain rfl:=oi bP;exact AN func48 rfl rfl (U K rfl ⟨rfl,rfl⟩ az)
 ·refine zg 7 rfl (AT bQ (λbR bS=>?_) (λbR bT=>?_))
  ·refine zg 4 rfl ?_;obtain rfl:=oi bS;exact AN func48 rfl rfl (U K rfl ⟨rfl,rfl⟩ az)
  ·obtain⟨bb,bU,a0⟩:=bs bT;refine zg 6 rfl (Bq (λL s=>∃(be:Unit) (a2:LH),bb=Sum.inr be/\Jm bN H a2 [] [(1,Aj al 0),(3,iV (p0.1.length:Int))] L s) ?_ ?_)
   ·rintro _ _ ⟨be,a2,rfl,rfl,rfl,Z,bi⟩;have bV:=elim_inr a0;refine zg 3 rfl (Bw 1 (Y.Ag Z) underlying25 Cu Et ?_);refine JL.ln underlying23 rfl rfl rfl (zg 2 rfl ?_);refine AT bV (λbW bY=>?_) (λbW bZ=>?_)
    ·refine zg 4 rfl ?_;obtain rfl:=oi bY;exact AN func48 rfl rfl (U (K.Ad Z) rfl ⟨rfl,rfl⟩ bi)
    ·obtain⟨bn,b0,bo⟩:=bs bZ;refine zg 6 rfl (Bq (λL s=>∃(bq:Unit) (br:LH),bn=Sum.inr bq/\Jm a2 H br [] [] L s) ?_ ?_)
     ·rintro _ _ ⟨bq,br,rfl,rfl,rfl,b1,b2⟩;have b3:=elim_inr bo;refine zg 4 rfl ?_;obtain rfl:=oi b3;exact AN func48 rfl rfl (U ((K.Ad Z).Ad b1) rfl ⟨rfl,rfl⟩ b2)
     ·intro b4;refine JL.block (Di b0 (λa3=> []) (λa3=> [(1,Aj al 0),(3,iV (p0.1.length:Int)),(6,iV a3)]) Ay bi ?_);rintro a3 b5 ag bu bv ⟨dj,aq⟩ b6;have bw:=aq;unfold Nv at bw;refine zg 4 rfl (Bw 1 (Y.Ag (Z.Ad ag)) underlying25 Cu Et ?_);refine JL.ln underlying23 rfl rfl rfl (zg 2 rfl ?_);refine AT bw (λb7 b8=>?_) (λb7 b9=>?_)
      ·refine zg 6 rfl (Bw 1 (Y.Ag (Z.Ad ag)) underlying25 Cu Et ?_);obtain⟨dk,ca,cb⟩:=bs b8;refine zg 1 rfl (JS.ix (bL.Ag ((K.Ad Z).Ad ag)) ca underlying23 AV ?_);rintro dn dp _ ⟨_,_,rfl,rfl,⟨_,_,rfl,rfl,rfl⟩⟩ cc;refine B3 cc Dm AV rfl rfl ?_;obtain⟨dq,cd,ce⟩:=bs cb;refine Cn (aN cd) rfl rfl (A3 func88 rfl) bu λdr bx bz=>zg 7 rfl (AT ce (λcf cg=>?_) (λcf ci=>?_))
       ·refine zg 5 rfl ?_;obtain rfl:=oi cg;obtain rfl:=bv _ aq;have ck:=elim_inl bo;obtain rfl:=oi ck;exact AN func48 rfl rfl (U (((K.Ad Z).Ad ag).Ad bx) rfl ⟨rfl,rfl⟩ bz)
       ·obtain⟨cm,cn,co⟩:=bs ci;refine zg 4 rfl (Bt cn rfl rfl rfl ?_);refine zg 2 rfl ?_;obtain rfl:=oi co;exact b6 cm (ag.Ad bx) bz rfl aq
      ·refine JL.exit rfl ?_;obtain rfl:=oi b9;have cp:bn=(Sum.inr ()):=(bv _ aq).symm;exact AA (b4 _ _ ⟨(),b5,cp,rfl,rfl,ag,bu⟩) rfl
   ·intro cq;refine JL.block (Di bU (λam=> []) (λam=> [(1,Aj al 0),(3,iV (p0.1.length:Int)),(4,iV am)]) Ay az ?_);rintro am bA O a4 a5 ⟨dt,ap⟩ cr;have bB:=ap;unfold KX at bB;refine zg 7 rfl (AT bB (λct cu=>?_) (λct cv=>?_))
    ·refine zg 6 rfl (Bw 0 (Y.Ag O) underlying25 Dg Dy ?_);obtain⟨du,cw,cy⟩:=bs cu;refine zg 1 rfl (JS.ix (ay.Ag (K.Ad O)) cw underlying22 Eu ?_);rintro dv dw _ ⟨dx,dy,rfl,dz⟩ cz;refine CL 0 cz GA rfl rfl rfl (JL.ln underlying28 rfl rfl rfl ?_);refine zg 2 rfl (AT cy (λcA cB=>?_) (λcA cC=>?_))
     ·refine zg 4 rfl ?_;obtain rfl:=oi cB;obtain rfl:=a5 _ ap;have cD:=elim_inl a0;obtain rfl:=oi cD;exact AN func48 rfl rfl (U (K.Ad O) rfl ⟨rfl,rfl⟩ a4)
     ·obtain⟨bC,cE,bD⟩:=bs cC;refine zg 5 rfl (Bq (λL s=>∃(bE:Unit) (bF:LH),bC=Sum.inr bE/\Jm bA H bF [] [(1,Aj al 0),(3,iV (p0.1.length:Int)),(4,iV am)] L s) ?_ ?_)
      ·rintro _ _ ⟨bE,bF,rfl,rfl,rfl,cF,cG⟩;have cH:=elim_inr bD;obtain⟨cI,cJ,cK⟩:=bs cH;refine zg 3 rfl (Bt cJ rfl rfl rfl ?_);refine zg 2 rfl ?_;obtain rfl:=oi cK;exact cr cI (O.Ad cF) cG rfl ap
      ·intro cM;refine JL.block (Di cE (λa6=> []) (λa6=> [(1,Aj al 0),(3,iV (p0.1.length:Int)),(4,iV am),(5,iV a6)]) Ay a4 ?_);rintro a6 cN ac bG bH ⟨dA,aw⟩ cO;have bI:=aw;unfold KY at bI;refine zg 4 rfl (Bw 0 (Y.Ag (O.Ad ac)) underlying25 Dg Dy ?_);obtain⟨dB,cP,cQ⟩:=bs bI;refine zg 1 rfl (JS.ix (ay.Ag ((K.Ad O).Ad ac)) cP underlying22 Eu ?_);rintro dC dD _ ⟨dE,dF,rfl,dG⟩ cR;refine CL 0 cR GA rfl rfl rfl (JL.ln underlying28 rfl rfl rfl ?_);refine zg 2 rfl (AT cQ (λcT cV=>?_) (λcT cW=>?_))
       ·refine zg 5 rfl (Bw 0 (Y.Ag (O.Ad ac)) underlying25 Dg Dy ?_);obtain⟨dH,cX,cY⟩:=bs cV;refine zg 1 rfl (JS.ix (ay.Ag ((K.Ad O).Ad ac)) cX underlying22 Eu ?_);rintro dI dJ _ ⟨dK,dL,rfl,cZ⟩ c0;refine CL 0 c0 GA rfl rfl rfl ?_;obtain⟨dM,c1,c3⟩:=bs cY;refine zg 1 rfl (JS.ix cZ c1 underlying28 AB ?_);rintro dN dO _ rfl c4;refine CL 0 c4 A2 rfl rfl rfl ?_;obtain⟨c5,c6,c7⟩:=bs c3;refine Cn (NJ c6) rfl rfl Mf bG λdP bJ bK=>Am (v:= .bool (!c5)) rfl (λρ h=>Yl.not (h _ _ rfl)) (JL.done ?_);refine Cc c7 (λc8 c9=>?_) (λc8 da=>?_)
        ·refine zg 4 rfl ?_;obtain rfl:=oi c9;obtain rfl:=bH _ aw;have db:=elim_inl bD;obtain rfl:=oi db;obtain rfl:=a5 _ ap;have dc:=elim_inl a0;obtain rfl:=oi dc;exact AN func48 rfl rfl (U (((K.Ad O).Ad ac).Ad bJ) rfl ⟨rfl,rfl⟩ bK)
        ·obtain⟨dd,de,df⟩:=bs da;refine zg 4 rfl (Bt de rfl rfl rfl ?_);refine zg 2 rfl ?_;obtain rfl:=oi df;exact cO dd (ac.Ad bJ) bK rfl aw
       ·refine JL.exit rfl ?_;obtain rfl:=oi cW;have dg:bC=(Sum.inr ()):=(bH _ aw).symm;exact AA (cM _ _ ⟨(),cN,dg,rfl,rfl,ac,bG⟩) rfl
    ·refine JL.exit rfl ?_;obtain rfl:=oi cv;have dh:bb=(Sum.inr ()):=(a5 _ ap).symm;exact AA (cq _ _ ⟨(),bA,dh,rfl,rfl,O,a4⟩) rfl
def Nc(fu_:Nat)(p0:Bb)(O:Bb)(K:Int):Option (Bm Int ((Bool)⊕(Unit))):= Option.bind (if K<(p0.length:Int) then(some (decide (K<(O.length:Int)))) else(some false)) λU=> if U=true then((ix p0 K).bind λY=> (ix O K).bind λZ=> (f29 fu_ Y Z).bind λac=> if(!ac)=true then(some (.done (Sum.inl false))) else((Ax (K+1)).bind λag=> some (.more ag))) else(some (.done (Sum.inr ())))
def f80(fu_:Nat)(p0:Bb)(K:Bb):Option Bool:= Option.bind (iter (Nc fu_ p0 K) fu_ 0) λO=> Sum.elim (λr=>some r) (λU=> some (decide ((p0.length:Int)=(K.length:Int)))) O
theorem Z4{a1:An}{c2:Nat}{U:An}{Y:Nat}{p0:Bb}{K:Bb}(bb:Al (rL rI) E a1 c2 p0)(be:Al (rL rI) E U Y K){fu_:Nat}{r:Bool}(aq:f80 fu_ p0 K=some r):AK J 80 [sV a1 p0 c2,sV U K Y] E [] (λw E' B'=>w= .bool r/\B'= []):=by
 refine Bd func80 λQ b0 cs H bi aw=>?_;unfold f80 at aq;obtain⟨ay,bn,az⟩:=bs aq;refine zg 9 rfl (Bq (λL s=>∃(a0:Unit) (a2:LH),ay=Sum.inr a0/\Jm E H a2 [] [(0,sV a1 p0 c2),(1,sV U K Y)] L s) ?_ ?_)
 ·rintro _ _ ⟨a0,a2,rfl,rfl,rfl,bo,bq⟩;have br:=elim_inr az;refine zg 3 rfl (JL.ln underlying22 rfl rfl rfl ?_);refine zg 1 rfl (JL.ln underlying22 rfl rfl rfl ?_);refine zg 3 rfl ?_;obtain rfl:=oi br;exact AN func80 rfl rfl (aw bo rfl ⟨rfl,rfl⟩ bq)
 ·intro bu;refine JL.block (Di bn (λag=> []) (λag=> [(0,sV a1 p0 c2),(1,sV U K Y),(5,iV ag)]) Ay bi ?_);rintro ag am Z a3 a4 ⟨b1,al⟩ bv;have a5:=al;unfold Nc at a5;refine zg 5 rfl (JL.ln underlying22 rfl rfl rfl ?_);obtain⟨bw,bx,bz⟩:=bs a5;refine zg 2 rfl (Gp [] (λL s=>∃(ap:LH),Jm am H ap [] [(0,sV a1 p0 c2),(1,sV U K Y),(5,iV ag),(15,.bool bw)] L s) ?_ ?_)
  ·rintro _ _ ⟨ap,rfl,rfl,ac,a6⟩;refine JL.done (Cc bz (λbA bB=>?_) (λbA bC=>?_))
   ·refine zg 4 rfl (Ei 8 λO=>?_);refine A6 O rfl [0,1] rfl ?_;obtain⟨b2,bD,bE⟩:=bs bB;refine ER 2 (bb.Ag (Z.Ad ac)) bD O underlying22 Eu ?_;rintro b3 b4 _ ⟨b5,b6,rfl,bF⟩ bG;refine Dj 3 O 0 bG GA rfl rfl rfl rfl (A6 O rfl [4,5] rfl ?_);obtain⟨b7,bH,bI⟩:=bs bE;refine ER 6 (be.Ag (Z.Ad ac)) bH O underlying22 Eu ?_;rintro b8 b9 _ ⟨ca,cb,rfl,bJ⟩ bK;refine Dj 7 O 0 bK GA rfl rfl rfl rfl (Ck [8,9] ?_);obtain⟨bL,bM,bN⟩:=bs bI;refine Cn (K3 bF bJ bM) rfl rfl Ky a6 λcc a7 a8=>Am (v:= .bool (!bL)) rfl (λρ h=>Yl.not (h _ _ rfl)) (JL.done ?_);refine Cc bN (λbO bP=>?_) (λbO bQ=>?_)
    ·refine zg 4 rfl ?_;obtain rfl:=oi bP;obtain rfl:=a4 _ al;have bR:=elim_inl az;obtain rfl:=oi bR;exact AN func80 rfl rfl (aw ((Z.Ad ac).Ad a7) rfl ⟨rfl,rfl⟩ a8)
    ·obtain⟨bS,bT,bU⟩:=bs bQ;refine zg 4 rfl (Bt bT rfl rfl rfl ?_);refine zg 2 rfl ?_;obtain rfl:=oi bU;exact bv bS ((Z.Ad ac).Ad a7) a8 rfl al
   ·refine JL.exit rfl ?_;obtain rfl:=oi bC;have bV:ay=(Sum.inr ()):=(a4 _ al).symm;exact AA (bu _ _ ⟨(),ap,bV,rfl,rfl,(Z.Ad ac),a6⟩) rfl
  ·intro a9;refine GL 10 bx (λbW bY=>?_) (λbW bZ=>?_)
   ·refine zg 2 rfl (JL.ln underlying22 rfl rfl rfl ?_);refine zg 2 rfl ?_;obtain rfl:=oi bY;exact AA (a9 _ _ ⟨am,rfl,rfl,Ay,a3⟩) rfl
   ·refine zg 5 rfl ?_;obtain rfl:=oi bZ;exact AA (a9 _ _ ⟨am,rfl,rfl,Ay,a3⟩) rfl
def f30(fu_:Nat)(p0:AQ)(K:AQ):Option Bool:= (f80 fu_ p0.1 K.1).bind λO=> Option.bind (if O=true then((f26 fu_ p0.2 K.2).bind λU=> some U) else(some false)) λY=> some Y
theorem ZU{a1:An}{c2:Nat}{Z:An}{ac:Nat}{ag:An}{al:Nat}{am:An}{ap:Nat}{p0:AQ}{O:AQ}(a2:Al (rL rI) E a1 c2 p0.1)(a3:Al As E Z ac p0.2)(a4:Al (rL rI) E ag al O.1)(a5:Al As E am ap O.2){fu_:Nat}{r:Bool}(aq:f30 fu_ p0 O=some r):AK J 30 [.agg #[sV a1 p0.1 c2,sV Z p0.2 ac],.agg #[sV ag O.1 al,sV am O.2 ap]] E [] (λw E' B'=>w= .bool r/\B'= []):=by
 refine Bd func30 λQ bD cs H a6 a7=>?_;unfold f30 at aq;refine zg 2 rfl (Cr a6 λbE bF U aw a8=>?_);refine Cr a8 λbG bH K ay a9=>?_;refine zg 4 rfl (Bw 0 (aw.Ag K) underlying25 Dg Dy ?_);refine Bw 0 ay underlying25 Dg Dy ?_;obtain⟨bI,bb,be⟩:=bs aq;refine Cn (Z4 (a2.Ag (U.Ad K)) (a4.Ag (U.Ad K)) bb) rfl rfl (A3 func80 rfl) a9 λbJ Y bi=>Bs (S':= [[],[],[],[]]) rfl bi λaz=>?_;obtain⟨bn,bo,bq⟩:=bs be;refine zg 1 rfl (FH 12 1 [] [(16,.bool bn)] (λbK br bu=>?_) (λa0=>?_))
 ·refine zg 2 rfl ?_;obtain rfl:=oi bq;exact AN func30 rfl rfl (a7 (((U.Ad K).Ad Y).Ad br) rfl ⟨rfl,rfl⟩ bu)
 ·refine Fh 10 bo (λbv bw=>?_) (λbv bx=>?_)
  ·refine Bw 1 (aw.Ag (K.Ad Y)) underlying25 Cu Et ?_;refine Bw 1 (ay.Ag Y) underlying25 Cu Et ?_;obtain⟨bL,bz,bA⟩:=bs bw;refine Cn (NL (a3.Ag ((U.Ad K).Ad Y)) (a5.Ag ((U.Ad K).Ad Y)) bz) rfl rfl Mg az λbM bB bC=>zg 1 rfl ?_;obtain rfl:=oi bA;exact a0 bB bC rfl
  ·refine zg 6 rfl ?_;obtain rfl:=oi bx;exact a0 Ay az rfl
end Pal
namespace Pal
open Go Go.Conc Go.Proofs
open Go.Proofs.Tryz
variable {J:Judge Tryz.prog}{E:LH}
def f83(fu_:Nat)(p0:Cw):Option (Nat×(Cw)):= (Ax (p0.2.1+1)).bind λO=> Option.bind (if O<=(p0.1.length:Int) then((Ax (O - 1)).bind λU=> (ix p0.1 U).bind λY=> some (((((C5 O)*11400714819323198485) % 2 ^ 64) ^^^ (((C5 Y)*14029467366897019727) % 2 ^ 64)) % 2 ^ 64)) else(some (((C5 O)*11400714819323198485) % 2 ^ 64))) λK=> some (((((((((((p0.2.2 ^^^ K) % 2 ^ 64)*18397679294719823053) % 2 ^ 64) ^^^ (((((p0.2.2 ^^^ K) % 2 ^ 64)*18397679294719823053) % 2 ^ 64)>>>33)) % 2 ^ 64)*14181476777654086739) % 2 ^ 64) ^^^ (((((((((p0.2.2 ^^^ K) % 2 ^ 64)*18397679294719823053) % 2 ^ 64) ^^^ (((((p0.2.2 ^^^ K) % 2 ^ 64)*18397679294719823053) % 2 ^ 64)>>>33)) % 2 ^ 64)*14181476777654086739) % 2 ^ 64)>>>29)) % 2 ^ 64)>>>11,(p0.1,O,(((((p0.2.2 ^^^ K) % 2 ^ 64)*18397679294719823053) % 2 ^ 64) ^^^ (((((p0.2.2 ^^^ K) % 2 ^ 64)*18397679294719823053) % 2 ^ 64)>>>33)) % 2 ^ 64))
theorem ZL{bk:Nat}{a1:An}{c2:Nat}{p0:Cw}(al:Al rI E a1 c2 p0.1){fu_:Nat}{r:Nat×(Cw)}(am:f83 fu_ p0=some r):AK J 83 [Aj bk 0] E [(bk,.cells #[sV a1 p0.1 c2,iV p0.2.1,.int .u64 ((p0.2.2:Nat):Int)] 74 (0,0))] (λw E' B'=>∃(ap:An) (aq:Nat),w= .int .u64 ((r.1:Nat):Int)/\B'= [(bk,.cells #[sV ap r.2.1 aq,iV r.2.2.1,.int .u64 ((r.2.2.2:Nat):Int)] 74 (0,0))]/\Al rI E' ap aq r.2.1):=by
 refine Bd func83 λQ br cs H aw a3=>?_;unfold f83 at am;refine zg 8 rfl (JL.fd underlying74 AB rfl rfl rfl ?_);refine Am (v:=iV p0.2.1) rfl (λρ h=>Yl.load A2 (h _ _ rfl) (BR (j:=0) (off:=1) aw rfl rfl)) ?_;obtain⟨Y,a4,a5⟩:=bs am;refine Bt a4 rfl rfl rfl (zg 1 rfl ?_);refine JL.fd underlying74 AB rfl rfl rfl (Bv 0 aw AB λU=>?_);refine zg 5 rfl (JL.fd underlying74 AB rfl rfl rfl ?_);refine Am (v:=iV Y) rfl (λρ h=>Yl.load A2 (h _ _ rfl) (BR (j:=0) (off:=1) U rfl rfl)) (Am (v:= .int .u64 ((C5 Y:Nat):Int)) rfl (λρ h=>Yl.C5 underlying3 underlying72 (h _ _ rfl)) ?_);refine Am (v:= .int .u64 ((((C5 Y)*11400714819323198485) % 2 ^ 64:Nat):Int)) rfl (λρ h=>MZ (h _ _ rfl) (h _ _ rfl)) (zg 4 rfl ?_);refine Ft 9 [bk] ⟨⟨0,_,rfl⟩,trivial⟩ U λK=>A6 K rfl [0,1] rfl (JG.fd 2 K underlying74 AB rfl rfl rfl rfl ?_);refine Kc 3 K 1 0 U A2 ?_;refine A6 K rfl [4,5] rfl (JG.fd 6 K underlying74 Eu rfl rfl rfl rfl ?_);refine Kc 7 K 0 0 U GA ?_;refine AP 8 K rfl rfl (λρ h s' Z=>Yl.len rfl underlying28 (h _ _ rfl)) (Ck [9] ?_);obtain⟨O,a6,a7⟩:=bs a5;refine zg 2 rfl (Ey [bX bk #[sV a1 p0.1 c2,iV Y,.int .u64 ((p0.2.2:Nat):Int)] 74] [(0,Aj bk 0),(3,.int .u64 ((O:Nat):Int))] (λbu ay az=>?_) (λa0=>?_))
 ·refine zg 5 rfl (JL.fd underlying74 Ji rfl rfl rfl ?_);refine Am (v:= .int .u64 ((p0.2.2:Nat):Int)) rfl (λρ h=>Yl.load Mc (h _ _ rfl) (BR (j:=0) (off:=2) az rfl rfl)) (zg 1 rfl ?_);refine Am (v:= .int .u64 (((p0.2.2 ^^^ O) % 2 ^ 64:Nat):Int)) rfl (λρ h=>ML (h _ _ rfl) (h _ _ rfl)) (Am (v:= .int .u64 (((((p0.2.2 ^^^ O) % 2 ^ 64)*18397679294719823053) % 2 ^ 64:Nat):Int)) rfl (λρ h=>MZ (h _ _ rfl) (h _ _ rfl)) ?_);refine zg 1 rfl (JL.fd underlying74 Ji rfl rfl rfl ?_);refine Bv 0 az Ji λac=>?_;refine zg 2 rfl (Ft 11 [bk] ⟨⟨0,_,rfl⟩,trivial⟩ ac λK=>?_);refine A6 K rfl [0,1,2] rfl (JG.fd 3 K underlying74 Ji rfl rfl rfl rfl ?_);refine Kc 4 K 2 0 ac Mc ?_;refine A6 K rfl [5,6] rfl (JG.fd 7 K underlying74 Ji rfl rfl rfl rfl ?_);refine Kc 8 K 2 0 ac Mc ?_;refine AP (v:= .int .u64 ((((((p0.2.2 ^^^ O) % 2 ^ 64)*18397679294719823053) % 2 ^ 64)>>>33:Nat):Int)) 9 K rfl rfl (λρ h s' Z=>KT 33 (h _ _ rfl) (h _ _ rfl) (by decide)) (AP (v:= .int .u64 (((((((p0.2.2 ^^^ O) % 2 ^ 64)*18397679294719823053) % 2 ^ 64) ^^^ (((((p0.2.2 ^^^ O) % 2 ^ 64)*18397679294719823053) % 2 ^ 64)>>>33)) % 2 ^ 64:Nat):Int)) 10 K rfl rfl (λρ h s' Z=>ML (h _ _ rfl) (h _ _ rfl)) ?_);refine Ck [11,12,13] (zg 1 rfl ?_);refine JL.fd underlying74 Ji rfl rfl rfl (Bv 0 ac Ji λa2=>?_);refine zg 5 rfl (JL.fd underlying74 Ji rfl rfl rfl ?_);refine Am (v:= .int .u64 (((((((p0.2.2 ^^^ O) % 2 ^ 64)*18397679294719823053) % 2 ^ 64) ^^^ (((((p0.2.2 ^^^ O) % 2 ^ 64)*18397679294719823053) % 2 ^ 64)>>>33)) % 2 ^ 64:Nat):Int)) rfl (λρ h=>Yl.load Mc (h _ _ rfl) (BR (j:=0) (off:=2) a2 rfl rfl)) (Am (v:= .int .u64 (((((((((p0.2.2 ^^^ O) % 2 ^ 64)*18397679294719823053) % 2 ^ 64) ^^^ (((((p0.2.2 ^^^ O) % 2 ^ 64)*18397679294719823053) % 2 ^ 64)>>>33)) % 2 ^ 64)*14181476777654086739) % 2 ^ 64:Nat):Int)) rfl (λρ h=>MZ (h _ _ rfl) (h _ _ rfl)) ?_);refine zg 6 rfl (Am (v:= .int .u64 ((((((((((p0.2.2 ^^^ O) % 2 ^ 64)*18397679294719823053) % 2 ^ 64) ^^^ (((((p0.2.2 ^^^ O) % 2 ^ 64)*18397679294719823053) % 2 ^ 64)>>>33)) % 2 ^ 64)*14181476777654086739) % 2 ^ 64)>>>29:Nat):Int)) rfl (λρ h=>KT 29 (h _ _ rfl) (h _ _ rfl) (by decide)) ?_);refine Am (v:= .int .u64 (((((((((((p0.2.2 ^^^ O) % 2 ^ 64)*18397679294719823053) % 2 ^ 64) ^^^ (((((p0.2.2 ^^^ O) % 2 ^ 64)*18397679294719823053) % 2 ^ 64)>>>33)) % 2 ^ 64)*14181476777654086739) % 2 ^ 64) ^^^ (((((((((p0.2.2 ^^^ O) % 2 ^ 64)*18397679294719823053) % 2 ^ 64) ^^^ (((((p0.2.2 ^^^ O) % 2 ^ 64)*18397679294719823053) % 2 ^ 64)>>>33)) % 2 ^ 64)*14181476777654086739) % 2 ^ 64)>>>29)) % 2 ^ 64:Nat):Int)) rfl (λρ h=>ML (h _ _ rfl) (h _ _ rfl)) (Am (v:= .int .u64 ((((((((((((p0.2.2 ^^^ O) % 2 ^ 64)*18397679294719823053) % 2 ^ 64) ^^^ (((((p0.2.2 ^^^ O) % 2 ^ 64)*18397679294719823053) % 2 ^ 64)>>>33)) % 2 ^ 64)*14181476777654086739) % 2 ^ 64) ^^^ (((((((((p0.2.2 ^^^ O) % 2 ^ 64)*18397679294719823053) % 2 ^ 64) ^^^ (((((p0.2.2 ^^^ O) % 2 ^ 64)*18397679294719823053) % 2 ^ 64)>>>33)) % 2 ^ 64)*14181476777654086739) % 2 ^ 64)>>>29)) % 2 ^ 64)>>>11:Nat):Int)) rfl (λρ h=>KT 11 (h _ _ rfl) (h _ _ rfl) (by decide)) ?_);refine zg 2 rfl ?_;obtain rfl:=oi a7;exact AN func83 rfl rfl (a3 ay rfl ⟨a1,c2,rfl,rfl,(al.Ag ay)⟩ a2)
 ·refine AT a6 (λa8 a9=>?_) (λa8 bb=>?_)
  ·refine Ft 14 [bk] ⟨⟨0,_,rfl⟩,trivial⟩ U λK=>A6 K rfl [0,1,2] rfl (JG.fd 3 K underlying74 Eu rfl rfl rfl rfl ?_);refine Kc 4 K 0 0 U GA ?_;refine A6 K rfl [5,6] rfl (JG.fd 7 K underlying74 AB rfl rfl rfl rfl ?_);refine Kc 8 K 1 0 U A2 ?_;obtain⟨bv,be,bi⟩:=bs a9;refine AP 9 K rfl rfl (λρ h s' Z=>DL (h _ _ rfl) (h _ _ rfl) be) ?_;obtain⟨ag,bn,bo⟩:=bs bi;refine ER 10 al bn K underlying28 AB ?_;rintro bw bx _ rfl bq;refine JG.lp 11 K 0 bq U ⟨⟨0,_,rfl⟩,trivial⟩ A2 ?_;refine AP (v:= .int .u64 ((C5 ag:Nat):Int)) 12 K rfl rfl (λρ h s' Z=>Yl.C5 underlying3 underlying72 (h _ _ rfl)) (AP (v:= .int .u64 ((((C5 ag)*14029467366897019727) % 2 ^ 64:Nat):Int)) 13 K rfl rfl (λρ h s' Z=>MZ (h _ _ rfl) (h _ _ rfl)) ?_);refine Ck [14,15] (Am (v:= .int .u64 ((((((C5 Y)*11400714819323198485) % 2 ^ 64) ^^^ (((C5 ag)*14029467366897019727) % 2 ^ 64)) % 2 ^ 64:Nat):Int)) rfl (λρ h=>ML (h _ _ rfl) (h _ _ rfl)) ?_);refine zg 2 rfl ?_;obtain rfl:=oi bo;exact a0 Ay U rfl
  ·refine JL.skip ?_;obtain rfl:=oi bb;exact a0 Ay U rfl
def f36(fu_:Nat)(p0:Cw)(O:Int):Option (Int×(Cw)):= (f83 fu_ p0).bind λK=> if O<1 then(some (0,K.2)) else((NK K.1 ((C5 O+1) % 2 ^ 64)).bind λU=> some (L2 U,K.2))
theorem K1{bk:Nat}{a1:An}{c2:Nat}{p0:Cw}{K:Int}(aw:Al rI E a1 c2 p0.1){fu_:Nat}{r:Int×(Cw)}(O:f36 fu_ p0 K=some r):AK J 36 [Aj bk 0,iV K] E [(bk,.cells #[sV a1 p0.1 c2,iV p0.2.1,.int .u64 ((p0.2.2:Nat):Int)] 74 (0,0))] (λw E' B'=>∃(U:An) (Y:Nat),w=iV r.1/\B'= [(bk,.cells #[sV U r.2.1 Y,iV r.2.2.1,.int .u64 ((r.2.2.2:Nat):Int)] 74 (0,0))]/\Al rI E' U Y r.2.1):=by
 refine Bd func36 λQ a7 cs H ay Z=>?_;unfold f36 at O;obtain⟨a8,az,a0⟩:=bs O;refine zg 7 rfl (Cv 0 (ZL aw az) rfl rfl (A3 func83 rfl) ay rfl ?_);rintro _ a9 _ ac ⟨ag,al,rfl,rfl,am⟩ ap;refine zg 8 rfl (AT a0 (λa2 a3=>?_) (λa2 a4=>?_))
 ·refine zg 4 rfl ?_;obtain rfl:=oi a3;exact AN func36 rfl rfl (Z ac rfl ⟨ag,al,rfl,rfl,am⟩ ap)
 ·refine zg 5 rfl (Am (v:= .int .u64 ((C5 K:Nat):Int)) rfl (λρ h=>Yl.C5 underlying3 underlying72 (h _ _ rfl)) ?_);refine Am (v:= .int .u64 (((C5 K+1) % 2 ^ 64:Nat):Int)) rfl (λρ h=>X5 (h _ _ rfl) (h _ _ rfl)) ?_;obtain⟨aq,a5,a6⟩:=bs a4;refine Am (v:= .int .u64 ((aq:Nat):Int)) rfl (λρ h=>Wu (h _ _ rfl) (h _ _ rfl) a5) (Am (v:=iV (L2 aq)) rfl (λρ h=>YH underlying72 underlying3 (h _ _ rfl)) ?_);refine zg 2 rfl ?_;obtain rfl:=oi a6;exact AN func36 rfl rfl (Z ac rfl ⟨ag,al,rfl,rfl,am⟩ ap)
def f37(fu_:Nat)(p0:Cw)(K:Int)(p2:Int):Option (Int×(Cw)):= (Ax (p2 - K)).bind λU=> (f36 fu_ p0 U).bind λO=> (Ax (K+O.1)).bind λY=> some (Y,O.2)
theorem PT{bk:Nat}{a1:An}{c2:Nat}{p0:Cw}{K:Int}{p2:Int}(Z:Al rI E a1 c2 p0.1){fu_:Nat}{r:Int×(Cw)}(O:f37 fu_ p0 K p2=some r):AK J 37 [Aj bk 0,iV K,iV p2] E [(bk,.cells #[sV a1 p0.1 c2,iV p0.2.1,.int .u64 ((p0.2.2:Nat):Int)] 74 (0,0))] (λw E' B'=>∃(U:An) (Y:Nat),w=iV r.1/\B'= [(bk,.cells #[sV U r.2.1 Y,iV r.2.2.1,.int .u64 ((r.2.2.2:Nat):Int)] 74 (0,0))]/\Al rI E' U Y r.2.1):=by
 refine Bd func37 λQ a5 cs H ac ag=>?_;unfold f37 at O;obtain⟨a6,al,am⟩:=bs O;refine zg 10 rfl (Cm al rfl rfl rfl ?_);obtain⟨a7,ap,aq⟩:=bs am;refine Cv 0 (K1 Z ap) rfl rfl Kw ac rfl ?_;rintro _ a8 _ aw ⟨ay,az,rfl,rfl,a0⟩ a2;obtain⟨a9,a3,a4⟩:=bs aq;refine Bt a3 rfl rfl rfl (zg 2 rfl ?_);obtain rfl:=oi a4;exact AN func37 rfl rfl (ag aw rfl ⟨ay,az,rfl,rfl,a0⟩ a2)
def f32(fu_:Nat)(p0:Cw)(O:Int):Option (Bool×(Cw)):= (Ax (O - 1)).bind λU=> (f36 fu_ p0 U).bind λK=> some (decide (K.1=0),K.2)
theorem TU{bk:Nat}{a1:An}{c2:Nat}{p0:Cw}{K:Int}(Z:Al rI E a1 c2 p0.1){fu_:Nat}{r:Bool×(Cw)}(O:f32 fu_ p0 K=some r):AK J 32 [Aj bk 0,iV K] E [(bk,.cells #[sV a1 p0.1 c2,iV p0.2.1,.int .u64 ((p0.2.2:Nat):Int)] 74 (0,0))] (λw E' B'=>∃(U:An) (Y:Nat),w= .bool r.1/\B'= [(bk,.cells #[sV U r.2.1 Y,iV r.2.2.1,.int .u64 ((r.2.2.2:Nat):Int)] 74 (0,0))]/\Al rI E' U Y r.2.1):=by
 refine Bd func32 λQ a3 cs H ac ag=>?_;unfold f32 at O;obtain⟨a4,al,am⟩:=bs O;refine zg 8 rfl (Cm al rfl rfl rfl ?_);obtain⟨a5,ap,aq⟩:=bs am;refine Cv 0 (K1 Z ap) rfl rfl Kw ac rfl ?_;rintro _ a6 _ aw ⟨ay,az,rfl,rfl,a0⟩ a2;refine zg 3 rfl ?_;obtain rfl:=oi aq;exact AN func32 rfl rfl (ag aw rfl ⟨ay,az,rfl,rfl,a0⟩ a2)
def f81(fu_:Nat)(p0:Cw)(K:List Int):Option (Int×(Cw)):= (Ax ((K.length:Int) - 1)).bind λU=> (f36 fu_ p0 U).bind λO=> (ix K O.1).bind λY=> some (Y,O.2)
theorem TO{bk:Nat}{a1:An}{c2:Nat}{O:An}{U:Nat}{p0:Cw}{K:List Int}(al:Al rI E a1 c2 p0.1)(am:Al rI E O U K){fu_:Nat}{r:Int×(Cw)}(Y:f81 fu_ p0 K=some r):AK J 81 [Aj bk 0,sV O K U] E [(bk,.cells #[sV a1 p0.1 c2,iV p0.2.1,.int .u64 ((p0.2.2:Nat):Int)] 74 (0,0))] (λw E' B'=>∃(Z:An) (ac:Nat),w=iV r.1/\B'= [(bk,.cells #[sV Z r.2.1 ac,iV r.2.2.1,.int .u64 ((r.2.2.2:Nat):Int)] 74 (0,0))]/\Al rI E' Z ac r.2.1):=by
 refine Bd func81 λQ a9 cs H ap aq=>?_;unfold f81 at Y;refine zg 9 rfl (JL.ln underlying28 rfl rfl rfl ?_);obtain⟨bb,aw,ay⟩:=bs Y;refine Cm aw rfl rfl rfl ?_;obtain⟨be,az,a0⟩:=bs ay;refine Cv 0 (K1 al az) rfl rfl Kw ap rfl ?_;rintro _ bi _ ag ⟨a2,a3,rfl,rfl,a4⟩ a5;obtain⟨bn,a6,a7⟩:=bs a0;refine JS.ix (am.Ag ag) a6 underlying28 AB ?_;rintro bo bq _ rfl a8;refine CL 0 a8 A2 rfl rfl rfl (zg 2 rfl ?_);obtain rfl:=oi a7;exact AN func81 rfl rfl (aq ag rfl ⟨a2,a3,rfl,rfl,a4⟩ a5)
def f40(fu_:Nat)(p0:Cw)(K:Int):Option (Dq×(Cw)):= (Ax (K - 1)).bind λac=> (f36 fu_ p0 ac).bind λO=> (f37 fu_ O.2 1 9).bind λU=> (f81 fu_ U.2 ([1,2,2,3,U.1]:List Int)).bind λY=> (Ax (K - 1)).bind λag=> (f37 fu_ Y.2 1 ag).bind λZ=> (Ax (O.1+Z.1)).bind λal=> (NT al K).bind λam=> some ((O.1,am,Y.1),Z.2)
theorem TK{bk:Nat}{a1:An}{c2:Nat}{p0:Cw}{ac:Int}(a0:Al rI E a1 c2 p0.1){fu_:Nat}{r:Dq×(Cw)}(ag:f40 fu_ p0 ac=some r):AK J 40 [Aj bk 0,iV ac] E [(bk,.cells #[sV a1 p0.1 c2,iV p0.2.1,.int .u64 ((p0.2.2:Nat):Int)] 74 (0,0))] (λw E' B'=>∃(al:An) (am:Nat),w= .agg #[iV r.1.1,iV r.1.2.1,iV r.1.2.2]/\B'= [(bk,.cells #[sV al r.2.1 am,iV r.2.2.1,.int .u64 ((r.2.2.2:Nat):Int)] 74 (0,0))]/\Al rI E' al am r.2.1):=by
 refine Bd func40 λQ bY cs H a2 a3=>?_;unfold f40 at ag;refine zg 2 rfl (BO a2 Bp λbZ a4=>?_);obtain⟨b0,a5,a6⟩:=bs ag;refine zg 5 rfl (Cm a5 rfl rfl rfl ?_);obtain⟨O,a7,a8⟩:=bs a6;refine Cv 0 (K1 a0 a7) rfl rfl Kw a4 rfl ?_;rintro _ b1 _ a9 ⟨b2,b3,rfl,rfl,bb⟩ be;obtain⟨ap,bi,bn⟩:=bs a8;refine zg 2 rfl (Cv 0 (PT bb bi) rfl rfl Oh be rfl ?_);rintro _ b4 _ bo ⟨b5,b6,rfl,rfl,bq⟩ br;refine FG (pp:=rI) [iV 1,iV 2,iV 2,iV 3,iV ap.1] [1,2,2,3,ap.1] rfl rfl rfl underlying28 AB Cg (by decide) rfl rfl rfl ⟨rfl,rfl,rfl,rfl,rfl,trivial⟩ br λb7 b8 bu bv=>BJ 2 bu bv rfl λb9 aq bw bx=>?_;obtain⟨U,bz,bA⟩:=bs bn;refine Cv 0 (TO (bq.Ag aq) bw bz) rfl rfl (A3 func81 rfl) bx rfl ?_;rintro _ ca _ bB ⟨cb,cc,rfl,rfl,bC⟩ bD;refine Am (v:= .agg #[iV O.1,iV 0,iV U.1]) rfl (λρ h=>C3 [(0,1),(1,1),(2,1)] h Bp underlying27 ⟨rfl,AR type3,rfl,AR type3,rfl,AR type3,trivial⟩ rfl rfl) (BO bD Bp λaw bE=>?_);refine Bv 3 bE AV λZ=>?_;refine zg 2 rfl (Ft 8 [aw] ⟨⟨3,_,rfl⟩,trivial⟩ Z λK=>?_);refine JG.fd 0 K underlying27 AB rfl rfl rfl rfl (Kc 1 K 0 3 Z A2 ?_);refine A6 K rfl [2,3] rfl ?_;obtain⟨bF,bG,bH⟩:=bs bA;refine AP 4 K rfl rfl (λρ h s' bI=>DL (h _ _ rfl) (h _ _ rfl) bG) (Cs 7 K rfl rfl ?_);obtain⟨cd,bJ,bK⟩:=bs bH;refine Q9 (i:=5) (vs:= [Aj bk 0,iV 1,iV bF]) 0 (by exact λx bL=>HE.mem (bks:= [aw]) (by exact⟨⟨3,_,rfl⟩,trivial⟩) x (by simpa [AZ] using bL)) (PT bC bJ) (by decide+kernel) rfl rfl rfl Oh rfl Z rfl ?_;rintro _ ce _ bM ⟨bN,bO,rfl,rfl,bP⟩ bQ;obtain⟨cf,bR,bS⟩:=bs bK;refine AP 6 K rfl rfl (λρ h s' bI=>Fq (h _ _ rfl) (h _ _ rfl) bR) (Ck [8,9,10] ?_);obtain⟨Y,bT,bU⟩:=bs bS;refine Am (v:=iV Y) rfl (λρ h=>XT (h _ _ rfl) (h _ _ rfl) bT) (JL.fd underlying27 AB rfl rfl rfl ?_);refine Bv 3 bQ AB λay=>?_;refine zg 3 rfl (Am rfl (λρ h=>FE (vs:= [iV O.1,iV Y,iV U.1]) Dm AV (h _ _ rfl) (Dp (off:=0) 3 ay rfl rfl)) ?_);refine Bv 1 ay AV λbV=>?_;refine JL.done (JS.drop 3 bV rfl λaz=>?_);obtain rfl:=oi bU;refine JL.ret (v:= .agg #[iV O.1,iV Y,iV U.1]) rfl rfl (Bz.list func40 rfl (vs:= [.agg #[iV O.1,iV Y,iV U.1]]) ⟨⟨_,rfl,Ld.many (vs:= [iV O.1,iV Y,iV U.1]) Dm AV (Dp (off:=0) 1 az rfl rfl)⟩,trivial⟩) (Db 1 az rfl λbW=>?_);exact a3 ((((a9.Ad bo).Ad aq).Ad bB).Ad bM) rfl ⟨bN,bO,rfl,rfl,bP⟩ bW
end Pal
namespace Pal
open Go Go.Conc
section
variable {P:Program}{J:Judge P}{Q:Gs_}{b:Frame}{n:Nat}{ds:Ld_}{ops:Ao_}{k:Li_}{cs:Lf_}{m fuel:Nat}{D:Nat->Bool}{listed:Array Bool}{L:Env}{s:St}{E E' H:LH}{S:List Seg}
variable {d:Option Tmp}{x y:Operand}{t u ty e:TypeId}{p:String}{af:Ae_}{g:On_}{v:Value}{i:Nat}{kd:IntKind}
theorem Take.Ty{f:FuncId}{args:Array Operand}{ats:Array TypeId}{vs:Lv_}{seg:Seg}{R:Value->LH->Seg->Prop}(j:Nat)(O:Ap E H S)(ap:AK J f vs E seg R)
  (aq:ops[i]? =some ⟨d,.call ⟨.value (.func f),args,ats⟩,ty,p,af,g⟩) (hw:AL L ops ⟨d,.call ⟨.value (.func f),args,ats⟩,ty,p,af,g⟩=some true) (aw:Bf n d=true) (hb:DO P f=true) (ay:evs L args.toList=some vs) (U:S[j]? =some seg)
  (az:∀v E' seg',Le E E'->R v E' seg'->Ap E' H (S.set j seg')->AJ J Q b n ds ops k cs m CB fuel (A8 listed i) (Av L d v) (Ak E' H (S.set j seg'))):
  Take J Q b n ds ops k cs m CB fuel listed L (Ak E H S) i:=by
 have Y:S.flatten.Perm (seg++(S.set j []).flatten):=(Em (seg':=seg) U).1.trans List.perm_append_comm;have Z:Nd E H (seg++(S.set j []).flatten):=Nd.perm O Y;have a0:Ak E H S=mk E (Bi (S.set j []).flatten H) seg:=by
  rw [show Ak E H S=mk E H S.flatten from rfl,Fg O Y];unfold mk;rw [FW]
 have ac:=EL.Lc (ap (Bi (S.set j []).flatten H) (Nd.front Z)) (by rintro v s' ⟨E',B',_,_,_,rfl⟩;rfl);rw [← a0] at ac;refine⟨_,aq,by simp [Dw],aw,hw,λρ ag=>?_⟩;have a1:args.map ρ=vs.toArray:=by
  rw [← Gn ag ay];apply Array.ext';simp
 have a2:ρ (.func f)= .func (.func f) #[] #[]:=ag _ _ rfl;simp only [execOp,resolve,bind,Sem.bind,Deferred.ofValue,a2,pure,invoke];have e: #[]++args.map ρ++ #[]=vs.toArray:=by rw [a1];simp
 rw [e];refine IT hb ?_;rw [KA];refine⟨_,ac,?_⟩;rintro v bi ⟨⟨E',B',hle,a3,a4,rfl⟩,w,a5⟩;have e2:mk E' (Bi (S.set j []).flatten H) B'=mk E' H (B'++(S.set j []).flatten):=by unfold mk;rw [FW]
 have a6:Nd E H (S.set j []).flatten:=by
  have:=Z;rw [Nd.iff] at this ⊢;rw [List.map_append,List.nodup_append] at this;exact⟨this.1.2.1,λq a7=>this.2 q (List.mem_append_right _ a7)⟩
 have a8:Nd E' H (S.set j []).flatten:=a6.grow λx K=>by
  have a9:=a5.d x K;have bb:Bi B' (Bi (S.set j []).flatten H) x=none:=a9;exact(HT bb).1
 have al:Nd E' H (B'++(S.set j []).flatten):=Nd.glue a4 a8;have am:(B'++(S.set j []).flatten).Perm (S.set j B').flatten:=List.perm_append_comm.trans (Em U).2.symm;have be:Ap E' H (S.set j B'):=Nd.perm al am;rw [e2,Fg al am];exact⟨rfl,λx o K=>hle _ _ K,az v E' B' hle a3 be⟩
end
end Pal
namespace Pal
open Go Go.Conc Go.Proofs
open Go.Proofs.Tryz
variable {J:Judge Tryz.prog}{E:LH}
def Ng(fu_:Nat)(Y:Bool×(Cw))(K:(List Int)×Int×Nat×(List Int)×Int):Option (Bm ((List Int)×Int×Nat×(List Int)×Int) ((List Int)×Cw)):= if 0<K.2.2.2.2 then(Option.bind (if Y.1=true then((room K.2.2.2.1 1).bind λZ=> some (Z,K.1,K.2.1,K.2.2.1)) else((f81 fu_ (K.1,K.2.1,K.2.2.1) ([1,1,2,2,3,5]:List Int)).bind λO=> (room K.2.2.2.1 O.1).bind λac=> some (ac,O.2.1,O.2.2.1,O.2.2.2))) λU=> (Ax (K.2.2.2.2 - 1)).bind λag=> some (.more (U.2.1,U.2.2.1,U.2.2.2,U.1,ag))) else(some (.done (K.2.2.2.1,K.1,K.2.1,K.2.2.1)))
def Nq(fu_:Nat)(Y:Int×(Cw))(Z:Bool×(Cw))(K:Bb×(List Int)×Int×Nat×Int):Option (Bm (Bb×(List Int)×Int×Nat×Int) ((List Int)×Int×Nat×Bb)):= if K.2.2.2.2<Y.1 then((f36 fu_ (K.2.1,K.2.2.1,K.2.2.2.1) 3).bind λO=> Option.bind (iter (Ng fu_ Z) fu_ (O.2.1,O.2.2.1,O.2.2.2,[],O.1)) λU=> (room K.1 U.1).bind λac=> (Ax (K.2.2.2.2+1)).bind λag=> some (.more (ac,U.2.1,U.2.2.1,U.2.2.2,ag))) else(some (.done (K.2.1,K.2.2.1,K.2.2.2.1,K.1)))
def Nf(fu_:Nat)(U:Int×(Cw))(K:Aw×(List Int)×Int×Nat×Int):Option (Bm (Aw×(List Int)×Int×Nat×Int) ((List Int)×Int×Nat×Aw)):= if 0<K.2.2.2.2 then((f40 fu_ (K.2.1,K.2.2.1,K.2.2.2.1) U.1).bind λO=> (C4 K.1 ([O.1]:Aw)).bind λY=> (Ax (K.2.2.2.2 - 1)).bind λZ=> some (.more (Y,O.2.1,O.2.2.1,O.2.2.2,Z))) else(some (.done (K.2.1,K.2.2.1,K.2.2.2.1,K.1)))
def f31(fu_:Nat)(p0:Cw)(ac:Int)(p2:Int):Option (AQ×(Cw)):= (f37 fu_ p0 2 ac).bind λZ=> (f32 fu_ Z.2 3).bind λK=> Option.bind (iter (Nq fu_ Z K) fu_ ([],K.2.1,K.2.2.1,K.2.2.2,0)) λO=> (f36 fu_ (O.1,O.2.1,O.2.2.1) p2).bind λU=> Option.bind (iter (Nf fu_ Z) fu_ ([],U.2.1,U.2.2.1,U.2.2.2,U.1)) λY=> some ((O.2.2.2,Y.2.2.2),(Y.1,Y.2.1,Y.2.2.1))
theorem aj{bk:Nat}{a1:An}{c2:Nat}{p0:Cw}{cq:Int}{p2:Int}(dg:Al rI E a1 c2 p0.1){fu_:Nat}{r:AQ×(Cw)}(cr:f31 fu_ p0 cq p2=some r):AK J 31 [Aj bk 0,iV cq,iV p2] E [(bk,.cells #[sV a1 p0.1 c2,iV p0.2.1,.int .u64 ((p0.2.2:Nat):Int)] 74 (0,0))] (λw E' B'=>∃(ct:An) (cu:Nat) (cv:An) (cw:Nat) (cy:An) (cz:Nat),w= .agg #[sV ct r.1.1 cu,sV cv r.1.2 cw]/\B'= [(bk,.cells #[sV cy r.2.1 cz,iV r.2.2.1,.int .u64 ((r.2.2.2:Nat):Int)] 74 (0,0))]/\Al (rL rI) E' ct cu r.1.1/\Al As E' cv cw r.1.2/\Al rI E' cy cz r.2.1):=by
 refine Bd func31 λQ gC cs H dh di=>?_;unfold f31 at cr;refine zg 2 rfl (BO dh GB λO dj=>?_);refine zg 3 rfl (BO dj GB λU dk=>?_);obtain⟨a0,dn,dp⟩:=bs cr;refine zg 5 rfl (Cv 0 (PT dg dn) rfl rfl Oh dk rfl ?_);rintro _ gD _ dq ⟨dr,dt,rfl,rfl,du⟩ dv;refine Bs (S':= [[(bk,.cells #[sV dr a0.2.1 dt,iV a0.2.2.1,.int .u64 ((a0.2.2.2:Nat):Int)] 74 (0,0))],[(O,.cells #[nS,nS] 25 (0,0))],[(U,.cells #[nS,nS] 25 (0,0))]]) rfl dv λdw=>?_;obtain⟨bD,dx,dy⟩:=bs dp;refine zg 5 rfl (Cv 0 (TU du dx) rfl rfl (A3 func32 rfl) dw rfl ?_);rintro _ bZ _ dz ⟨dA,dB,rfl,rfl,dC⟩ dD;obtain⟨Y,dE,dF⟩:=bs dy;refine zg 7 rfl (Bq (λL s=>∃(bE:LH) (b0:An) (b1:Nat) (ac:An) (ag:Nat) (az:Seg),Jn bZ H bE [bX bk #[sV b0 Y.1 b1,iV Y.2.1,.int .u64 ((Y.2.2.1:Nat):Int)] 74,bX O #[nS,nS] 25,bX U #[sV ac Y.2.2.2 ag,nS] 25,az] [(0,Aj bk 0),(2,iV p2),(6,Aj O 0),(7,Aj U 0),(8,iV a0.1)] L s (Al rI bE b0 b1 Y.1/\OL 28 (rL rI) bE ac ag az Y.2.2.2)) ?_ ?_)
 ·rintro _ _ ⟨bE,b0,b1,ac,ag,az,rfl,rfl,dG,dH,dI,dJ⟩;obtain⟨gE,dK,dL⟩:=bs dF;refine zg 5 rfl (Cv 0 (K1 dI dK) rfl rfl Kw dH rfl ?_);rintro _ b2 _ cA ⟨dM,dN,rfl,rfl,dO⟩ dP;obtain⟨al,dQ,dR⟩:=bs dL;refine zg 2 rfl (Bq (λL s=>∃(bF:LH) (br:An) (bu:Nat) (a3:An) (a4:Nat) (bG:Seg),Jn b2 H bF [bX bk #[sV br al.1 bu,iV al.2.1,.int .u64 ((al.2.2.1:Nat):Int)] 74,bX O #[nS,nS] 25,bX U #[sV ac Y.2.2.2 ag,sV a3 al.2.2.2 a4] 25,az,bG] [(6,Aj O 0),(7,Aj U 0)] L s (Al rI bF br bu al.1/\OL 27 As bF a3 a4 bG al.2.2.2)) ?_ ?_)
  ·rintro _ _ ⟨bF,br,bu,a3,a4,bG,rfl,rfl,cB,cC,dS,dT⟩;refine zg 2 rfl (Am rfl (λρ h=>FE (vs:= [sV ac Y.2.2.2 ag,sV a3 al.2.2.2 a4]) B2 Bu (h _ _ rfl) (Dp (off:=0) 2 cC rfl rfl)) ?_);refine Bv 1 cC Bu λdU=>?_;refine Bs (S':= [[(bk,.cells #[sV br al.1 bu,iV al.2.1,.int .u64 ((al.2.2.1:Nat):Int)] 74 (0,0))],[(O,.cells #[sV ac Y.2.2.2 ag,sV a3 al.2.2.2 a4] 25 (0,0))],[(U,.cells #[sV ac Y.2.2.2 ag,sV a3 al.2.2.2 a4] 25 (0,0))],az,bG]) rfl dU λdV=>JL.done (BJ 3 (dJ.Ag (cA.Ad cB)) dV rfl λgF b3 dW dX=>?_);refine BJ 4 (dT.Ag b3) dX rfl λgG b4 dY dZ=>JS.drop 2 dZ rfl λcD=>?_;obtain rfl:=oi dR;refine JL.ret (v:= .agg #[sV ac Y.2.2.2 ag,sV a3 al.2.2.2 a4]) rfl rfl (Bz.list func31 rfl (vs:= [.agg #[sV ac Y.2.2.2 ag,sV a3 al.2.2.2 a4]]) ⟨⟨_,rfl,Ld.many (vs:= [sV ac Y.2.2.2 ag,sV a3 al.2.2.2 a4]) B2 Bu (Dp (off:=0) 1 cD rfl rfl)⟩,trivial⟩) (Db 1 cD rfl λea=>?_);exact di ((((((dq.Ad dz).Ad dG).Ad cA).Ad cB).Ad b3).Ad b4) rfl ⟨ac,ag,a3,a4,br,bu,rfl,rfl,(dW.Ag b4),dY,(dS.Ag (b3.Ad b4))⟩ ea
  ·intro eb;refine JL.block (CI dQ (λL s ap=>∃(bv:LH) (a5:An) (a6:Nat) (a8:Seg) (bH:An) (bI:Nat),Jn b2 H bv [bX bk #[sV bH ap.2.1 bI,iV ap.2.2.1,.int .u64 ((ap.2.2.2.1:Nat):Int)] 74,bX O #[nS,nS] 25,bX U #[sV ac Y.2.2.2 ag,sV a5 ap.1 a6] 25,az,a8] [(0,Aj bk 0),(6,Aj O 0),(7,Aj U 0),(8,iV a0.1),(13,iV ap.2.2.2.2)] L s (OL 27 As bv a5 a6 a8 ap.1/\Al rI bv bH bI ap.2.1)) ⟨b2,none,0,[],dM,dN,rfl,rfl,Ay,dP,OL.nil,dO⟩ ?_);rintro _ _ ap ⟨bv,a5,a6,a8,bH,bI,rfl,rfl,bJ,bK,bL,b5⟩ ec ⟨gH,bw⟩ b6;have cE:=bw;unfold Nf at cE;refine zg 6 rfl (AT cE (λed ee=>?_) (λed ef=>?_))
   ·refine zg 3 rfl (Ei 6 λcF=>?_);refine JG.fd 0 cF underlying25 Cu rfl rfl rfl rfl (A6 cF rfl [2,3] rfl ?_);obtain⟨K,cG,b7⟩:=bs ee;refine EH (i:=1) (j:=4) rfl (by decide+kernel) ?_ ?_
    ·refine Take.y0 (v:= sV a5 ap.1 a6) rfl rfl rfl (λρ h=>Yl.load Et (h _ _ rfl) (BR (j:=2) bK rfl rfl)) (JG.one (i:=4) rfl (by decide+kernel) ?_);refine Take.Ty (vs:= [Aj bk 0,iV a0.1]) 0 bK (TK b5 cG) rfl rfl rfl (A3 func40 rfl) rfl rfl ?_;rintro _ gI _ cH ⟨b8,b9,rfl,rfl,eg⟩ eh;refine JG.one (i:=5) rfl (by decide+kernel) (Take.DU (pp:=As) [.agg #[iV K.1.1,iV K.1.2.1,iV K.1.2.2]] ([K.1]:Aw) eh rfl rfl rfl underlying23 AV Bp (by decide) rfl rfl rfl ⟨⟨_,_,rfl,rfl,⟨_,_,rfl,rfl,rfl⟩⟩,trivial⟩ λgJ ei ej ek=>?_);refine Ck [6,7,8] (Bs (S':= [[(bk,.cells #[sV b8 K.2.1 b9,iV K.2.2.1,.int .u64 ((K.2.2.2:Nat):Int)] 74 (0,0))],[(O,.cells #[nS,nS] 25 (0,0))],[(U,.cells #[sV ac Y.2.2.2 ag,sV a5 ap.1 a6] 25 (0,0))],az,a8,ei]) rfl ek λel=>?_);refine BJ 5 ej el rfl λem ca en eo=>?_;obtain⟨cI,ep,er⟩:=bs b7;refine FF (pp:=As) 4 ep rfl rfl rfl rfl rfl rfl rfl underlying23 underlying23 AV (B8 type27) Bp rfl (by decide) (by decide) (bL.Ag (cH.Ad ca)) en eo rfl λcJ cK cM et eu=>JL.fd underlying25 Cu rfl rfl rfl (Bv 2 eu Cu λew=>?_);refine Bs (S':= [[(bk,.cells #[sV b8 K.2.1 b9,iV K.2.2.1,.int .u64 ((K.2.2.2:Nat):Int)] 74 (0,0))],[(O,.cells #[nS,nS] 25 (0,0))],[(U,.cells #[sV ac Y.2.2.2 ag,sV cJ cI cK] 25 (0,0))],az,cM,[]]) rfl ew λex=>?_;obtain⟨ey,ez,eA⟩:=bs er;refine zg 4 rfl (Cm ez rfl rfl rfl ?_);refine zg 2 rfl ?_;obtain rfl:=oi eA;exact AA (b6 _ _ (cI,K.2.1,K.2.2.1,K.2.2.2,ey) ⟨em,cJ,cK,cM,b8,b9,rfl,rfl,((bJ.Ad cH).Ad ca),ex,et,(eg.Ag ca)⟩ bw) rfl
    ·refine Take.Ty (vs:= [Aj bk 0,iV a0.1]) 0 bK (TK b5 cG) rfl rfl rfl (A3 func40 rfl) rfl rfl ?_;rintro _ gK _ bM ⟨bi,bn,rfl,rfl,cN⟩ cb;refine EH (i:=1) (j:=5) rfl (by decide+kernel) ?_ ?_
     ·refine Take.y0 (v:= sV a5 ap.1 a6) rfl rfl rfl (λρ h=>Yl.load Et (h _ _ rfl) (BR (j:=2) cb rfl rfl)) (JG.one (i:=5) rfl (by decide+kernel) ?_);refine Take.DU (pp:=As) [.agg #[iV K.1.1,iV K.1.2.1,iV K.1.2.2]] ([K.1]:Aw) cb rfl rfl rfl underlying23 AV Bp (by decide) rfl rfl rfl ⟨⟨_,_,rfl,rfl,⟨_,_,rfl,rfl,rfl⟩⟩,trivial⟩ λgL eB eC eD=>Ck [6,7,8] (Bs (S':= [[(bk,.cells #[sV bi K.2.1 bn,iV K.2.2.1,.int .u64 ((K.2.2.2:Nat):Int)] 74 (0,0))],[(O,.cells #[nS,nS] 25 (0,0))],[(U,.cells #[sV ac Y.2.2.2 ag,sV a5 ap.1 a6] 25 (0,0))],az,a8,eB]) rfl eD λeE=>?_);refine BJ 5 eC eE rfl λeF cc eG eH=>?_;obtain⟨cO,eI,eJ⟩:=bs b7;refine FF (pp:=As) 4 eI rfl rfl rfl rfl rfl rfl rfl underlying23 underlying23 AV (B8 type27) Bp rfl (by decide) (by decide) (bL.Ag (bM.Ad cc)) eG eH rfl λcP cQ cR eK eL=>JL.fd underlying25 Cu rfl rfl rfl (Bv 2 eL Cu λeM=>?_);refine Bs (S':= [[(bk,.cells #[sV bi K.2.1 bn,iV K.2.2.1,.int .u64 ((K.2.2.2:Nat):Int)] 74 (0,0))],[(O,.cells #[nS,nS] 25 (0,0))],[(U,.cells #[sV ac Y.2.2.2 ag,sV cP cO cQ] 25 (0,0))],az,cR,[]]) rfl eM λeN=>?_;obtain⟨eO,eP,eQ⟩:=bs eJ;refine zg 4 rfl (Cm eP rfl rfl rfl ?_);refine zg 2 rfl ?_;obtain rfl:=oi eQ;exact AA (b6 _ _ (cO,K.2.1,K.2.2.1,K.2.2.2,eO) ⟨eF,cP,cQ,cR,bi,bn,rfl,rfl,((bJ.Ad bM).Ad cc),eN,eK,(cN.Ag cc)⟩ bw) rfl
     ·refine Take.DU (pp:=As) [.agg #[iV K.1.1,iV K.1.2.1,iV K.1.2.2]] ([K.1]:Aw) cb rfl rfl rfl underlying23 AV Bp (by decide) rfl rfl rfl ⟨⟨_,_,rfl,rfl,⟨_,_,rfl,rfl,rfl⟩⟩,trivial⟩ λgM eR eS cT=>JG.one (i:=1) rfl (by decide+kernel) (Take.y0 (v:= sV a5 ap.1 a6) rfl rfl rfl (λρ h=>Yl.load Et (h _ _ rfl) (BR (j:=2) cT rfl rfl)) ?_);refine Ck [6,7,8] (Bs (S':= [[(bk,.cells #[sV bi K.2.1 bn,iV K.2.2.1,.int .u64 ((K.2.2.2:Nat):Int)] 74 (0,0))],[(O,.cells #[nS,nS] 25 (0,0))],[(U,.cells #[sV ac Y.2.2.2 ag,sV a5 ap.1 a6] 25 (0,0))],az,a8,eR]) rfl cT λeT=>?_);refine BJ 5 eS eT rfl λeU cd eV eW=>?_;obtain⟨cV,eX,eY⟩:=bs b7;refine FF (pp:=As) 4 eX rfl rfl rfl rfl rfl rfl rfl underlying23 underlying23 AV (B8 type27) Bp rfl (by decide) (by decide) (bL.Ag (bM.Ad cd)) eV eW rfl λcW cX cY eZ e0=>JL.fd underlying25 Cu rfl rfl rfl (Bv 2 e0 Cu λe1=>?_);refine Bs (S':= [[(bk,.cells #[sV bi K.2.1 bn,iV K.2.2.1,.int .u64 ((K.2.2.2:Nat):Int)] 74 (0,0))],[(O,.cells #[nS,nS] 25 (0,0))],[(U,.cells #[sV ac Y.2.2.2 ag,sV cW cV cX] 25 (0,0))],az,cY,[]]) rfl e1 λe3=>?_;obtain⟨e4,e5,e6⟩:=bs eY;refine zg 4 rfl (Cm e5 rfl rfl rfl ?_);refine zg 2 rfl ?_;obtain rfl:=oi e6;exact AA (b6 _ _ (cV,K.2.1,K.2.2.1,K.2.2.2,e4) ⟨eU,cW,cX,cY,bi,bn,rfl,rfl,((bJ.Ad bM).Ad cd),e3,eZ,(cN.Ag cd)⟩ bw) rfl
   ·refine JL.exit rfl ?_;obtain rfl:=oi ef;obtain rfl:=ec _ bw;exact AA (eb _ _ ⟨bv,bH,bI,a5,a6,a8,rfl,rfl,bJ,bK,b5,bL⟩) rfl
 ·intro e7;refine JL.block (CI dE (λL s Z=>∃(bx:LH) (aq:An) (aw:Nat) (a2:Seg) (bN:An) (bO:Nat),Jn bZ H bx [bX bk #[sV bN Z.2.1 bO,iV Z.2.2.1,.int .u64 ((Z.2.2.2.1:Nat):Int)] 74,bX O #[nS,nS] 25,bX U #[sV aq Z.1 aw,nS] 25,a2] [(0,Aj bk 0),(2,iV p2),(6,Aj O 0),(7,Aj U 0),(8,iV a0.1),(9,.bool bD.1),(10,iV Z.2.2.2.2)] L s (OL 28 (rL rI) bx aq aw a2 Z.1/\Al rI bx bN bO Z.2.1)) ⟨bZ,none,0,[],dA,dB,rfl,rfl,Ay,dD,OL.nil,dC⟩ ?_);rintro _ _ Z ⟨bx,aq,aw,a2,bN,bO,rfl,rfl,cZ,c0,c1,c3⟩ e8 ⟨gO,ce⟩ e9;have c4:=ce;unfold Nq at c4;refine zg 7 rfl (AT c4 (λfa fb=>?_) (λfa fc=>?_))
  ·obtain⟨gP,fe,ff⟩:=bs fb;refine zg 11 rfl (Cv 0 (K1 c3 fe) rfl rfl Kw c0 rfl ?_);rintro _ cf _ c5 ⟨fg,fh,rfl,rfl,fj⟩ fk;obtain⟨ay,fl,fm⟩:=bs ff;refine zg 2 rfl (Bq (λL s=>∃(bP:LH) (bQ:An) (bR:Nat) (cg:Seg) (bz:An) (bA:Nat),Jn cf H bP [bX bk #[sV bz ay.2.1 bA,iV ay.2.2.1,.int .u64 ((ay.2.2.2:Nat):Int)] 74,bX O #[nS,nS] 25,bX U #[sV aq Z.1 aw,nS] 25,a2,cg] [(0,Aj bk 0),(2,iV p2),(6,Aj O 0),(7,Aj U 0),(8,iV a0.1),(9,.bool bD.1),(10,iV Z.2.2.2.2),(11,sV bQ ay.1 bR)] L s (OL 3 rI bP bQ bR cg ay.1/\Al rI bP bz bA ay.2.1)) ?_ ?_)
   ·rintro _ _ ⟨bP,bQ,bR,cg,bz,bA,rfl,rfl,c6,c7,fo,fp⟩;refine JL.region (JL.fd underlying25 Dg rfl rfl rfl ?_);refine Am (v:= sV aq Z.1 aw) rfl (λρ h=>Yl.load Dy (h _ _ rfl) (BR (j:=2) (off:=0) c7 rfl rfl)) (zg 1 rfl ?_);refine BJ 4 fo c7 rfl λfq ci fs fu=>Bs (S':= [[(bk,.cells #[sV bz ay.2.1 bA,iV ay.2.2.1,.int .u64 ((ay.2.2.2:Nat):Int)] 74 (0,0))],[(O,.cells #[nS,nS] 25 (0,0))],[(U,.cells #[sV aq Z.1 aw,nS] 25 (0,0))],a2,[]]) rfl fu λfv=>?_;obtain⟨fw,fx,fy⟩:=bs fm;refine JS.app (pp:=(rL rI)) (v:= sV bQ ay.1 bR) (a:=aq) (c:=aw) 3 fx rfl rfl rfl rfl (λ_=>rfl) rfl (λ_=>rfl) rfl rfl rfl underlying22 underlying22 underlying22 Eu (B8 type28) Kz rfl (by decide) (by decide) (by decide) (by decide) (c1.Ag ((c5.Ad c6).Ad ci)) ⟨_,_,rfl,fs⟩ fv rfl λgQ fz fA fB fC fD=>JL.fd underlying25 Dg rfl rfl rfl (Bv 2 fD Dg λfE=>?_);obtain⟨fF,fG,fH⟩:=bs fy;refine zg 4 rfl (Bt fG rfl rfl rfl ?_);refine zg 2 rfl ?_;obtain rfl:=oi fH;exact AA (e9 _ _ (fw,ay.2.1,ay.2.2.1,ay.2.2.2,fF) ⟨fq,fz,fA,fB,bz,bA,rfl,rfl,(((cZ.Ad c5).Ad c6).Ad ci),fE,fC,(fp.Ag ci)⟩ ce) rfl
   ·intro fI;refine JL.block (CI fl (λL s am=>∃(a9:LH) (bb:An) (be:Nat) (bo:An) (bq:Nat) (bB:Seg),Jn cf H a9 [bX bk #[sV bb am.1 be,iV am.2.1,.int .u64 ((am.2.2.1:Nat):Int)] 74,bX O #[nS,nS] 25,bX U #[sV aq Z.1 aw,nS] 25,a2,bB] [(0,Aj bk 0),(2,iV p2),(6,Aj O 0),(7,Aj U 0),(8,iV a0.1),(9,.bool bD.1),(10,iV Z.2.2.2.2),(11,sV bo am.2.2.2.1 bq),(12,iV am.2.2.2.2)] L s (Al rI a9 bb be am.1/\OL 3 rI a9 bo bq bB am.2.2.2.1)) ⟨cf,fg,fh,none,0,[],rfl,rfl,Ay,fk,fj,OL.nil⟩ ?_);rintro _ _ am ⟨a9,bb,be,bo,bq,bB,rfl,rfl,c8,ck,cm,cn⟩ fJ ⟨gR,co⟩ fK;have c9:=co;unfold Ng at c9;refine zg 6 rfl (AT c9 (λfL fM=>?_) (λfL fN=>?_))
    ·obtain⟨a7,fO,fP⟩:=bs fM;refine zg 7 rfl (Bq (λL s=>∃(bC:LH) (bS:An) (bT:Nat) (bU:Seg) (bV:An) (bW:Nat),Jn a9 H bC [bX bk #[sV bV a7.2.1 bW,iV a7.2.2.1,.int .u64 ((a7.2.2.2:Nat):Int)] 74,bX O #[nS,nS] 25,bX U #[sV aq Z.1 aw,nS] 25,a2,bU] [(0,Aj bk 0),(2,iV p2),(6,Aj O 0),(7,Aj U 0),(8,iV a0.1),(9,.bool bD.1),(10,iV Z.2.2.2.2),(11,sV bS a7.1 bT),(12,iV am.2.2.2.2)] L s (OL 3 rI bC bS bT bU a7.1/\Al rI bC bV bW a7.2.1)) ?_ ?_)
     ·rintro _ _ ⟨bC,bS,bT,bU,bV,bW,rfl,rfl,fQ,fR,fS,fT⟩;obtain⟨fU,fW,fX⟩:=bs fP;refine zg 3 rfl (Cm fW rfl rfl rfl ?_);refine zg 2 rfl ?_;obtain rfl:=oi fX;exact AA (fK _ _ (a7.2.1,a7.2.2.1,a7.2.2.2,a7.1,fU) ⟨bC,bV,bW,bS,bT,bU,rfl,rfl,(c8.Ad fQ),fR,fT,fS⟩ co) rfl
     ·intro da;refine Cc fO (λfY fZ=>?_) (λfY ga=>?_)
      ·obtain⟨gS,gb,gc⟩:=bs fZ;refine zg 2 rfl (JS.app (pp:=rI) (v:=iV 1) (a:=bo) (c:=bq) 4 gb rfl rfl rfl rfl (λ_=>rfl) rfl (λ_=>rfl) rfl rfl rfl underlying28 underlying28 underlying28 AB (B8 type3) Cg rfl (by decide) (by decide) (by decide) (by decide) cn rfl ck rfl λgT gd ge db gf gg=>?_);refine Bs (S':= [[(bk,.cells #[sV bb am.1 be,iV am.2.1,.int .u64 ((am.2.2.1:Nat):Int)] 74 (0,0))],[(O,.cells #[nS,nS] 25 (0,0))],[(U,.cells #[sV aq Z.1 aw,nS] 25 (0,0))],a2,db]) rfl gg λgh=>zg 2 rfl ?_;obtain rfl:=oi gc;exact AA (da _ _ ⟨a9,gd,ge,db,bb,be,rfl,rfl,Ay,gh,gf,cm⟩) rfl
      ·refine zg 3 rfl (FG (pp:=rI) [iV 1,iV 1,iV 2,iV 2,iV 3,iV 5] [1,1,2,2,3,5] rfl rfl rfl underlying28 AB Cg (by decide) rfl rfl rfl ⟨rfl,rfl,rfl,rfl,rfl,rfl,trivial⟩ ck λgU gi gj gk=>?_);refine Bs (S':= [[(bk,.cells #[sV bb am.1 be,iV am.2.1,.int .u64 ((am.2.2.1:Nat):Int)] 74 (0,0))],[(O,.cells #[nS,nS] 25 (0,0))],[(U,.cells #[sV aq Z.1 aw,nS] 25 (0,0))],a2,bB,gi]) rfl gk λgl=>BJ 5 gj gl rfl λgV cp gm gn=>?_;obtain⟨bY,gp,gq⟩:=bs ga;refine Cv 0 (TO (cm.Ag cp) gm gp) rfl rfl (A3 func81 rfl) gn rfl ?_;rintro _ gr _ dc ⟨dd,de,rfl,rfl,gt⟩ gu;obtain⟨gW,gv,gw⟩:=bs gq;refine JS.app (pp:=rI) (v:=iV bY.1) (a:=bo) (c:=bq) 4 gv rfl rfl rfl rfl (λ_=>rfl) rfl (λ_=>rfl) rfl rfl rfl underlying28 underlying28 underlying28 AB (B8 type3) Cg rfl (by decide) (by decide) (by decide) (by decide) (cn.Ag (cp.Ad dc)) rfl gu rfl λgX gx gy df gz gA=>Bs (S':= [[(bk,.cells #[sV dd bY.2.1 de,iV bY.2.2.1,.int .u64 ((bY.2.2.2:Nat):Int)] 74 (0,0))],[(O,.cells #[nS,nS] 25 (0,0))],[(U,.cells #[sV aq Z.1 aw,nS] 25 (0,0))],a2,df,[]]) rfl gA λgB=>zg 2 rfl ?_;obtain rfl:=oi gw;exact AA (da _ _ ⟨gr,gx,gy,df,dd,de,rfl,rfl,(cp.Ad dc),gB,gz,gt⟩) rfl
    ·refine JL.exit rfl ?_;obtain rfl:=oi fN;obtain rfl:=fJ _ co;exact AA (fI _ _ ⟨a9,bo,bq,bB,bb,be,rfl,rfl,c8,ck,cn,cm⟩) rfl
  ·refine JL.exit rfl ?_;obtain rfl:=oi fc;obtain rfl:=e8 _ ce;exact AA (e7 _ _ ⟨bx,bN,bO,aq,aw,a2,rfl,rfl,cZ,c0,c3,c1⟩) rfl
end Pal
namespace Pal
open Go Go.Conc Go.Proofs
open Go.Proofs.Tryz
variable {J:Judge Tryz.prog}{E:LH}
def f38(fu_:Nat)(p0:AQ)(K:Int×Int×Int):Option (AQ):= (C4 ([]:Aw) p0.2).bind λO=> (C4 O ([K]:Aw)).bind λU=> some (p0.1,U)
theorem aa{a1:An}{c2:Nat}{U:An}{Y:Nat}{p0:AQ}{K:Int×Int×Int}(ag:Al (rL rI) E a1 c2 p0.1)(al:Al As E U Y p0.2){fu_:Nat}{r:AQ}(bM:f38 fu_ p0 K=some r):AK J 38 [.agg #[sV a1 p0.1 c2,sV U p0.2 Y],.agg #[iV K.1,iV K.2.1,iV K.2.2]] E [] (λw E' B'=>∃(bN:An) (bO:Nat) (bP:An) (bQ:Nat),w= .agg #[sV bN r.1 bO,sV bP r.2 bQ]/\B'= []/\Al (rL rI) E' bN bO r.1/\Al As E' bP bQ r.2):=by
 refine Bd func38 λQ fE cs H cq am=>?_;unfold f38 at bM;refine zg 2 rfl (JS.box (v:= .agg #[sV a1 p0.1 c2,sV U p0.2 Y]) rfl rfl rfl cq rfl λZ cr=>?_);refine Cr cr λfF fG O ct cu=>?_;refine BO cu GB λac cv=>?_;refine Bs (S':= [[],[(Z,.cells #[sV a1 p0.1 c2,sV U p0.2 Y] 25 (0,0))],[],[(ac,.cells #[nS,nS] 25 (0,0))]]) rfl cv λbo=>zg 2 rfl (Ei 6 λbR=>?_);refine JG.fd 1 bR underlying25 Cu rfl rfl rfl rfl (Gq 4 bR ct Dm AV rfl rfl rfl ?_);obtain⟨fH,ap,aq⟩:=bs bM;refine Lz (i:=0) (j:=2) (l:=5) rfl (by decide+kernel) ?_ ?_ ?_
 ·refine Take.LW (pp:=As) bo rfl rfl rfl underlying23 AV λfI fJ bC bB=>EH (i:=2) (j:=5) rfl (by decide+kernel) ?_ ?_
  ·refine Take.y0 (v:= sV U p0.2 Y) rfl rfl rfl (λρ h=>Yl.load Et (h _ _ rfl) (BR (j:=1) bB rfl rfl)) (EH (i:=3) (j:=5) rfl (by decide+kernel) ?_ ?_)
   ·refine Take.Jw (pp:=As) 4 bB ap rfl rfl rfl rfl rfl rfl rfl underlying23 underlying23 AV (B8 type27) Bp rfl (by decide) (by decide) bC (al.Ag O) rfl λfK fL fM cw cy cz=>JG.one (i:=5) rfl (by decide+kernel) (Take.DU (pp:=As) [.agg #[iV K.1,iV K.2.1,iV K.2.2]] ([K]:Aw) cz rfl rfl rfl underlying23 AV Bp (by decide) rfl rfl rfl ⟨⟨_,_,rfl,rfl,⟨_,_,rfl,rfl,rfl⟩⟩,trivial⟩ λfN cA cB cC=>?_);refine Ck [6,7,8] (EG 4 rfl cC λcD=>?_);refine JS.drop 4 cD rfl λcE=>Bs (S':= [[],[(Z,.cells #[sV a1 p0.1 c2,sV U p0.2 Y] 25 (0,0))],[],[(ac,.cells #[nS,nS] 25 (0,0))],[],cA,cw]) rfl cE λcF=>BJ 5 cB cF rfl λfO bD cG cH=>?_;obtain⟨bq,cI,cJ⟩:=bs aq;refine FF (pp:=As) 6 cI rfl rfl rfl rfl rfl rfl rfl underlying23 underlying23 AV (B8 type27) Bp rfl (by decide) (by decide) (cy.Ag bD) cG cH rfl λaw ay cK cM cN=>JL.fd underlying25 Cu rfl rfl rfl (Bv 1 cN Cu λcO=>?_);refine Bs (S':= [[],[(Z,.cells #[sV a1 p0.1 c2,sV aw bq ay] 25 (0,0))],[],[(ac,.cells #[nS,nS] 25 (0,0))],[],[],cK]) rfl cO λbS=>zg 3 rfl (Am rfl (λρ h=>FE (vs:= [sV a1 p0.1 c2,sV aw bq ay]) B2 Bu (h _ _ rfl) (Dp (off:=0) 1 bS rfl rfl)) ?_);refine Bv 3 bS Bu λcP=>?_;refine JL.done (BJ 6 cM cP rfl λfP bT cQ cR=>?_);refine JS.drop 1 cR rfl λbU=>?_;obtain rfl:=oi cJ;refine JL.ret (v:= .agg #[sV a1 p0.1 c2,sV aw bq ay]) rfl rfl (Bz.list func38 rfl (vs:= [.agg #[sV a1 p0.1 c2,sV aw bq ay]]) ⟨⟨_,rfl,Ld.many (vs:= [sV a1 p0.1 c2,sV aw bq ay]) B2 Bu (Dp (off:=0) 3 bU rfl rfl)⟩,trivial⟩) (Db 3 bU rfl λcT=>?_);exact am ((O.Ad bD).Ad bT) rfl ⟨a1,c2,aw,ay,rfl,rfl,(ag.Ag ((O.Ad bD).Ad bT)),cQ⟩ cT
   ·refine Take.DU (pp:=As) [.agg #[iV K.1,iV K.2.1,iV K.2.2]] ([K]:Aw) bB rfl rfl rfl underlying23 AV Bp (by decide) rfl rfl rfl ⟨⟨_,_,rfl,rfl,⟨_,_,rfl,rfl,rfl⟩⟩,trivial⟩ λfQ cV cW cX=>JG.one (i:=3) rfl (by decide+kernel) (Take.Jw (pp:=As) 4 cX ap rfl rfl rfl rfl rfl rfl rfl underlying23 underlying23 AV (B8 type27) Bp rfl (by decide) (by decide) bC (al.Ag O) rfl λfR fS fT cY cZ c0=>?_);refine Ck [6,7,8] (EG 4 rfl c0 λc1=>?_);refine JS.drop 4 c1 rfl λc3=>Bs (S':= [[],[(Z,.cells #[sV a1 p0.1 c2,sV U p0.2 Y] 25 (0,0))],[],[(ac,.cells #[nS,nS] 25 (0,0))],[],cV,cY]) rfl c3 λc4=>BJ 5 cW c4 rfl λfU bE c5 c6=>?_;obtain⟨br,c7,c8⟩:=bs aq;refine FF (pp:=As) 6 c7 rfl rfl rfl rfl rfl rfl rfl underlying23 underlying23 AV (B8 type27) Bp rfl (by decide) (by decide) (cZ.Ag bE) c5 c6 rfl λaz a0 c9 da db=>JL.fd underlying25 Cu rfl rfl rfl (Bv 1 db Cu λdc=>?_);refine Bs (S':= [[],[(Z,.cells #[sV a1 p0.1 c2,sV az br a0] 25 (0,0))],[],[(ac,.cells #[nS,nS] 25 (0,0))],[],[],c9]) rfl dc λbV=>zg 3 rfl (Am rfl (λρ h=>FE (vs:= [sV a1 p0.1 c2,sV az br a0]) B2 Bu (h _ _ rfl) (Dp (off:=0) 1 bV rfl rfl)) ?_);refine Bv 3 bV Bu λdd=>?_;refine JL.done (BJ 6 da dd rfl λfW bW de df=>?_);refine JS.drop 1 df rfl λbY=>?_;obtain rfl:=oi c8;refine JL.ret (v:= .agg #[sV a1 p0.1 c2,sV az br a0]) rfl rfl (Bz.list func38 rfl (vs:= [.agg #[sV a1 p0.1 c2,sV az br a0]]) ⟨⟨_,rfl,Ld.many (vs:= [sV a1 p0.1 c2,sV az br a0]) B2 Bu (Dp (off:=0) 3 bY rfl rfl)⟩,trivial⟩) (Db 3 bY rfl λdg=>?_);exact am ((O.Ad bE).Ad bW) rfl ⟨a1,c2,az,a0,rfl,rfl,(ag.Ag ((O.Ad bE).Ad bW)),de⟩ dg
  ·refine Take.DU (pp:=As) [.agg #[iV K.1,iV K.2.1,iV K.2.2]] ([K]:Aw) bB rfl rfl rfl underlying23 AV Bp (by decide) rfl rfl rfl ⟨⟨_,_,rfl,rfl,⟨_,_,rfl,rfl,rfl⟩⟩,trivial⟩ λfX dh di bZ=>JG.one (i:=2) rfl (by decide+kernel) (Take.y0 (v:= sV U p0.2 Y) rfl rfl rfl (λρ h=>Yl.load Et (h _ _ rfl) (BR (j:=1) bZ rfl rfl)) ?_);refine JG.one (i:=3) rfl (by decide+kernel) (Take.Jw (pp:=As) 4 bZ ap rfl rfl rfl rfl rfl rfl rfl underlying23 underlying23 AV (B8 type27) Bp rfl (by decide) (by decide) bC (al.Ag O) rfl λfY fZ ga dj dk dn=>?_);refine Ck [6,7,8] (EG 4 rfl dn λdp=>?_);refine JS.drop 4 dp rfl λdq=>Bs (S':= [[],[(Z,.cells #[sV a1 p0.1 c2,sV U p0.2 Y] 25 (0,0))],[],[(ac,.cells #[nS,nS] 25 (0,0))],[],dh,dj]) rfl dq λdr=>BJ 5 di dr rfl λgb bF dt du=>?_;obtain⟨bu,dv,dw⟩:=bs aq;refine FF (pp:=As) 6 dv rfl rfl rfl rfl rfl rfl rfl underlying23 underlying23 AV (B8 type27) Bp rfl (by decide) (by decide) (dk.Ag bF) dt du rfl λa2 a3 dx dy dz=>JL.fd underlying25 Cu rfl rfl rfl (Bv 1 dz Cu λdA=>?_);refine Bs (S':= [[],[(Z,.cells #[sV a1 p0.1 c2,sV a2 bu a3] 25 (0,0))],[],[(ac,.cells #[nS,nS] 25 (0,0))],[],[],dx]) rfl dA λb0=>zg 3 rfl (Am rfl (λρ h=>FE (vs:= [sV a1 p0.1 c2,sV a2 bu a3]) B2 Bu (h _ _ rfl) (Dp (off:=0) 1 b0 rfl rfl)) ?_);refine Bv 3 b0 Bu λdB=>?_;refine JL.done (BJ 6 dy dB rfl λgc b1 dC dD=>?_);refine JS.drop 1 dD rfl λb2=>?_;obtain rfl:=oi dw;refine JL.ret (v:= .agg #[sV a1 p0.1 c2,sV a2 bu a3]) rfl rfl (Bz.list func38 rfl (vs:= [.agg #[sV a1 p0.1 c2,sV a2 bu a3]]) ⟨⟨_,rfl,Ld.many (vs:= [sV a1 p0.1 c2,sV a2 bu a3]) B2 Bu (Dp (off:=0) 3 b2 rfl rfl)⟩,trivial⟩) (Db 3 b2 rfl λdE=>?_);exact am ((O.Ad bF).Ad b1) rfl ⟨a1,c2,a2,a3,rfl,rfl,(ag.Ag ((O.Ad bF).Ad b1)),dC⟩ dE
 ·refine Take.y0 (v:= sV U p0.2 Y) rfl rfl rfl (λρ h=>Yl.load Et (h _ _ rfl) (BR (j:=1) bo rfl rfl)) (EH (i:=0) (j:=5) rfl (by decide+kernel) ?_ ?_)
  ·refine Take.LW (pp:=As) bo rfl rfl rfl underlying23 AV λgd ge b3 b4=>EH (i:=3) (j:=5) rfl (by decide+kernel) ?_ ?_
   ·refine Take.Jw (pp:=As) 4 b4 ap rfl rfl rfl rfl rfl rfl rfl underlying23 underlying23 AV (B8 type27) Bp rfl (by decide) (by decide) b3 (al.Ag O) rfl λgf gg gh dF dG dH=>JG.one (i:=5) rfl (by decide+kernel) (Take.DU (pp:=As) [.agg #[iV K.1,iV K.2.1,iV K.2.2]] ([K]:Aw) dH rfl rfl rfl underlying23 AV Bp (by decide) rfl rfl rfl ⟨⟨_,_,rfl,rfl,⟨_,_,rfl,rfl,rfl⟩⟩,trivial⟩ λgi dI dJ dK=>?_);refine Ck [6,7,8] (EG 4 rfl dK λdL=>?_);refine JS.drop 4 dL rfl λdM=>Bs (S':= [[],[(Z,.cells #[sV a1 p0.1 c2,sV U p0.2 Y] 25 (0,0))],[],[(ac,.cells #[nS,nS] 25 (0,0))],[],dI,dF]) rfl dM λdN=>BJ 5 dJ dN rfl λgj bG dO dP=>?_;obtain⟨bv,dQ,dR⟩:=bs aq;refine FF (pp:=As) 6 dQ rfl rfl rfl rfl rfl rfl rfl underlying23 underlying23 AV (B8 type27) Bp rfl (by decide) (by decide) (dG.Ag bG) dO dP rfl λa4 a5 dS dT dU=>JL.fd underlying25 Cu rfl rfl rfl (Bv 1 dU Cu λdV=>?_);refine Bs (S':= [[],[(Z,.cells #[sV a1 p0.1 c2,sV a4 bv a5] 25 (0,0))],[],[(ac,.cells #[nS,nS] 25 (0,0))],[],[],dS]) rfl dV λb5=>zg 3 rfl (Am rfl (λρ h=>FE (vs:= [sV a1 p0.1 c2,sV a4 bv a5]) B2 Bu (h _ _ rfl) (Dp (off:=0) 1 b5 rfl rfl)) ?_);refine Bv 3 b5 Bu λdW=>?_;refine JL.done (BJ 6 dT dW rfl λgk b6 dX dY=>?_);refine JS.drop 1 dY rfl λb7=>?_;obtain rfl:=oi dR;refine JL.ret (v:= .agg #[sV a1 p0.1 c2,sV a4 bv a5]) rfl rfl (Bz.list func38 rfl (vs:= [.agg #[sV a1 p0.1 c2,sV a4 bv a5]]) ⟨⟨_,rfl,Ld.many (vs:= [sV a1 p0.1 c2,sV a4 bv a5]) B2 Bu (Dp (off:=0) 3 b7 rfl rfl)⟩,trivial⟩) (Db 3 b7 rfl λdZ=>?_);exact am ((O.Ad bG).Ad b6) rfl ⟨a1,c2,a4,a5,rfl,rfl,(ag.Ag ((O.Ad bG).Ad b6)),dX⟩ dZ
   ·refine Take.DU (pp:=As) [.agg #[iV K.1,iV K.2.1,iV K.2.2]] ([K]:Aw) b4 rfl rfl rfl underlying23 AV Bp (by decide) rfl rfl rfl ⟨⟨_,_,rfl,rfl,⟨_,_,rfl,rfl,rfl⟩⟩,trivial⟩ λgl ea eb ec=>JG.one (i:=3) rfl (by decide+kernel) (Take.Jw (pp:=As) 4 ec ap rfl rfl rfl rfl rfl rfl rfl underlying23 underlying23 AV (B8 type27) Bp rfl (by decide) (by decide) b3 (al.Ag O) rfl λgm gn gp ed ee ef=>?_);refine Ck [6,7,8] (EG 4 rfl ef λeg=>?_);refine JS.drop 4 eg rfl λeh=>Bs (S':= [[],[(Z,.cells #[sV a1 p0.1 c2,sV U p0.2 Y] 25 (0,0))],[],[(ac,.cells #[nS,nS] 25 (0,0))],[],ea,ed]) rfl eh λei=>BJ 5 eb ei rfl λgq bH ej ek=>?_;obtain⟨bw,el,em⟩:=bs aq;refine FF (pp:=As) 6 el rfl rfl rfl rfl rfl rfl rfl underlying23 underlying23 AV (B8 type27) Bp rfl (by decide) (by decide) (ee.Ag bH) ej ek rfl λa6 a7 en eo ep=>JL.fd underlying25 Cu rfl rfl rfl (Bv 1 ep Cu λer=>?_);refine Bs (S':= [[],[(Z,.cells #[sV a1 p0.1 c2,sV a6 bw a7] 25 (0,0))],[],[(ac,.cells #[nS,nS] 25 (0,0))],[],[],en]) rfl er λb8=>zg 3 rfl (Am rfl (λρ h=>FE (vs:= [sV a1 p0.1 c2,sV a6 bw a7]) B2 Bu (h _ _ rfl) (Dp (off:=0) 1 b8 rfl rfl)) ?_);refine Bv 3 b8 Bu λet=>?_;refine JL.done (BJ 6 eo et rfl λgr b9 eu ew=>?_);refine JS.drop 1 ew rfl λca=>?_;obtain rfl:=oi em;refine JL.ret (v:= .agg #[sV a1 p0.1 c2,sV a6 bw a7]) rfl rfl (Bz.list func38 rfl (vs:= [.agg #[sV a1 p0.1 c2,sV a6 bw a7]]) ⟨⟨_,rfl,Ld.many (vs:= [sV a1 p0.1 c2,sV a6 bw a7]) B2 Bu (Dp (off:=0) 3 ca rfl rfl)⟩,trivial⟩) (Db 3 ca rfl λex=>?_);exact am ((O.Ad bH).Ad b9) rfl ⟨a1,c2,a6,a7,rfl,rfl,(ag.Ag ((O.Ad bH).Ad b9)),eu⟩ ex
  ·refine Take.DU (pp:=As) [.agg #[iV K.1,iV K.2.1,iV K.2.2]] ([K]:Aw) bo rfl rfl rfl underlying23 AV Bp (by decide) rfl rfl rfl ⟨⟨_,_,rfl,rfl,⟨_,_,rfl,rfl,rfl⟩⟩,trivial⟩ λgt ey ez eA=>JG.one (i:=0) rfl (by decide+kernel) (Take.LW (pp:=As) eA rfl rfl rfl underlying23 AV λgu gv eB eC=>?_);refine JG.one (i:=3) rfl (by decide+kernel) (Take.Jw (pp:=As) 5 eC ap rfl rfl rfl rfl rfl rfl rfl underlying23 underlying23 AV (B8 type27) Bp rfl (by decide) (by decide) eB (al.Ag O) rfl λgw gx gy eD eE eF=>?_);refine Ck [6,7,8] (EG 5 rfl eF λeG=>?_);refine JS.drop 5 eG rfl λeH=>Bs (S':= [[],[(Z,.cells #[sV a1 p0.1 c2,sV U p0.2 Y] 25 (0,0))],[],[(ac,.cells #[nS,nS] 25 (0,0))],ey,[],eD]) rfl eH λeI=>BJ 4 ez eI rfl λgz bI eJ eK=>?_;obtain⟨bx,eL,eM⟩:=bs aq;refine FF (pp:=As) 6 eL rfl rfl rfl rfl rfl rfl rfl underlying23 underlying23 AV (B8 type27) Bp rfl (by decide) (by decide) (eE.Ag bI) eJ eK rfl λa8 a9 eN eO eP=>JL.fd underlying25 Cu rfl rfl rfl (Bv 1 eP Cu λeQ=>?_);refine Bs (S':= [[],[(Z,.cells #[sV a1 p0.1 c2,sV a8 bx a9] 25 (0,0))],[],[(ac,.cells #[nS,nS] 25 (0,0))],[],[],eN]) rfl eQ λcb=>zg 3 rfl (Am rfl (λρ h=>FE (vs:= [sV a1 p0.1 c2,sV a8 bx a9]) B2 Bu (h _ _ rfl) (Dp (off:=0) 1 cb rfl rfl)) ?_);refine Bv 3 cb Bu λeR=>?_;refine JL.done (BJ 6 eO eR rfl λgA cc eS eT=>?_);refine JS.drop 1 eT rfl λcd=>?_;obtain rfl:=oi eM;refine JL.ret (v:= .agg #[sV a1 p0.1 c2,sV a8 bx a9]) rfl rfl (Bz.list func38 rfl (vs:= [.agg #[sV a1 p0.1 c2,sV a8 bx a9]]) ⟨⟨_,rfl,Ld.many (vs:= [sV a1 p0.1 c2,sV a8 bx a9]) B2 Bu (Dp (off:=0) 3 cd rfl rfl)⟩,trivial⟩) (Db 3 cd rfl λeU=>?_);exact am ((O.Ad bI).Ad cc) rfl ⟨a1,c2,a8,a9,rfl,rfl,(ag.Ag ((O.Ad bI).Ad cc)),eS⟩ eU
 ·refine Take.DU (pp:=As) [.agg #[iV K.1,iV K.2.1,iV K.2.2]] ([K]:Aw) bo rfl rfl rfl underlying23 AV Bp (by decide) rfl rfl rfl ⟨⟨_,_,rfl,rfl,⟨_,_,rfl,rfl,rfl⟩⟩,trivial⟩ λgB ce cf bJ=>EH (i:=0) (j:=2) rfl (by decide+kernel) ?_ ?_
  ·refine Take.LW (pp:=As) bJ rfl rfl rfl underlying23 AV λgC gD eV cg=>JG.one (i:=2) rfl (by decide+kernel) (Take.y0 (v:= sV U p0.2 Y) rfl rfl rfl (λρ h=>Yl.load Et (h _ _ rfl) (BR (j:=1) cg rfl rfl)) ?_);refine JG.one (i:=3) rfl (by decide+kernel) (Take.Jw (pp:=As) 5 cg ap rfl rfl rfl rfl rfl rfl rfl underlying23 underlying23 AV (B8 type27) Bp rfl (by decide) (by decide) eV (al.Ag O) rfl λgE gF gG eW eX eY=>?_);refine Ck [6,7,8] (EG 5 rfl eY λeZ=>?_);refine JS.drop 5 eZ rfl λe0=>Bs (S':= [[],[(Z,.cells #[sV a1 p0.1 c2,sV U p0.2 Y] 25 (0,0))],[],[(ac,.cells #[nS,nS] 25 (0,0))],ce,[],eW]) rfl e0 λe1=>BJ 4 cf e1 rfl λgH bK e3 e4=>?_;obtain⟨bz,e5,e6⟩:=bs aq;refine FF (pp:=As) 6 e5 rfl rfl rfl rfl rfl rfl rfl underlying23 underlying23 AV (B8 type27) Bp rfl (by decide) (by decide) (eX.Ag bK) e3 e4 rfl λbb be e7 e8 e9=>JL.fd underlying25 Cu rfl rfl rfl (Bv 1 e9 Cu λfa=>?_);refine Bs (S':= [[],[(Z,.cells #[sV a1 p0.1 c2,sV bb bz be] 25 (0,0))],[],[(ac,.cells #[nS,nS] 25 (0,0))],[],[],e7]) rfl fa λci=>zg 3 rfl (Am rfl (λρ h=>FE (vs:= [sV a1 p0.1 c2,sV bb bz be]) B2 Bu (h _ _ rfl) (Dp (off:=0) 1 ci rfl rfl)) ?_);refine Bv 3 ci Bu λfb=>?_;refine JL.done (BJ 6 e8 fb rfl λgI ck fc fe=>?_);refine JS.drop 1 fe rfl λcm=>?_;obtain rfl:=oi e6;refine JL.ret (v:= .agg #[sV a1 p0.1 c2,sV bb bz be]) rfl rfl (Bz.list func38 rfl (vs:= [.agg #[sV a1 p0.1 c2,sV bb bz be]]) ⟨⟨_,rfl,Ld.many (vs:= [sV a1 p0.1 c2,sV bb bz be]) B2 Bu (Dp (off:=0) 3 cm rfl rfl)⟩,trivial⟩) (Db 3 cm rfl λff=>?_);exact am ((O.Ad bK).Ad ck) rfl ⟨a1,c2,bb,be,rfl,rfl,(ag.Ag ((O.Ad bK).Ad ck)),fc⟩ ff
  ·refine Take.y0 (v:= sV U p0.2 Y) rfl rfl rfl (λρ h=>Yl.load Et (h _ _ rfl) (BR (j:=1) bJ rfl rfl)) (JG.one (i:=0) rfl (by decide+kernel) ?_);refine Take.LW (pp:=As) bJ rfl rfl rfl underlying23 AV λgJ gK fg fh=>JG.one (i:=3) rfl (by decide+kernel) (Take.Jw (pp:=As) 5 fh ap rfl rfl rfl rfl rfl rfl rfl underlying23 underlying23 AV (B8 type27) Bp rfl (by decide) (by decide) fg (al.Ag O) rfl λgL gM gO fj fk fl=>?_);refine Ck [6,7,8] (EG 5 rfl fl λfm=>?_);refine JS.drop 5 fm rfl λfo=>Bs (S':= [[],[(Z,.cells #[sV a1 p0.1 c2,sV U p0.2 Y] 25 (0,0))],[],[(ac,.cells #[nS,nS] 25 (0,0))],ce,[],fj]) rfl fo λfp=>BJ 4 cf fp rfl λgP bL fq fs=>?_;obtain⟨bA,fu,fv⟩:=bs aq;refine FF (pp:=As) 6 fu rfl rfl rfl rfl rfl rfl rfl underlying23 underlying23 AV (B8 type27) Bp rfl (by decide) (by decide) (fk.Ag bL) fq fs rfl λbi bn fw fx fy=>JL.fd underlying25 Cu rfl rfl rfl (Bv 1 fy Cu λfz=>?_);refine Bs (S':= [[],[(Z,.cells #[sV a1 p0.1 c2,sV bi bA bn] 25 (0,0))],[],[(ac,.cells #[nS,nS] 25 (0,0))],[],[],fw]) rfl fz λcn=>zg 3 rfl (Am rfl (λρ h=>FE (vs:= [sV a1 p0.1 c2,sV bi bA bn]) B2 Bu (h _ _ rfl) (Dp (off:=0) 1 cn rfl rfl)) ?_);refine Bv 3 cn Bu λfA=>?_;refine JL.done (BJ 6 fx fA rfl λgQ co fB fC=>?_);refine JS.drop 1 fC rfl λcp=>?_;obtain rfl:=oi fv;refine JL.ret (v:= .agg #[sV a1 p0.1 c2,sV bi bA bn]) rfl rfl (Bz.list func38 rfl (vs:= [.agg #[sV a1 p0.1 c2,sV bi bA bn]]) ⟨⟨_,rfl,Ld.many (vs:= [sV a1 p0.1 c2,sV bi bA bn]) B2 Bu (Dp (off:=0) 3 cp rfl rfl)⟩,trivial⟩) (Db 3 cp rfl λfD=>?_);exact am ((O.Ad bL).Ad co) rfl ⟨a1,c2,bi,bn,rfl,rfl,(ag.Ag ((O.Ad bL).Ad co)),fB⟩ fD
end Pal
namespace Pal
open Go Go.Conc Go.Proofs
open Go.Proofs.Tryz
variable {J:Judge Tryz.prog}{E:LH}
def f19(fu_:Nat)(p0:AQ)(Y:Int×Int×Int)(p2:Cw):Option ((List AQ)×(Cw)):= (f31 fu_ p2 5 6).bind λK=> (f38 fu_ K.1 Y).bind λO=> (f32 fu_ K.2 3).bind λU=> Option.bind (if U.1=true then((f68 fu_ p0.1).bind λZ=> some Z) else(some O.1)) λac=> some (([p0,K.1,(ac,O.2)]:List AQ),U.2)
theorem aC{a1:An}{c2:Nat}{a3:An}{a4:Nat}{bk:Nat}{a9:An}{bb:Nat}{p0:AQ}{az:Int×Int×Int}{p2:Cw}(be:Al (rL rI) E a1 c2 p0.1)(bI:Al As E a3 a4 p0.2)(bJ:Al rI E a9 bb p2.1){fu_:Nat}{r:(List AQ)×(Cw)}(bi:f19 fu_ p0 az p2=some r):AK J 19 [.agg #[sV a1 p0.1 c2,sV a3 p0.2 a4],.agg #[iV az.1,iV az.2.1,iV az.2.2],Aj bk 0] E [(bk,.cells #[sV a9 p2.1 bb,iV p2.2.1,.int .u64 ((p2.2.2:Nat):Int)] 74 (0,0))] (λw E' B'=>∃(bn:An) (bo:Nat) (bq:An) (br:Nat),w= sV bn r.1 bo/\B'= [(bk,.cells #[sV bq r.2.1 br,iV r.2.2.1,.int .u64 ((r.2.2.2:Nat):Int)] 74 (0,0))]/\Al (rP (rL (rL rI)) (rL As)) E' bn bo r.1/\Al rI E' bq br r.2.1):=by
 refine Bd func19 λQ cG cs H bK bL=>?_;unfold f19 at bi;refine zg 2 rfl (Cr bK λbM cH ap bu bN=>?_);refine Cr bN λcI cJ ac bO bP=>?_;obtain⟨Y,bQ,bR⟩:=bs bi;refine zg 5 rfl (Cv 0 (aj (bJ.Ag (ap.Ad ac)) bQ) rfl rfl (A3 func31 rfl) bP rfl ?_);rintro _ cK _ ag ⟨bS,bT,bU,bV,bv,bw,rfl,rfl,bx,bz,bW⟩ bY;refine Bs (S':= [[(bk,.cells #[sV bv Y.2.1 bw,iV Y.2.2.1,.int .u64 ((Y.2.2.2:Nat):Int)] 74 (0,0))],[],[]]) rfl bY λbZ=>BO bZ GB λb0 b1=>?_;refine Bv 3 b1 Bu λb2=>?_;refine Dr 3 b2 rfl λcM K bA b3=>zg 3 rfl (B3 bA B2 Bu rfl rfl ?_);refine B3 (bO.Ag (ag.Ad K)) Dm AV rfl rfl ?_;obtain⟨al,b4,b5⟩:=bs bR;refine BU (aa (bx.Ag K) (bz.Ag K) b4) rfl rfl (A3 func38 rfl) b3 ?_;rintro _ cN _ U ⟨bB,bC,a0,a2,rfl,rfl,b6,b7⟩ b8;refine Bs (S':= [[(bk,.cells #[sV bv Y.2.1 bw,iV Y.2.2.1,.int .u64 ((Y.2.2.2:Nat):Int)] 74 (0,0))],[],[],[],[]]) rfl b8 λb9=>BO b9 GB λa5 ca=>?_;refine Bv 5 ca Bu λcb=>?_;obtain⟨am,cc,cd⟩:=bs b5;refine zg 5 rfl (Cv 0 (TU (bW.Ag (K.Ad U)) cc) rfl rfl (A3 func32 rfl) cb rfl ?_);rintro _ bD _ O ⟨a6,a7,rfl,rfl,ce⟩ cf;refine Bs (S':= [[(bk,.cells #[sV a6 am.2.1 a7,iV am.2.2.1,.int .u64 ((am.2.2.2:Nat):Int)] 74 (0,0))],[],[],[],[],[(a5,.cells #[sV bB al.1 bC,sV a0 al.2 a2] 25 (0,0))]]) rfl cf λbE=>?_;obtain⟨aq,cg,ci⟩:=bs cd;refine JL.done (Bq (λL s=>∃(a8:LH) (aw:An) (ay:Nat),Jn bD H a8 [bX bk #[sV a6 am.2.1 a7,iV am.2.2.1,.int .u64 ((am.2.2.2:Nat):Int)] 74,bX a5 #[sV aw aq ay,sV a0 al.2 a2] 25] [(3,Aj bM 0),(7,Aj b0 0),(8,Aj a5 0)] L s (Al (rL rI) a8 aw ay aq)) ?_ ?_)
 ·rintro _ _ ⟨a8,aw,ay,rfl,rfl,Z,bF,ck⟩;refine zg 2 rfl (B3 (bu.Ag (((((ac.Ad ag).Ad K).Ad U).Ad O).Ad Z)) B2 Bu rfl rfl ?_);refine B3 (bA.Ag ((U.Ad O).Ad Z)) B2 Bu rfl rfl (Am rfl (λρ h=>FE (vs:= [sV aw aq ay,sV a0 al.2 a2]) B2 Bu (h _ _ rfl) (Dp (off:=0) 1 bF rfl rfl)) ?_);refine FG (pp:=(rP (rL (rL rI)) (rL As))) [.agg #[sV a1 p0.1 c2,sV a3 p0.2 a4],.agg #[sV bS Y.1.1 bT,sV bU Y.1.2 bV],.agg #[sV aw aq ay,sV a0 al.2 a2]] [p0,Y.1,(aq,al.2)] rfl rfl rfl underlying31 Bu GB (by decide) rfl rfl rfl ⟨⟨_,_,rfl,⟨_,_,rfl,(be.Ag ((((((ap.Ad ac).Ad ag).Ad K).Ad U).Ad O).Ad Z))⟩,⟨_,_,rfl,(bI.Ag ((((((ap.Ad ac).Ad ag).Ad K).Ad U).Ad O).Ad Z))⟩⟩,⟨_,_,rfl,⟨_,_,rfl,(bx.Ag (((K.Ad U).Ad O).Ad Z))⟩,⟨_,_,rfl,(bz.Ag (((K.Ad U).Ad O).Ad Z))⟩⟩,⟨_,_,rfl,⟨_,_,rfl,ck⟩,⟨_,_,rfl,(b7.Ag (O.Ad Z))⟩⟩,trivial⟩ bF λcm cO cn co=>zg 2 rfl (BJ 2 cn co rfl λcP bG cp cq=>?_);refine JS.drop 1 cq rfl λcr=>?_;obtain rfl:=oi ci;exact AN func19 rfl rfl (bL (((((((ap.Ad ac).Ad ag).Ad K).Ad U).Ad O).Ad Z).Ad bG) rfl ⟨(AX cm),3,a6,a7,rfl,rfl,cp,(ce.Ag (Z.Ad bG))⟩ cr)
 ·intro bH;refine Cc cg (λct cu=>?_) (λct cv=>?_)
  ·refine JL.region (Bw 0 (bu.Ag ((((ac.Ad ag).Ad K).Ad U).Ad O)) underlying25 Dg Dy ?_);obtain⟨cQ,cw,cy⟩:=bs cu;refine BU (TP (be.Ag (((((ap.Ad ac).Ad ag).Ad K).Ad U).Ad O)) cw) rfl rfl (A3 func68 rfl) bE ?_;rintro _ cz _ cA ⟨cB,cC,rfl,rfl,cD⟩ cE;refine JL.fd underlying25 Dg rfl rfl rfl (Bv 5 cE Dg λcF=>?_);refine JL.done ?_;obtain rfl:=oi cy;exact AA (bH _ _ ⟨cz,cB,cC,rfl,rfl,cA,cF,cD⟩) rfl
  ·refine JL.skip ?_;obtain rfl:=oi cv;exact AA (bH _ _ ⟨bD,bB,bC,rfl,rfl,Ay,bE,(b6.Ag O)⟩) rfl
end Pal
namespace Pal
open Go Go.Conc Go.Proofs
open Go.Proofs.Tryz
end Pal
namespace Pal
open Go Go.Conc Go.Proofs
open Go.Proofs.Tryz
variable {J:Judge Tryz.prog}{E:LH}
def Nh(fu_:Nat)(p0:AQ)(K:(List Int)×Int):Option (Bm ((List Int)×Int) ((List Int))):= if K.2<(p0.2.length:Int) then((ix p0.2 K.2).bind λO=> (ix K.1 O.1).bind λal=> (ix K.1 O.1).bind λU=> (Ax (U - O.2.2)).bind λY=> (ix K.1 O.2.1).bind λZ=> (Ax (Z+O.2.2)).bind λac=> (Ax (K.2+1)).bind λag=> some (.more (((K.1.set (Int.toNat O.1) Y).set (Int.toNat O.2.1) ac),ag))) else(some (.done K.1))
def f89(fu_:Nat)(p0:AQ):Option ((List Int)):= (IE (p0.1.length:Int) (0:Int)).bind λK=> Option.bind (iter (Nh fu_ p0) fu_ (K,0)) λO=> some O
theorem ZW{a1:An}{c2:Nat}{bi:An}{bn:Nat}{p0:AQ}(cy:Al (rL rI) E a1 c2 p0.1)(bD:Al As E bi bn p0.2){fu_:Nat}{r:(List Int)}(bo:f89 fu_ p0=some r):AK J 89 [.agg #[sV a1 p0.1 c2,sV bi p0.2 bn]] E [] (λw E' B'=>∃(bq:An) (br:Nat),w= sV bq r br/\B'= []/\Al rI E' bq br r):=by
 refine Bd func89 λQ cz cs H bE bF=>?_;unfold f89 at bo;refine zg 2 rfl (Cr bE λbu a5 bv a6 bG=>?_);refine zg 4 rfl (Bw 0 a6 underlying25 Dg Dy ?_);refine JL.ln underlying22 rfl rfl rfl ?_;obtain⟨bH,bI,bJ⟩:=bs bo;refine JS.make (pp:=rI) bI rfl rfl rfl rfl rfl underlying28 AB (B8 type3) (by decide) Cg (by decide) rfl bG λbK bL bM bN=>?_;obtain⟨bw,bO,bP⟩:=bs bJ;refine zg 7 rfl (Bq (λL s=>∃(a7:LH) (aq:An) (aw:Nat) (a8:Seg),Jn a5 H a7 [a8] [(3,sV aq bw aw)] L s (OL 3 rI a7 aq aw a8 bw)) ?_ ?_)
 ·rintro _ _ ⟨a7,aq,aw,a8,rfl,rfl,bQ,bR,bS⟩;refine zg 5 rfl (BJ 0 bS bR rfl λcA bT bU bV=>?_);obtain rfl:=oi bP;exact AN func89 rfl rfl (bF ((bv.Ad bQ).Ad bT) rfl ⟨aq,aw,rfl,rfl,bU⟩ bV)
 ·intro bW;refine JL.block (CI bO (λL s Y=>∃(ay:LH) (az:An) (ac:Nat) (a0:Seg),Jn a5 H ay [a0] [(1,Aj bu 0),(3,sV az Y.1 ac),(4,iV Y.2)] L s (OL 3 rI ay az ac a0 Y.1)) ⟨a5,(AX bK),bH.length,bL,rfl,rfl,Ay,bN,bM⟩ ?_);rintro _ _ Y ⟨ay,az,ac,a0,rfl,rfl,ap,bx,bz⟩ bY ⟨cB,a9⟩ bZ;have bA:=a9;unfold Nh at bA;refine zg 4 rfl (Bw 1 (a6.Ag ap) underlying25 Cu Et ?_);refine JL.ln underlying23 rfl rfl rfl (zg 2 rfl ?_);refine AT bA (λb0 b1=>?_) (λb0 b2=>?_)
  ·refine zg 5 rfl (Bw 1 (a6.Ag ap) underlying25 Cu Et ?_);obtain⟨O,b3,b4⟩:=bs b1;refine zg 1 rfl (JS.ix (bD.Ag (bv.Ad ap)) b3 underlying23 AV ?_);rintro cC cD _ ⟨_,_,rfl,rfl,⟨_,_,rfl,rfl,rfl⟩⟩ b5;refine B3 b5 Dm AV rfl rfl (BO bx Bp λU b6=>?_);refine Bv 1 b6 AV λb7=>?_;refine Dr 1 b7 rfl λb8 bB ag bb=>?_;obtain⟨cE,b9,ca⟩:=bs b4;refine JL.done ?_;obtain⟨a2,f82,cb,Z⟩:=WL.of (bz.Ag bB) b9;obtain⟨rfl,rfl⟩:=cb;refine H3 [23,25] [a2] mixed rfl (Br 0 rfl rfl ?_);refine Fj (v:= Aj U 0) 1 true rfl rfl (λρ h s' K=>Gr (a:=⟨U,0,none⟩) 0 0 underlying27 AB rfl rfl rfl (h _ _ rfl)) (KR (v:=iV O.1) 2 rfl (by decide+kernel) rfl rfl rfl (λρ h s' K=>Yl.load A2 (h _ _ rfl) (At.I6 (j:=0) ag K rfl)) ?_);refine Br 3 rfl rfl (Fj (v:= Aj U 1) 4 true rfl rfl (λρ h s' K=>Gr (a:=⟨U,0,none⟩) 0 1 underlying27 AB rfl rfl rfl (h _ _ rfl)) ?_);refine KR (v:=iV O.2.1) 5 rfl (by decide+kernel) rfl rfl rfl (λρ h s' K=>Yl.load A2 (h _ _ rfl) (At.I6 (j:=1) ag K rfl)) (Br 6 rfl rfl ?_);refine Fj (v:= Aj U 0) 7 true rfl rfl (λρ h s' K=>Gr (a:=⟨U,0,none⟩) 0 0 underlying27 AB rfl rfl rfl (h _ _ rfl)) (KR (v:=iV O.1) 8 rfl (by decide+kernel) rfl rfl rfl (λρ h s' K=>Yl.load A2 (h _ _ rfl) (At.I6 (j:=0) ag K rfl)) ?_);obtain⟨cc,a3,cd⟩:=bs ca;obtain⟨_,rfl,ce⟩:=WL.at Z a3;refine JB.ix 9 Z.2 a3 underlying28 AB ?_;refine JB.val (v:=iV cc) 10 false rfl (by decide+kernel) rfl rfl rfl (λρ h s' K=>have K:=K rfl;Yl.load A2 (h _ _ rfl) (Ch 0 bb rfl (by simp [AZ]) K (ce 0 _ rfl))) (Fj (v:= Aj U 2) 11 true rfl rfl (λρ h s' K=>Gr (a:=⟨U,0,none⟩) 0 2 underlying27 AB rfl rfl rfl (h _ _ rfl)) ?_);refine KR (v:=iV O.2.2) 12 rfl (by decide+kernel) rfl rfl rfl (λρ h s' K=>Yl.load A2 (h _ _ rfl) (At.I6 (j:=2) ag K rfl)) ?_;obtain⟨al,cf,cg⟩:=bs cd;refine Fj 13 true rfl rfl (λρ h s' K=>DL (h _ _ rfl) (h _ _ rfl) cf) (Br 14 rfl rfl ?_);refine Fj (v:= Aj U 1) 15 true rfl rfl (λρ h s' K=>Gr (a:=⟨U,0,none⟩) 0 1 underlying27 AB rfl rfl rfl (h _ _ rfl)) (KR (v:=iV O.2.1) 16 rfl (by decide+kernel) rfl rfl rfl (λρ h s' K=>Yl.load A2 (h _ _ rfl) (At.I6 (j:=1) ag K rfl)) ?_);obtain⟨ci,a4,ck⟩:=bs cg;obtain⟨_,rfl,cm⟩:=WL.at Z a4;refine JB.ix 17 Z.2 a4 underlying28 AB ?_;refine JB.val (v:=iV ci) 18 false rfl (by decide+kernel) rfl rfl rfl (λρ h s' K=>have K:=K rfl;Yl.load A2 (h _ _ rfl) (Ch 0 bb rfl (by simp [AZ]) K (cm 0 _ rfl))) (Fj (v:= Aj U 2) 19 true rfl rfl (λρ h s' K=>Gr (a:=⟨U,0,none⟩) 0 2 underlying27 AB rfl rfl rfl (h _ _ rfl)) ?_);refine KR (v:=iV O.2.2) 20 rfl (by decide+kernel) rfl rfl rfl (λρ h s' K=>Yl.load A2 (h _ _ rfl) (At.I6 (j:=2) ag K rfl)) ?_;obtain⟨am,cn,co⟩:=bs ck;refine Fj 21 true rfl rfl (λρ h s' K=>Fq (h _ _ rfl) (h _ _ rfl) cn) (JB.ix 22 Z.2 a3 underlying28 AB ?_);have bC:=WL.put (x':=al) (ws':= [iV al]) Z Z.2 a3 rfl;refine ES 23 0 bb AB bC.2 λcp=>?_;refine JB.ix 24 Z.2 a4 underlying28 AB ?_;have be:=WL.put (x':=am) (ws':= [iV am]) bC.1 Z.2 a4 rfl;refine ES 25 0 cp AB be.2 λcq=>?_;refine JB.fin (by decide+kernel) ?_;have cr:=(be.1).1;have ct:(((Y.1.set (Int.toNat O.1) al).set (Int.toNat O.2.1) am)).length=Y.1.length:=(be.1).2;refine EO (L':= [(1,Aj bu 0),(3,.slice (AX a2) (((Y.1.set (Int.toNat O.1) al).set (Int.toNat O.2.1) am)).length ac),(4,iV Y.2)]) ⟨rfl,by rw [ct];rfl,rfl,trivial⟩ ?_;obtain⟨cu,cv,cw⟩:=bs co;refine zg 3 rfl (Bt cv rfl rfl rfl ?_);refine zg 2 rfl ?_;obtain rfl:=oi cw;exact AA (bZ _ _ (((Y.1.set (Int.toNat O.1) al).set (Int.toNat O.2.1) am),cu) ⟨b8,(AX a2),ac,[(a2,.cells (Be (Be f82 (Int.toNat (O.1)*1) [iV al]) (Int.toNat (O.2.1)*1) [iV am]) 3 (0,0))],rfl,rfl,(ap.Ad bB),cq,cr⟩ a9) rfl
  ·refine JL.exit rfl ?_;obtain rfl:=oi b2;obtain rfl:=bY _ a9;exact AA (bW _ _ ⟨ay,az,ac,a0,rfl,rfl,ap,bx,bz⟩) rfl
end Pal
namespace Pal
open Go Go.Conc Go.Proofs
open Go.Proofs.Tryz
variable {J:Judge Tryz.prog}{E:LH}
end Pal
namespace Pal
open Go Go.Conc
section
variable {P:Program}{J:Judge P}{Q:Gs_}{b:Frame}{n:Nat}{ds:Ld_}{ops:Ao_}{k:Li_}{cs:Lf_}{m fuel:Nat}{D:Nat->Bool}{listed:Array Bool}{L:Env}{s:St}{E E' H:LH}{S:List Seg}
variable {d:Option Tmp}{x y:Operand}{t u ty e:TypeId}{p:String}{af:Ae_}{g:On_}{v:Value}{i:Nat}{kd:IntKind}
end
end Pal
namespace Pal
open Go Go.Conc Go.Proofs
open Go.Proofs.Tryz
variable {J:Judge Tryz.prog}{E:LH}
end Pal
namespace Pal
open Go Go.Conc
section
variable {P:Program}{d:Option Tmp}{x:Operand}{t u ty e:TypeId}{p:String}{af:Ae_}{g:On_}{s:St}{ρ:Operand->Value}
end
end Pal
namespace Pal
open Go Go.Conc Go.Proofs
open Go.Proofs.Tryz
variable {J:Judge Tryz.prog}{E:LH}
end Pal
namespace Pal
open Go Go.Conc Go.Proofs
open Go.Proofs.Tryz
variable {J:Judge Tryz.prog}{E:LH}
def f44(fu_:Nat)(p0:AQ):Option ((List Int)×Int):= (f48 fu_ p0).bind λK=> if K≠0 then(some ([],K)) else((f89 fu_ p0).bind λO=> some (O,0))
theorem aO{a1:An}{c2:Nat}{U:An}{Y:Nat}{p0:AQ}(Z:Al (rL rI) E a1 c2 p0.1)(ac:Al As E U Y p0.2){fu_:Nat}{r:(List Int)×Int}(ag:f44 fu_ p0=some r):AK J 44 [.agg #[sV a1 p0.1 c2,sV U p0.2 Y]] E [] (λw E' B'=>∃(al:An) (am:Nat),w= .tuple #[sV al r.1 am,iV r.2]/\B'= []/\Al rI E' al am r.1):=by
 refine Bd func44 λQ bn cs H ay ap=>?_;unfold f44 at ag;refine zg 2 rfl (Cr ay λbo bq K aq az=>?_);refine zg 6 rfl (B3 aq B2 Bu rfl rfl ?_);obtain⟨br,a0,a2⟩:=bs ag;refine Cn (PM (Z.Ag K) (ac.Ag K) a0) rfl rfl Od az λbu O aw=>zg 7 rfl (AT a2 (λa3 a4=>?_) (λa3 a5=>?_))
 ·refine zg 6 rfl ?_;obtain rfl:=oi a4;exact AN func44 rfl rfl (ap (K.Ad O) rfl ⟨none,0,rfl,rfl,Al.nil⟩ aw)
 ·refine zg 3 rfl (B3 (aq.Ag O) B2 Bu rfl rfl ?_);obtain⟨bv,a6,a7⟩:=bs a5;refine BU (ZW (Z.Ag (K.Ad O)) (ac.Ag (K.Ad O)) a6) rfl rfl (A3 func89 rfl) aw ?_;rintro _ bw _ a8 ⟨a9,bb,rfl,rfl,be⟩ bi;refine zg 3 rfl ?_;obtain rfl:=oi a7;exact AN func44 rfl rfl (ap ((K.Ad O).Ad a8) rfl ⟨a9,bb,rfl,rfl,be⟩ bi)
def Nk(fu_:Nat)(p0:AQ)(U:Aw×Int)(Y:Aw×Int)(K:Int×Int):Option (Bm (Int×Int) Int):= if K.2<(p0.2.length:Int) then((ix p0.2 K.2).bind λO=> Option.bind (if O.1=U.2 then(some (decide (O.2.1=Y.2))) else(some false)) λac=> Option.bind (if ac=true then((Ax (K.1+O.2.2)).bind λag=> some ag) else(some K.1)) λZ=> Option.bind (if O.1=Y.2 then(some (decide (O.2.1=U.2))) else(some false)) λal=> Option.bind (if al=true then((Ax (Z - O.2.2)).bind λam=> some am) else(some Z)) λap=> (Ax (K.2+1)).bind λaq=> some (.more (ap,aq))) else(some (.done K.1))
def Ns(fu_:Nat)(p0:AQ)(O:Aw×Int)(K:Aw×Int):Option (Bm (Aw×Int) (Aw)):= if K.2<(p0.1.length:Int) then(Option.bind (iter (Nk fu_ p0 O K) fu_ (0,0)) λU=> Option.bind (if 0<U then(some (decide (O.2≠K.2))) else(some false)) λY=> Option.bind (if Y=true then((room K.1 (O.2,K.2,U)).bind λZ=> some Z) else(some K.1)) λac=> (Ax (K.2+1)).bind λag=> some (.more (ac,ag))) else(some (.done K.1))
def Nt(fu_:Nat)(p0:AQ)(K:Aw×Int):Option (Bm (Aw×Int) (Aw)):= if K.2<(p0.1.length:Int) then(Option.bind (iter (Ns fu_ p0 K) fu_ (K.1,0)) λO=> (Ax (K.2+1)).bind λU=> some (.more (O,U))) else(some (.done K.1))
def f46(fu_:Nat)(p0:AQ):Option (Aw×Int):= (f48 fu_ p0).bind λK=> if K≠0 then(some ([],K)) else(Option.bind (iter (Nt fu_ p0) fu_ ([],0)) λO=> some (O,0))
theorem ZO{a1:An}{c2:Nat}{bN:An}{bO:Nat}{p0:AQ}(co:Al (rL rI) E a1 c2 p0.1)(bP:Al As E bN bO p0.2){fu_:Nat}{r:Aw×Int}(bQ:f46 fu_ p0=some r):AK J 46 [.agg #[sV a1 p0.1 c2,sV bN p0.2 bO]] E [] (λw E' B'=>∃(bR:An) (bS:Nat),w= .tuple #[sV bR r.1 bS,iV r.2]/\B'= []/\Al As E' bR bS r.1):=by
 refine Bd func46 λQ ep cs H cp bT=>?_;unfold f46 at bQ;refine zg 2 rfl (Cr cp λac er ay az cq=>?_);refine zg 6 rfl (B3 az B2 Bu rfl rfl ?_);obtain⟨et,cr,ct⟩:=bs bQ;refine Cn (PM (co.Ag ay) (bP.Ag ay) cr) rfl rfl Od cq λbx al bU=>zg 7 rfl (AT ct (λcu cv=>?_) (λcu cw=>?_))
 ·refine zg 6 rfl ?_;obtain rfl:=oi cv;exact AN func46 rfl rfl (bT (ay.Ad al) rfl ⟨none,0,rfl,rfl,Al.nil⟩ bU)
 ·obtain⟨bV,cy,cz⟩:=bs cw;refine zg 10 rfl (Bq (λL s=>∃(bz:LH) (a7:An) (a8:Nat) (bA:Seg),Jn bx H bz [bA] [(5,sV a7 bV a8)] L s (OL 27 As bz a7 a8 bA bV)) ?_ ?_)
  ·rintro _ _ ⟨bz,a7,a8,bA,rfl,rfl,cA,cB,cC⟩;refine zg 6 rfl (BJ 0 cC cB rfl λeu cD cE cF=>?_);obtain rfl:=oi cz;exact AN func46 rfl rfl (bT (((ay.Ad al).Ad cA).Ad cD) rfl ⟨a7,a8,rfl,rfl,cE⟩ cF)
  ·intro cG;refine JL.block (CI cy (λL s O=>∃(am:LH) (a0:An) (a2:Nat) (a3:Seg),Jn bx H am [a3] [(1,Aj ac 0),(5,sV a0 O.1 a2),(6,iV O.2)] L s (OL 27 As am a0 a2 a3 O.1)) ⟨bx,none,0,[],rfl,rfl,Ay,bU,OL.nil⟩ ?_);rintro _ _ O ⟨am,a0,a2,a3,rfl,rfl,ap,bW,bY⟩ cH ⟨ew,bB⟩ cI;have bZ:=bB;unfold Nt at bZ;refine zg 4 rfl (Bw 0 (az.Ag (al.Ad ap)) underlying25 Dg Dy ?_);refine JL.ln underlying22 rfl rfl rfl (zg 2 rfl ?_);refine AT bZ (λcJ cK=>?_) (λcJ cM=>?_)
   ·obtain⟨bC,cN,cO⟩:=bs cK;refine zg 7 rfl (Bq (λL s=>∃(a9:LH) (bb:An) (be:Nat) (bi:Seg),Jn am H a9 [bi] [(1,Aj ac 0),(5,sV bb bC be),(6,iV O.2)] L s (OL 27 As a9 bb be bi bC)) ?_ ?_)
    ·rintro _ _ ⟨a9,bb,be,bi,rfl,rfl,cP,cQ,cR⟩;obtain⟨cT,cV,cW⟩:=bs cO;refine zg 3 rfl (Bt cV rfl rfl rfl ?_);refine zg 2 rfl ?_;obtain rfl:=oi cW;exact AA (cI _ _ (bC,cT) ⟨a9,bb,be,bi,rfl,rfl,(ap.Ad cP),cQ,cR⟩ bB) rfl
    ·intro cX;refine JL.block (CI cN (λL s K=>∃(bn:LH) (U:An) (Y:Nat) (Z:Seg),Jn am H bn [Z] [(1,Aj ac 0),(5,sV U K.1 Y),(6,iV O.2),(7,iV K.2)] L s (OL 27 As bn U Y Z K.1)) ⟨am,a0,a2,a3,rfl,rfl,Ay,bW,bY⟩ ?_);rintro _ _ K ⟨bn,U,Y,Z,rfl,rfl,aq,b0,bD⟩ cY ⟨ex,bE⟩ cZ;have b1:=bE;unfold Ns at b1;refine zg 4 rfl (Bw 0 (az.Ag ((al.Ad ap).Ad aq)) underlying25 Dg Dy ?_);refine JL.ln underlying22 rfl rfl rfl (zg 2 rfl ?_);refine AT b1 (λc0 c1=>?_) (λc0 c3=>?_)
     ·obtain⟨bo,c4,c5⟩:=bs c1;refine zg 12 rfl (Ey [Z] [(1,Aj ac 0),(5,sV U K.1 Y),(6,iV O.2),(7,iV K.2),(8,iV bo)] (λbF bG b2=>?_) (λc6=>?_))
      ·obtain⟨c7,c8,c9⟩:=bs c5;refine zg 5 rfl (Gp [] (λL s=>∃(a4:LH),Jm bF H a4 [Z] [(1,Aj ac 0),(5,sV U K.1 Y),(6,iV O.2),(7,iV K.2),(8,iV bo),(76,.bool c7)] L s) ?_ ?_)
       ·rintro _ _ ⟨a4,rfl,rfl,bH,b3⟩;obtain⟨bI,da,db⟩:=bs c9;refine JL.done (Bq (λL s=>∃(bq:LH) (br:An) (bu:Nat) (bv:Seg),Jn a4 H bq [bv] [(1,Aj ac 0),(5,sV br bI bu),(6,iV O.2),(7,iV K.2)] L s (OL 27 As bq br bu bv bI)) ?_ ?_)
        ·rintro _ _ ⟨bq,br,bu,bv,rfl,rfl,dc,dd,de⟩;obtain⟨df,dg,dh⟩:=bs db;refine zg 3 rfl (Bt dg rfl rfl rfl ?_);refine zg 2 rfl ?_;obtain rfl:=oi dh;exact AA (cZ _ _ (bI,df) ⟨bq,br,bu,bv,rfl,rfl,(((aq.Ad bG).Ad bH).Ad dc),dd,de⟩ bE) rfl
        ·intro b4;refine Cc da (λdi dj=>?_) (λdi dk=>?_)
         ·refine zg 5 rfl (Am (v:= .agg #[iV O.2,iV K.2,iV bo]) rfl (λρ h=>C3 [(0,1),(1,1),(2,1)] h Bp underlying27 ⟨rfl,AR type3,rfl,AR type3,rfl,AR type3,trivial⟩ rfl rfl) ?_);obtain⟨ey,dn,dp⟩:=bs dj;refine JS.app (pp:=As) (v:= .agg #[iV O.2,iV K.2,iV bo]) (a:=U) (c:=Y) 0 dn rfl rfl rfl rfl (λ_=>rfl) rfl (λ_=>rfl) rfl rfl rfl underlying23 underlying23 underlying23 AV (B8 type27) Bp rfl (by decide) (by decide) (by decide) (by decide) (bD.Ag (bG.Ad bH)) ⟨_,_,rfl,rfl,⟨_,_,rfl,rfl,rfl⟩⟩ b3 rfl λez dq dr dt du dv=>zg 2 rfl ?_;obtain rfl:=oi dp;exact AA (b4 _ _ ⟨a4,dq,dr,dt,rfl,rfl,Ay,dv,du⟩) rfl
         ·refine JL.skip ?_;obtain rfl:=oi dk;exact AA (b4 _ _ ⟨a4,U,Y,Z,rfl,rfl,Ay,b3,(bD.Ag (bG.Ad bH))⟩) rfl
       ·intro b5;refine GL 72 c8 (λdw dx=>?_) (λdw dy=>?_)
        ·refine zg 4 rfl ?_;obtain rfl:=oi dx;exact AA (b5 _ _ ⟨bF,rfl,rfl,Ay,b2⟩) rfl
        ·refine zg 4 rfl ?_;obtain rfl:=oi dy;exact AA (b5 _ _ ⟨bF,rfl,rfl,Ay,b2⟩) rfl
      ·refine JL.block (Di c4 (λag=> [Z]) (λag=> [(1,Aj ac 0),(5,sV U K.1 Y),(6,iV O.2),(7,iV K.2),(8,iV ag.1),(9,iV ag.2)]) Ay b0 ?_);rintro ag eA a5 b6 dz ⟨eB,bJ⟩ dA;have b7:=bJ;unfold Nk at b7;refine zg 4 rfl (Bw 1 (az.Ag (((al.Ad ap).Ad aq).Ad a5)) underlying25 Cu Et ?_);refine JL.ln underlying23 rfl rfl rfl (zg 2 rfl ?_);refine AT b7 (λdB dC=>?_) (λdB dD=>?_)
       ·refine zg 5 rfl (Bw 1 (az.Ag (((al.Ad ap).Ad aq).Ad a5)) underlying25 Cu Et ?_);obtain⟨eC,dE,dF⟩:=bs dC;refine zg 1 rfl (JS.ix (bP.Ag ((((ay.Ad al).Ad ap).Ad aq).Ad a5)) dE underlying23 AV ?_);rintro eD eE _ ⟨_,_,rfl,rfl,⟨_,_,rfl,rfl,rfl⟩⟩ dG;refine B3 dG Dm AV rfl rfl (BO b6 Bp λbK dH=>?_);refine Bv 1 dH AV λdI=>?_;refine Dr 1 dI rfl λbL dJ aw b8=>zg 4 rfl (Bw 0 aw underlying27 AB A2 ?_);obtain⟨dK,dL,dM⟩:=bs dF;refine zg 3 rfl (Gp [] (λL s=>∃(b9:LH),Jm bL H b9 [Z] [(1,Aj ac 0),(5,sV U K.1 Y),(6,iV O.2),(7,iV K.2),(8,iV ag.1),(9,iV ag.2),(10,Aj bK 0),(51,.bool dK)] L s) ?_ ?_)
        ·rintro _ _ ⟨b9,rfl,rfl,a6,ca⟩;obtain⟨cb,dN,dO⟩:=bs dM;refine JL.done (Ey [Z] [(1,Aj ac 0),(5,sV U K.1 Y),(6,iV O.2),(7,iV K.2),(8,iV cb),(9,iV ag.2),(10,Aj bK 0)] (λbM bw cc=>?_) (λcd=>?_))
         ·refine zg 2 rfl (Bw 0 (aw.Ag (a6.Ad bw)) underlying27 AB A2 ?_);obtain⟨dP,dQ,dR⟩:=bs dO;refine zg 3 rfl (Gp [] (λL s=>∃(ce:LH),Jm bM H ce [Z] [(1,Aj ac 0),(5,sV U K.1 Y),(6,iV O.2),(7,iV K.2),(8,iV cb),(9,iV ag.2),(10,Aj bK 0),(65,.bool dP)] L s) ?_ ?_)
          ·rintro _ _ ⟨ce,rfl,rfl,cf,cg⟩;obtain⟨ci,dS,dT⟩:=bs dR;refine JL.done (Ey [Z] [(1,Aj ac 0),(5,sV U K.1 Y),(6,iV O.2),(7,iV K.2),(8,iV ci),(9,iV ag.2)] (λeF dU dV=>?_) (λck=>?_))
           ·obtain⟨dW,dX,dY⟩:=bs dT;refine zg 3 rfl (Bt dX rfl rfl rfl ?_);refine zg 2 rfl ?_;obtain rfl:=oi dY;exact dA (ci,dW) (((((a5.Ad dJ).Ad a6).Ad bw).Ad cf).Ad dU) dV rfl bJ
           ·refine Cc dS (λdZ ea=>?_) (λdZ eb=>?_)
            ·refine zg 2 rfl (Bw 2 (aw.Ag ((a6.Ad bw).Ad cf)) underlying27 AB A2 ?_);obtain⟨eG,ec,ed⟩:=bs ea;refine Cm ec rfl rfl rfl (zg 2 rfl ?_);obtain rfl:=oi ed;exact ck Ay cg rfl
            ·refine JL.skip ?_;obtain rfl:=oi eb;exact ck Ay cg rfl
          ·intro cm;refine GL 60 dQ (λee ef=>?_) (λee eg=>?_)
           ·refine Bw 1 (aw.Ag (a6.Ad bw)) underlying27 AB A2 ?_;refine zg 3 rfl ?_;obtain rfl:=oi ef;exact AA (cm _ _ ⟨bM,rfl,rfl,Ay,cc⟩) rfl
           ·refine zg 5 rfl ?_;obtain rfl:=oi eg;exact AA (cm _ _ ⟨bM,rfl,rfl,Ay,cc⟩) rfl
         ·refine Cc dN (λeh ei=>?_) (λeh ej=>?_)
          ·refine zg 2 rfl (Bw 2 (aw.Ag a6) underlying27 AB A2 ?_);obtain⟨eH,ek,el⟩:=bs ei;refine Bt ek rfl rfl rfl (zg 2 rfl ?_);obtain rfl:=oi el;exact cd Ay ca rfl
          ·refine JL.skip ?_;obtain rfl:=oi ej;exact cd Ay ca rfl
        ·intro cn;refine GL 46 dL (λem en=>?_) (λem eo=>?_)
         ·refine Bw 1 aw underlying27 AB A2 ?_;refine zg 3 rfl ?_;obtain rfl:=oi en;exact AA (cn _ _ ⟨bL,rfl,rfl,Ay,b8⟩) rfl
         ·refine zg 5 rfl ?_;obtain rfl:=oi eo;exact AA (cn _ _ ⟨bL,rfl,rfl,Ay,b8⟩) rfl
       ·refine JL.exit rfl ?_;obtain rfl:=oi dD;obtain rfl:=dz _ bJ;exact c6 a5 b6 rfl
     ·refine JL.exit rfl ?_;obtain rfl:=oi c3;obtain rfl:=cY _ bE;exact AA (cX _ _ ⟨bn,U,Y,Z,rfl,rfl,aq,b0,bD⟩) rfl
   ·refine JL.exit rfl ?_;obtain rfl:=oi cM;obtain rfl:=cH _ bB;exact AA (cG _ _ ⟨am,a0,a2,a3,rfl,rfl,ap,bW,bY⟩) rfl
end Pal
namespace Pal
open Go Go.Conc
section
variable {κ ν:Type} [DecidableEq κ]
theorem Ly(x:κ)(u v:ν):∀xs:List (κ×ν),Bo (Bo xs x u) x v=Bo xs x v
 | []=>by simp [Bo]
 | y::ys=>by
  by_cases e:x=y.1
  ·rw [show Bo (y::ys) x u=(x,u)::ys by simp only [Bo,if_pos e],show Bo (y::ys) x v=(x,v)::ys by simp only [Bo,if_pos e]]
   simp [Bo]
  ·rw [show Bo (y::ys) x u=y::Bo ys x u by simp only [Bo,if_neg e],show Bo (y::ys) x v=y::Bo ys x v by simp only [Bo,if_neg e],show Bo (y::Bo ys x u) x v=y::Bo (Bo ys x u) x v by simp only [Bo,if_neg e],Ly x u v ys]
theorem Rc{x:κ}{v:ν}:∀{xs:List (κ×ν)},Bh xs x=some v->Bo xs x v=xs
 | [],h=>by cases h
 | y::ys,h=>by
  by_cases e:x=y.1
  ·have:y.2=v:=by unfold Bh at h;rw [List.find?_cons_of_pos (by simpa using e)] at h;exact Option.some.inj h
   rw [show Bo (y::ys) x v=(x,v)::ys by simp only [Bo,if_pos e],e,← this]
  ·rw [show Bo (y::ys) x v=y::Bo ys x v by simp only [Bo,if_neg e],Rc];unfold Bh at h ⊢;rwa [List.find?_cons_of_neg (by simpa using e)] at h
theorem KB(x y:κ)(v:ν):∀xs:List (κ×ν),Bh (Bo xs x v) y=if y=x then some v else Bh xs y
 | []=>by
  unfold Bo Bh
  by_cases h:y=x
  ·rw [if_pos h];simp [h]
  ·rw [if_neg h];simp [h]
 | z::U=>by
  have Y:=KB x y v U;unfold Bo;by_cases h:x=z.1
  ·rw [if_pos h];by_cases K:y=x
   ·rw [if_pos K];unfold Bh;simp [K]
   ·rw [if_neg K];unfold Bh;rw [List.find?_cons_of_neg (by simpa using K),List.find?_cons_of_neg (by simpa using λe=>K (e.trans h.symm))]
  ·rw [if_neg h];by_cases O:y=z.1
   ·rw [if_neg (λe=>h (e.symm.trans O))];unfold Bh;simp [O]
   ·have:Bh (z::Bo U x v) y=Bh (Bo U x v) y:=by unfold Bh;rw [List.find?_cons_of_neg (by simpa using O)]
    rw [this,Y];by_cases K:y=x
    ·rw [if_pos K,if_pos K]
    ·rw [if_neg K,if_neg K];unfold Bh;rw [List.find?_cons_of_neg (by simpa using O)]
open Classical in
noncomputable def LL{α K:Type}(m:List α)(f:List α->Option K):Option K:=if m.length<=1000/\∀l,l.Perm m->f l=f m then f m else none
theorem QT{α K:Type}{m:List α}{f:List α->Option K}{r:K}(h:LL m f=some r):m.length<=1000/\∀l,l.Perm m->f l=some r:=by
 unfold LL at h;split at h
 ·rename_i O;exact⟨O.1,λl p=>(O.2 l p).trans h⟩
 ·cases h
theorem VB{α K:Type}{m:List α}{f:List α->Option K}{r:Option K}(O:m.length<=1000)(h:∀l,l.Perm m->f l=r):LL m f=r:=by
 unfold LL;rw [if_pos ⟨O,λl p=>(h l p).trans (h m (.refl _)).symm⟩];exact h m (.refl _)
def EU(m:List ((Int×Int)×Int)):List (Int×Int×Int):=(m.filter λe=>decide (0<e.2)).map λe=>(e.1.1,e.1.2,e.2)
theorem Xs(m:List ((Int×Int)×Int)):(EU m).length<=m.length:=by
 unfold EU;rw [List.length_map];exact List.length_filter_le _ _
theorem W5{m:List ((Int×Int)×Int)}{e:(Int×Int)×Int}(h:0<e.2):EU (m++ [e])=EU m++ [(e.1.1,e.1.2,e.2)]:=by
 unfold EU;rw [List.filter_append,List.map_append];simp only [List.filter_cons,List.filter_nil,h,decide_true,if_true,List.map_cons,List.map_nil]
theorem Rl{m:List ((Int×Int)×Int)}{e:(Int×Int)×Int}(h:¬0<e.2):EU (m++ [e])=EU m:=by
 unfold EU;rw [List.filter_append,List.map_append];simp only [List.filter_cons,List.filter_nil,h,decide_false,Bool.false_eq_true,if_false,List.map_nil,List.append_nil]
theorem VR{m:List ((Int×Int)×Int)}{e:(Int×Int)×Int}(h:0<e.2)(K:m.length<=1000):room (EU m) (e.1.1,e.1.2,e.2)=some (EU (m++ [e])):=by
 unfold room;rw [if_pos (by have:=Xs m;omega),W5 h]
variable {pk:Rp κ}{pv:Rp ν}{ka va:Bool}{E E' H:LH}
theorem R8{x:κ}{k w:Value}{v:ν}{c:Nat}:∀{es:List MapEntry} {ys:List (κ×ν)} {i:Nat},C8 pk ka pv va E es ys->Ee x es ys i=none->Ee x (es++ [{key:=k,val:=w,born:=c}]) (Bo ys x v) i=some (i+es.length,w)
 | [],[],i,_,_=>by simp [Ee,Bo]
 | e::es,y::ys,i,h,K=>by
  unfold Ee at K
  by_cases O:x=y.1
  ·rw [if_pos O] at K;cases K
  ·rw [if_neg O] at K;have U:=R8 (k:=k) (w:=w) (v:=v) (c:=c) h.2.2 K;unfold Bo;rw [if_neg O];show Ee x (e::(es++_)) (y::Bo ys x v) i=_;unfold Ee;rw [if_neg O,U,List.length_cons];congr 2;omega
 | [],_::_,_,h,_=>h.elim
 | _::_,[],_,h,_=>h.elim
theorem PH{x:κ}:∀{es:List MapEntry} {ys:List (κ×ν)} {i j:Nat} {u:Value},C8 pk ka pv va E es ys->Ee x es ys i=some (i+j,u)->∃e v,es[j]? =some e/\e.val=u/\ys[j]? =some (x,v)/\Bh ys x=some v
 | [],[],i,j,u,_,h=>by cases h
 | e::es,y::ys,i,j,u,h,hh=>by
  unfold Ee at hh
  by_cases K:x=y.1
  ·rw [if_pos K] at hh
   have O:=Option.some.inj hh;have Y:j=0:=by have:=congrArg Prod.fst O;simp at this;omega
   subst Y;have Z:e.val=u:=congrArg Prod.snd O;exact⟨e,y.2,rfl,Z,by rw [K];rfl,by unfold Bh;rw [List.find?_cons_of_pos (by simpa using K)];rfl⟩
  ·rw [if_neg K] at hh;rcases j with _ | j
   ·have:∀{es:List MapEntry} {ys:List (κ×ν)} {i m:Nat} {u:Value},Ee x es ys i=some (m,u)->i<=m:=by
     intro es
     induction es with
     | nil=>intro ys i m u h;cases ys <;> cases h
     | cons e es ac=>
      intro ys i m u h;cases ys with
      | nil=>cases h
      | cons y ys=>
       unfold Ee at h;split at h
       ·have:=congrArg Prod.fst (Option.some.inj h);simp at this;omega
       ·have:=ac h;omega
    have:=this hh;omega
   ·obtain⟨ag,v,a1,al,am,U⟩:=PH (i:=i+1) (j:=j) h.2.2 (by rw [hh];congr 2;omega);exact⟨ag,v,a1,al,am,by unfold Bh at U ⊢;rw [List.find?_cons_of_neg (by simpa using K)];exact U⟩
 | [],_::_,_,_,_,h,_=>h.elim
 | _::_,[],_,_,_,h,_=>h.elim
def La(pk:Rp κ)(ka:Bool)(pv:Rp ν)(va:Bool)(E:LH)(o:Obj)(xs:List (κ×ν))(x:κ)(st:Nat):Prop:=
 KN xs/\∃ys,ys.Perm xs/\∃es clock,o= .map es clock/\C8 pk ka pv va E es.toList ys/\(es.toList.map (·.born)).Pairwise (·<·)/\(∀e∈es.toList,e.born<clock)/\
  ∃j u e,Ee x es.toList ys 0=some (j,u)/\es.toList[j]? =some e/\e.born=st
theorem La.map{o:Obj}{xs:List (κ×ν)}{x:κ}{st:Nat}(h:La pk ka pv va E o xs x st):Bx pk ka pv va E o xs:=
 let ⟨K,ys,O,es,c,U,Y,Z,ac,_⟩:=h;⟨K,ys,O,es,c,U,Y,Z,ac⟩
variable {P:Program}{s:St}{t tm te:TypeId}{X:Halt->St->Prop}{bk:Nat}{o:Obj}{xs:List (κ×ν)}{k w:Value}{x:κ}{v0:ν}
theorem UF(Z:FK P t pk ka)(hm:P.underlying tm=some (.map t te)){z:Value}{z0:ν}(aw:zeroOf P te=some z)(ay:Vr pv va E z z0)(az:s.get bk=some o)(al:s.H bk=some o)(a0:Bx pk ka pv va E o xs)(U:Vr pk ka E k x){Q:Value->St->Prop}
  (h:∀o' w st,La pk ka pv va E o' (Bo xs x ((Bh xs x).getD z0)) x st->Q (.tuple #[w,goInt st]) (s.upd bk o')):lp P (Instr.mapEntry tm (.map (some bk)) k) s Q X:=by
 obtain⟨Y,ys,ac,es,c,rfl,O,am,ag⟩:=a0;unfold Instr.mapEntry;refine Au _ _ (Co hm ?_);unfold getObj;simp only [bind,Sem.bind,lp];refine⟨_,az,rfl,?_⟩;refine Au (x:=Instr.checkKey false 10000 t k) _ (Z.BL U ?_);refine Au (x:=Instr.findKey t k es.toList) _ (Mq Z U O ?_);rw [← OA Y ac x] at h;rcases O6 (x:=x) (i:=0) O with⟨K,e2⟩ | ⟨j,w,v0,K,e2,a2⟩
 ·rw [K];simp only;rw [e2] at h;refine Au (x:=zeroValue te) _ (G2 aw ?_);have a3:=(C8.put U ay c (i:=0) O).resolve_right (by rintro⟨j,u,a1,_⟩;rw [K] at a1;cases a1);refine Au _ _ ?_;simp only [setObj,lp,pure];refine⟨⟨_,al,rfl⟩,rfl,h _ _ c ⟨Y.put _ _,_,Mt Y ac _ _,es.push {key:=k,val:=z,born:=c},c+1,rfl,by simpa using a3.2,?_,?_,es.toList.length,z,{key:=k,val:=z,born:=c},?_,by simp,rfl⟩⟩
  ·rw [Array.toList_push,List.map_append,List.pairwise_append];refine⟨am,by simp,λa a4 b hb=>?_⟩;simp at hb;subst hb;obtain⟨e,he,rfl⟩:=List.mem_map.1 a4;exact ag e he
  ·intro e he;rw [Array.toList_push] at he;rcases List.mem_append.1 he with he | he
   ·have:=ag e he;omega
   ·simp at he;subst he;simp
  ·rw [Array.toList_push,R8 O K,Nat.zero_add]
 ·rw [K];rw [e2] at h;obtain⟨e,v,a1,be,bi,bn⟩:=PH (i:=0) (j:=j) O (by rw [K,Nat.zero_add]);obtain⟨a5,u,ap,bo,a6,bq⟩:=(C8.put U a2 c (i:=0) O).resolve_left (by rintro⟨a1,_⟩;rw [K] at a1;cases a1);obtain rfl:j=a5:=by rw [K] at ap;have:=congrArg Prod.fst (Option.some.inj ap);simp at this;omega
  have a7:es[j]? =some e:=by simpa using a1
  have aq:e.key=k:=Z.uniq (a6 _ a1) U;simp only [a7,Option.map_some,Option.getD_some,aq];refine Au (x:=Instr.keyThatStays k k) _ ?_;unfold Instr.keyThatStays;rw [if_pos (Z.same U)];have a8:(es.modify j λe=>{e with key:=k})=es:=by
   apply Array.ext';rw [Array.toList_modify];apply List.ext_getElem?;intro q;rw [List.getElem?_modify];split
   ·rename_i a9;subst a9;rw [a1,← aq];rfl
   ·simp
  simp only [lp,pure,setObj];rw [a8];have bb:ys.Perm (Bo xs x v0):=by
   have:=Mt Y ac x v0
   rwa [Rc e2] at this
  refine⟨⟨_,al,rfl⟩,rfl,h _ _ e.born ⟨Y.put _ _,ys,bb,es,c,rfl,O,am,ag,j,w,e,by rw [K],a1,rfl⟩⟩
theorem Qr:∀{l:List MapEntry} {j:Nat} {e:MapEntry},(l.map (·.born)).Pairwise (·<·)->l[j]? =some e->l.findIdx? (λy=>((y.born:Nat):Int)==((e.born:Nat):Int))=some j
 | [],_,_,_,h=>by cases h
 | a::l,0,e,_,h=>by
  cases h
  rw [List.findIdx?_cons,if_pos (by simp)]
 | a::l,j+1,e,K,h=>by
  rw [List.map_cons,List.pairwise_cons] at K
  have O:l[j]? =some e:=by simpa using h
  have:=K.1 e.born (List.mem_map.2 ⟨e,List.mem_of_getElem? O,rfl⟩);rw [List.findIdx?_cons,if_neg (by simp;omega),Qr K.2 O]
  rfl
theorem Uq{st:Nat}(ap:s.get bk=some o)(aq:s.H bk=some o)(aw:La pk ka pv va E o xs x st)(hw:Vr pv va E w v0){Q:Unit->St->Prop}
  (h:∀o',Bx pk ka pv va E o' (Bo xs x v0)->Q () (s.upd bk o')):lp P (Instr.entryStore tm (.map (some bk)) (goInt st) w) s Q X:=by
 obtain⟨ac,ys,ay,es,c,rfl,U,ag,al,j,u,e,Y,O,rfl⟩:=aw;unfold Instr.entryStore;unfold getObj;simp only [bind,Sem.bind,lp];refine⟨_,ap,rfl,?_⟩;have bb:es[j]? =some e:=by simpa using O
 have az:es.findIdx? (λy=>((y.born:Nat):Int)==((e.born:Nat):Int))=some j:=by
  rw [← Qr ag O];cases es;simp
 obtain⟨K,v',a1,be,a0,bi⟩:=PH (i:=0) (j:=j) U (by rw [Y,Nat.zero_add]);have a2:K=e:=by rw [O] at a1;exact(Option.some.inj a1).symm
 subst a2;have a3:Vr pk ka E K.key x:=by
  have a4:(K,((x,v'):κ×ν))∈es.toList.zip ys:=by
   have a5:(es.toList.zip ys)[j]? =some (K,(x,v')):=by rw [List.getElem?_zip_eq_some];exact⟨O,a0⟩
   exact List.mem_of_getElem? a5
  exact(U.zip a4).1
 obtain⟨a6,bn,am,bo,bq,a7⟩:=(C8.put a3 hw c (i:=0) U).resolve_left (by rintro⟨a1,_⟩;rw [Y] at a1;cases a1);obtain rfl:j=a6:=by rw [Y] at am;have:=congrArg Prod.fst (Option.some.inj am);simp at this;omega
 have a8:(es.modify j λe=>{e with val:=w}).toList=es.toList.modify j λe=>{e with key:=K.key,val:=w}:=by
  rw [Array.toList_modify];apply List.ext_getElem?;intro q;rw [List.getElem?_modify,List.getElem?_modify];split
  ·rename_i Z;subst Z;rw [O];rfl
  ·rfl
 simp only [goInt,asInt,asIntOf,pure];refine Au _ _ ?_;show lp P (match Array.findIdx? (λy=>((y.born:Nat):Int)==((K.born:Nat):Int)) es with
  | some i=>setObj bk (Obj.map (es.modify i λe=>{key:=e.key,val:=w,born:=e.born}) c)
  | none=>unsupported (Unsupported.noEntry "instr/MapEntry.the entry is gone")) s Q X
 rw [az];simp only [setObj,lp];refine⟨⟨_,aq,rfl⟩,rfl,h _ ⟨ac.put _ _,_,Mt ac ay _ _,_,c,rfl,by rw [a8];exact a7,?_,?_⟩⟩
 ·have:(es.modify j λe=>{e with val:=w}).toList.map (·.born)=es.toList.map (·.born):=by
   rw [Array.toList_modify];apply List.ext_getElem?;intro q;simp only [List.getElem?_map,List.getElem?_modify];split <;> cases es.toList[q]? <;> rfl
  rw [this];exact ag
 ·intro e he;rw [Array.toList_modify] at he;obtain⟨q,Z,rfl⟩:=List.mem_iff_getElem.1 he;rw [List.getElem_modify];have a9:q<es.toList.length:=by simpa using Z
  split
  ·show(es.toList[q]'a9).born<c;exact al _ (List.getElem_mem _)
  ·exact al _ (List.getElem_mem _)
end
section
variable {κ ν:Type} [DecidableEq κ] {pk:Rp κ}{pv:Rp ν}{ka va:Bool}{E H:LH}
variable {P:Program}{J:Judge P}{Q:Gs_}{b:Frame}{n:Nat}{ds:Ld_}{ops:Ao_}{kk:Li_}{cs:Lf_}{L:Env}{s:St}{S:List Seg}{m fuel:Nat}{listed:Array Bool}
variable {d:Option Tmp}{x y z:Operand}{t u ty e tm te:TypeId}{p:String}{af:Ae_}{g:On_}{i:Nat}{rest:List Nat}{bk:Nat}{o:Obj}{xs:List (κ×ν)}{k w zv:Value}{x0:κ}{v0 z0:ν}
theorem Take.MX(j:Nat)(O:FK P t pk ka)(hm:P.underlying tm=some (.map t te))(U:zeroOf P te=some zv)(Y:Vr pv va E zv z0)(Z:Bx pk ka pv va E o xs)(ac:Vr pk ka E k x0)(ag:Ap E H S)(al:S[j]? =some [(bk,o)])
  (am:ops[i]? =some ⟨d,.lookup tm x y false,ty,p,af,g⟩) (hw:AL L ops ⟨d,.lookup tm x y false,ty,p,af,g⟩=some true) (ap:Bf n d=true) (aq:ev L x=some (.map (some bk))) (aw:ev L y=some k)
  (h:∀w,Vr pv va E w ((Bh xs x0).getD z0)->AJ J Q b n ds ops kk cs m CB fuel (A8 listed i) (Av L d w) (Ak E H S)):
  Take J Q b n ds ops kk cs m CB fuel listed L (Ak E H S) i:=
 Take.Jd am (by simp [Dw,ap]) hw λρ K=>by
  show lp P (do pure (Next.value (← Instr.lookup tm (ρ x) (ρ y) false))) _ _ _
  rw [K _ _ aq,K _ _ aw]
  refine Au _ _ (Qz O hm U Y (Dx (i:=0) ag al rfl) Z ac false λw hw=>?_)
  exact h w hw
theorem Take.Mz(j:Nat)(Y:FK P t pk ka)(hm:P.underlying tm=some (.map t te))(Z:zeroOf P te=some zv)(ac:Vr pv va E zv z0)(ag:Bx pk ka pv va E o xs)(al:Vr pk ka E k x0)(K:Ap E H S)(O:S[j]? =some [(bk,o)])
  (am:ops[i]? =some ⟨d,.mapEntry tm x y,ty,p,af,g⟩) (hw:AL L ops ⟨d,.mapEntry tm x y,ty,p,af,g⟩=some true) (ap:Bf n d=true) (aq:ev L x=some (.map (some bk))) (aw:ev L y=some k)
  (h:∀o' w st,La pk ka pv va E o' (Bo xs x0 ((Bh xs x0).getD z0)) x0 st->Ap E H (S.set j [(bk,o')])->AJ J Q b n ds ops kk cs m CB fuel (A8 listed i) (Av L d (.tuple #[w,goInt st])) (Ak E H (S.set j [(bk,o')]))):
  Take J Q b n ds ops kk cs m CB fuel listed L (Ak E H S) i:=
 Take.Jd am (by simp [Dw,ap]) hw λρ U=>by
  show lp P (do pure (Next.value (← Instr.mapEntry tm (ρ x) (ρ y)))) _ _ _
  rw [U _ _ aq,U _ _ aw]
  refine Au _ _ (UF Y hm Z ac (Dx (i:=0) K O rfl) (IK K O) ag al λo' w st ay=>?_)
  obtain⟨az,a0⟩:=I0 K O o'
  rw [az]
  exact h o' w st ay a0
theorem JS.entryStore{st:Nat}(j:Nat)(Y:La pk ka pv va E o xs x0 st)(Z:Vr pv va E w v0)(K:Ap E H S)(O:S[j]? =some [(bk,o)])
  (ac:ops[i]? =some ⟨d,.entryStore tm x y z,ty,p,af,g⟩) (hw:AL L ops ⟨d,.entryStore tm x y z,ty,p,af,g⟩=some true) (ag:BL b n ⟨d,.entryStore tm x y z,ty,p,af,g⟩=true) (al:ev L x=some (.map (some bk))) (am:ev L y=some (goInt st)) (ap:ev L z=some w)
  (h:∀o',Bx pk ka pv va E o' (Bo xs x0 v0)->Ap E H (S.set j [(bk,o')])->JL J Q b n (Av L d undef) ds (.inRegion ops rest::kk) cs (Ak E H (S.set j [(bk,o')]))):
  JL J Q b n L ds (.inRegion ops (i::rest)::kk) cs (Ak E H S):=
 JL.op ac hw ag λρ U=>by
  show lp P (do Instr.entryStore tm (ρ x) (ρ y) (ρ z);pure Next.skip) _ _ _
  rw [U _ _ al,U _ _ am,U _ _ ap]
  refine Au _ _ (Uq (Dx (i:=0) K O rfl) (IK K O) Y Z λo' aq=>?_)
  obtain⟨aw,ay⟩:=I0 K O o'
  rw [aw]
  exact h o' aq ay
end
end Pal
namespace Pal
open Go Go.Conc
section
variable {P:Program}{J:Judge P}{Q:Gs_}{b:Frame}{n:Nat}{L:Env}{ds:Ld_}{cs:Lf_}{E H:LH}{S:List Seg}
theorem Sp{todo:Li_}{S':List Seg}(O:S=S'++ [[]])(K:Ap E H S)(h:Ap E H S'->JL J Q b n L ds todo cs (Ak E H S')):JL J Q b n L ds todo cs (Ak E H S):=by
 subst O;have e:(S'++ [([]:Seg)]).flatten=S'.flatten:=by rw [GD,List.append_nil]
 have e2:Ak E H (S'++ [[]])=Ak E H S':=by show mk E H _=mk E H _;rw [e]
 rw [e2];exact h (by unfold Ap at K ⊢;rwa [e] at K)
end
end Pal
namespace Pal
open Go Go.Conc Go.Proofs
open Go.Proofs.Tryz
variable {J:Judge Tryz.prog}{E:LH}
def LG(fu_:Nat)(U:AQ×Int)(O:(List ((Int×Int)×Int))×Int):Option (Bm ((List ((Int×Int)×Int))×Int) ((List ((Int×Int)×Int)))):= if O.2<(U.1.2.length:Int) then((ix U.1.2 O.2).bind λK=> (Ax (((Bh O.1 (K.1,K.2.1)).getD 0)+K.2.2)).bind λY=> (Ax (((Bh (Bo O.1 (K.1,K.2.1) Y) (K.2.1,K.1)).getD 0) - K.2.2)).bind λZ=> (Ax (O.2+1)).bind λac=> some (.more ((Bo (Bo O.1 (K.1,K.2.1) Y) (K.2.1,K.1) Z),ac))) else(some (.done O.1))
noncomputable def f45(fu_:Nat)(p0:AQ):Option (Aw×Int):=
 (f70 fu_ p0 ([])).bind λK=>
 if K.2≠0 then(
  some ([],K.2)
 ) else(
  Option.bind (iter (LG fu_ K) fu_ (([]:List ((Int×Int)×Int)),0)) λO=>
  LL O λU=>
  (f90 fu_ (EU U)).bind λY=>
  some (Y,0)
 )
theorem Z3{a1:An}{c2:Nat}{bV:An}{bW:Nat}{p0:AQ}(cc:Al (rL rI) E a1 c2 p0.1)(cd:Al As E bV bW p0.2){fu_:Nat}{r:Aw×Int}(bY:f45 fu_ p0=some r):AK J 45 [.agg #[sV a1 p0.1 c2,sV bV p0.2 bW]] E [] (λw E' B'=>∃(bZ:An) (b0:Nat),w= .tuple #[sV bZ r.1 b0,iV r.2]/\B'= []/\Al As E' bZ b0 r.1):=by
 refine Nu func45 rfl rfl λQ du cs H a6 a9=>?_;unfold f45 at bY;refine zg 2 rfl (Cr a6 λdv dw bb ce a7=>?_);refine zg 5 rfl (B3 ce B2 Bu rfl rfl ?_);obtain⟨a4,cf,cg⟩:=bs bY;refine BU (Ke (cc.Ag bb) (cd.Ag bb) Al.nil cf) rfl rfl J0 a7 ?_;rintro _ dx _ b1 ⟨dy,dz,bC,bD,rfl,rfl,dA,ci⟩ ck;refine zg 3 rfl (BO ck Ho λdB cm=>?_);refine Bv 3 cm DX λcn=>?_;refine Dr 3 cn rfl λbE bF co b2=>zg 8 rfl (AT cg (λcp cq=>?_) (λcp cr=>?_))
 ·refine zg 6 rfl ?_;obtain rfl:=oi cq;exact AN func45 rfl rfl (a9 _ _ _ _ ((bb.Ad b1).Ad bF) rfl ⟨none,0,rfl,rfl,Al.nil⟩ b2)
 ·refine zg 3 rfl (JS.makeMap rfl rfl rfl b2 λY ct=>?_);refine zg 5 rfl (JL.fd underlying77 Bu rfl rfl rfl ?_);refine Bw 1 co underlying25 Cu Et ?_;refine JL.ln underlying23 rfl rfl rfl ?_;obtain⟨bG,cu,b3⟩:=bs cr;refine zg 2 rfl (Bq (λL s=>∃(bH:LH) (be:Obj),Jn bE H bH [[(Y,be)]] [(6,.map (some Y))] L s (Bx Du true rI false bH be bG)) ?_ ?_)
  ·rintro _ _ ⟨bH,be,rfl,rfl,cv,cw,cy⟩;refine zg 6 rfl (Mx 0 cw rfl λaq b4 cz cA=>?_);have cB:Bx Du true rI false aq be bG:=(cy.Ag b4);obtain⟨cC,b5,bI,cD,ap,cE,cF,b6,cG⟩:=cB;have bi:=cz;rw [cE] at bi;refine zg 2 rfl (JS.range underlying110 (Iv bi) rfl rfl rfl cA rfl λaw cH=>?_);refine JL.done (OE cH λcI=>?_);have dC:=(QT b3).1;refine Bq (λL s=>∃(bn:List ((Int×Int)×Int)) (bJ:An) (bK:Nat) (bo:Seg),bn.Perm bG/\L= [(9,.slice bJ (EU bn).length bK)]/\s=Ak aq H [[],[],bo]/\Ap aq H [[],[],bo]/\OL 27 As aq bJ bK bo (EU bn)) ?_ ?_
   rotate_left
   ·intro ay;refine JL.block (Ep [(9,.slice none 0 0),(55,Aj aw 0)] rfl ?_);refine JL.loop (λ(q:Array Nat×List ((Int×Int)×Int)×Option Addr×Nat×Seg)=>Hw cD b5 q.1 q.2.1/\OL 27 As aq q.2.2.1 q.2.2.2.1 q.2.2.2.2 (EU q.2.1)/\Ap aq H [[],[(aw,.mapIter (some Y) ap q.1 ap)],q.2.2.2.2]) (λq=>b5.length - q.2.1.length) (λq=> [(9,.slice q.2.2.1 (EU q.2.1).length q.2.2.2.1),(55,Aj aw 0)]) (λq=>Ak aq H [[],[(aw,.mapIter (some Y) ap q.1 ap)],q.2.2.2.2]) (#[],[],none,0,[]) ⟨Hw.nil,OL.nil,cI⟩ rfl rfl ?_;rintro⟨seen,done,a,c,g⟩ ⟨ag,bq,a6⟩ again;simp only at ag bq a6 again ⊢;have dD:=ag.len;have dE:=bI.length_eq;refine zg 2 rfl (OS 1 cF b6 cG (cC.perm bI) ag (Iv bi) a6 rfl rfl rfl rfl rfl (λe U a9 cJ dF dG he bL b7=>?_) (λhd=>?_))
    ·obtain⟨_,⟨_,_,rfl,rfl,rfl⟩,cK⟩:=a9;obtain⟨_,rfl,ev⟩:=cJ;have cM:=bL.len;simp only [List.length_append,List.length_singleton] at cM;refine zg 8 rfl (JS.entry 1 (Iv bi) he b6 b7 rfl rfl rfl rfl rfl ?_);refine Am (v:= .agg #[iV U.1.1,iV U.1.2]) rfl (λρ h=>Yl.extract (h _ _ rfl) (congrArg some cK)) (Am (v:=iV U.2) rfl (λρ h=>Yl.extract (h _ _ rfl) (congrArg some ev)) ?_);refine BO b7 Hm λdH bM=>?_;refine Bv 3 bM FB λbr=>?_;refine zg 7 rfl (FX (p:=0<U.2) rfl (λbu=>?_) (λbu=>?_))
     ·refine JL.region (zg 1 rfl ?_);refine JL.fd underlying101 AB rfl rfl rfl (Am (v:=iV U.1.1) rfl (λρ h=>Yl.load A2 (h _ _ rfl) (BR (j:=3) (off:=0) br rfl rfl)) ?_);refine JL.fd underlying101 AB rfl rfl rfl (Am (v:=iV U.1.2) rfl (λρ h=>Yl.load A2 (h _ _ rfl) (BR (j:=3) (off:=1) br rfl rfl)) ?_);refine zg 1 rfl (Am (v:= .agg #[iV U.1.1,iV U.1.2,iV U.2]) rfl (λρ h=>C3 [(0,1),(1,1),(2,1)] h Bp underlying27 ⟨rfl,AR type3,rfl,AR type3,rfl,AR type3,trivial⟩ rfl rfl) ?_);refine JS.app (pp:=As) (v:= .agg #[iV U.1.1,iV U.1.2,iV U.2]) (a:=a) (c:=c) 2 (VR bu (by omega)) rfl rfl rfl rfl (λ_=>rfl) rfl (λ_=>rfl) rfl rfl rfl underlying80 underlying80 underlying80 AV (B8 type27) Bp rfl (by decide) (by decide) (by decide) (by decide) bq ⟨_,_,rfl,rfl,⟨_,_,rfl,rfl,rfl⟩⟩ br rfl λw cN c2 g2 cO cP=>zg 3 rfl (JS.drop 3 cP rfl λa7=>?_);exact Sp (S':= [[],[(aw,.mapIter (some Y) ap (seen.push e.born) ap)],g2]) rfl a7 λbN=>AA (again (seen.push e.born,done++ [U],cN,c2,g2) ⟨bL,cO,bN⟩ (by simp only [List.length_append,List.length_singleton];omega)) rfl
     ·refine JL.skip (Lo ?_);refine JS.drop 3 br rfl λa7=>Sp (S':= [[],[(aw,.mapIter (some Y) ap (seen.push e.born) ap)],g]) rfl a7 λbN=>EO (L':= [(9,.slice a (EU (done++ [U])).length c),(55,Aj aw 0)]) ⟨by rw [Rl bu];rfl,rfl,trivial⟩ ?_;exact again (seen.push e.born,done++ [U],a,c,g) ⟨bL,by rw [Rl bu];exact bq,bN⟩ (by simp only [List.length_append,List.length_singleton];omega)
    ·refine Am (v:= .bool false) rfl (λρ h=>Yl.extract (h _ _ rfl) rfl) (zg 4 rfl ?_);exact JS.drop 1 a6 rfl λbM=>AA (ay _ _ ⟨done,a,c,g,hd.trans bI,rfl,rfl,bM,bq⟩) rfl
   rintro _ _ ⟨bn,bJ,bK,bo,cQ,rfl,rfl,cR,cT⟩;have cV:=(QT b3).2 _ cQ;refine zg 3 rfl (BJ 2 cT cR rfl λdI cW cX cY=>?_);obtain⟨dJ,cZ,c0⟩:=bs cV;refine BU (TE cX cZ) rfl rfl (A3 func90 rfl) cY ?_;rintro _ dK _ c1 ⟨c3,c4,rfl,rfl,c5⟩ c6;refine zg 3 rfl ?_;obtain rfl:=oi c0;exact AN func45 rfl rfl (a9 _ _ _ _ ((((((bb.Ad b1).Ad bF).Ad cv).Ad b4).Ad cW).Ad c1) rfl ⟨c3,c4,rfl,rfl,c5⟩ c6)
  ·intro c7;refine JL.block (CI cu (λL s Z=>∃(bv:LH) (bw:Obj),Jn bE H bv [[(Y,bw)]] [(6,.map (some Y)),(23,sV bC a4.1.2 bD),(24,iV (a4.1.2.length:Int)),(25,iV Z.2)] L s (Bx Du true rI false bv bw Z.1)) ⟨bE,(.map #[] 0),rfl,rfl,Ay,ct,Bx.nil⟩ ?_);rintro _ _ Z ⟨bv,bw,rfl,rfl,bO,b8,bx⟩ c8 ⟨dL,bP⟩ c9;have b9:=bP;unfold LG at b9;refine zg 5 rfl (AT b9 (λda db=>?_) (λda dc=>?_))
   ·obtain⟨K,dd,de⟩:=bs db;refine zg 5 rfl (JS.ix (ci.Ag (bF.Ad bO)) dd underlying23 AV ?_);rintro dM dN _ ⟨_,_,rfl,rfl,⟨_,_,rfl,rfl,rfl⟩⟩ df;refine B3 df Dm AV rfl rfl (BO b8 Bp λdg dh=>?_);refine Bv 1 dh AV λdi=>?_;refine Dr 1 di rfl λaz bz a5 bQ=>?_;obtain⟨a0,ca,dj⟩:=bs de;refine zg 2 rfl (Bq (λL s=>∃(bA:Obj),L= [(6,.map (some Y)),(23,sV bC a4.1.2 bD),(24,iV (a4.1.2.length:Int)),(25,iV Z.2),(8,Aj dg 0)]/\s=Ak az H [[(Y,bA)],[]]/\Ap az H [[(Y,bA)],[]]/\Bx Du true rI false az bA (Bo Z.1 (K.1,K.2.1) a0)) ?_ ?_)
    rotate_left
    ·intro ay;refine Ei 12 λO=>Cs 0 O rfl rfl (JG.fd 1 O underlying27 AB rfl rfl rfl rfl ?_);refine Dj 2 O 0 a5 A2 rfl rfl rfl rfl (JG.fd 3 O underlying27 AB rfl rfl rfl rfl ?_);refine Dj 4 O 1 a5 A2 rfl rfl rfl rfl (AP (v:= .agg #[iV K.1,iV K.2.1]) 5 O rfl rfl (λρ h s' ag=>C3 [(0,1),(1,1)] h Hm underlying101 ⟨rfl,AR type3,rfl,AR type3,trivial⟩ rfl rfl) ?_);refine JG.fd 7 O underlying27 AB rfl rfl rfl rfl (Dj 8 O 2 a5 A2 rfl rfl rfl rfl ?_);refine EH (i:=6) (j:=10) rfl (by decide+kernel) ?_ ?_
     ·refine Take.MX (z0:=(0:Int)) (x0:=(K.1,K.2.1)) 0 H6 underlying110 Cg ⟨_,rfl,rfl⟩ (bx.Ag bz) ⟨_,⟨_,_,rfl,rfl,rfl⟩,rfl⟩ bQ rfl rfl rfl rfl rfl rfl λw hw=>?_;obtain rfl:w=iV ((Bh Z.1 (K.1,K.2.1)).getD 0):=by obtain⟨_,rfl,rfl⟩:=hw;rfl
      refine AP 9 O rfl rfl (λρ h s' ag=>Fq (h _ _ rfl) (h _ _ rfl) ca) (JG.one (i:=10) rfl (by decide+kernel) ?_);refine Take.Mz (z0:=(0:Int)) (x0:=(K.1,K.2.1)) 0 H6 underlying110 Cg ⟨_,rfl,rfl⟩ (bx.Ag bz) ⟨_,⟨_,_,rfl,rfl,rfl⟩,rfl⟩ bQ rfl rfl rfl rfl rfl rfl λbR w1 bS al am=>Cs 11 O rfl rfl (Ck [12] ?_);refine JS.entryStore (v0:=a0) (x0:=(K.1,K.2.1)) 0 al ⟨_,rfl,rfl⟩ am rfl rfl rfl rfl rfl rfl rfl λa2 ac a3=>JL.done ?_;rw [Ly] at ac;exact AA (ay _ _ ⟨a2,rfl,rfl,a3,ac⟩) rfl
     ·refine Take.Mz (z0:=(0:Int)) (x0:=(K.1,K.2.1)) 0 H6 underlying110 Cg ⟨_,rfl,rfl⟩ (bx.Ag bz) ⟨_,⟨_,_,rfl,rfl,rfl⟩,rfl⟩ bQ rfl rfl rfl rfl rfl rfl λbR w1 bS al am=>Cs 11 O rfl rfl (JG.one (i:=6) rfl (by decide+kernel) ?_);refine Take.MX (z0:=(0:Int)) (x0:=(K.1,K.2.1)) 0 H6 underlying110 Cg ⟨_,rfl,rfl⟩ al.map ⟨_,⟨_,_,rfl,rfl,rfl⟩,rfl⟩ am rfl rfl rfl rfl rfl rfl λw hw=>?_;obtain rfl:w=iV ((Bh Z.1 (K.1,K.2.1)).getD 0):=by
       obtain⟨_,rfl,rfl⟩:=hw;show iV _=iV _;rw [KB,if_pos rfl]
       rfl
      refine AP 9 O rfl rfl (λρ h s' ag=>Fq (h _ _ rfl) (h _ _ rfl) ca) (Ck [12] ?_);refine JS.entryStore (v0:=a0) (x0:=(K.1,K.2.1)) 0 al ⟨_,rfl,rfl⟩ am rfl rfl rfl rfl rfl rfl rfl λa2 ac a3=>JL.done ?_;rw [Ly] at ac;exact AA (ay _ _ ⟨a2,rfl,rfl,a3,ac⟩) rfl
    rintro _ _ ⟨bA,rfl,rfl,bT,bU⟩;obtain⟨bB,cb,dk⟩:=bs dj;refine Bq (λL s=>∃(a8:Obj),L= [(6,.map (some Y)),(23,sV bC a4.1.2 bD),(24,iV (a4.1.2.length:Int)),(25,iV Z.2)]/\s=Ak az H [[(Y,a8)],[]]/\Ap az H [[(Y,a8)],[]]/\Bx Du true rI false az a8 (Bo (Bo Z.1 (K.1,K.2.1) a0) (K.2.1,K.1) bB)) ?_ ?_
    rotate_left
    ·intro ay;refine Ei 12 λO=>Cs 0 O rfl rfl (JG.fd 1 O underlying27 AB rfl rfl rfl rfl ?_);refine Dj 2 O 1 a5 A2 rfl rfl rfl rfl (JG.fd 3 O underlying27 AB rfl rfl rfl rfl ?_);refine Dj 4 O 0 a5 A2 rfl rfl rfl rfl (AP (v:= .agg #[iV K.2.1,iV K.1]) 5 O rfl rfl (λρ h s' ag=>C3 [(0,1),(1,1)] h Hm underlying101 ⟨rfl,AR type3,rfl,AR type3,trivial⟩ rfl rfl) ?_);refine JG.fd 7 O underlying27 AB rfl rfl rfl rfl (Dj 8 O 2 a5 A2 rfl rfl rfl rfl ?_);refine EH (i:=6) (j:=10) rfl (by decide+kernel) ?_ ?_
     ·refine Take.MX (z0:=(0:Int)) (x0:=(K.2.1,K.1)) 0 H6 underlying110 Cg ⟨_,rfl,rfl⟩ bU ⟨_,⟨_,_,rfl,rfl,rfl⟩,rfl⟩ bT rfl rfl rfl rfl rfl rfl λw hw=>?_;obtain rfl:w=iV ((Bh (Bo Z.1 (K.1,K.2.1) a0) (K.2.1,K.1)).getD 0):=by obtain⟨_,rfl,rfl⟩:=hw;rfl
      refine AP 9 O rfl rfl (λρ h s' ag=>DL (h _ _ rfl) (h _ _ rfl) cb) (JG.one (i:=10) rfl (by decide+kernel) ?_);refine Take.Mz (z0:=(0:Int)) (x0:=(K.2.1,K.1)) 0 H6 underlying110 Cg ⟨_,rfl,rfl⟩ bU ⟨_,⟨_,_,rfl,rfl,rfl⟩,rfl⟩ bT rfl rfl rfl rfl rfl rfl λbR w1 bS al am=>Cs 11 O rfl rfl (Ck [12] ?_);refine JS.entryStore (v0:=bB) (x0:=(K.2.1,K.1)) 0 al ⟨_,rfl,rfl⟩ am rfl rfl rfl rfl rfl rfl rfl λa2 ac a3=>JL.done ?_;rw [Ly] at ac;exact AA (ay _ _ ⟨a2,rfl,rfl,a3,ac⟩) rfl
     ·refine Take.Mz (z0:=(0:Int)) (x0:=(K.2.1,K.1)) 0 H6 underlying110 Cg ⟨_,rfl,rfl⟩ bU ⟨_,⟨_,_,rfl,rfl,rfl⟩,rfl⟩ bT rfl rfl rfl rfl rfl rfl λbR w1 bS al am=>Cs 11 O rfl rfl (JG.one (i:=6) rfl (by decide+kernel) ?_);refine Take.MX (z0:=(0:Int)) (x0:=(K.2.1,K.1)) 0 H6 underlying110 Cg ⟨_,rfl,rfl⟩ al.map ⟨_,⟨_,_,rfl,rfl,rfl⟩,rfl⟩ am rfl rfl rfl rfl rfl rfl λw hw=>?_;obtain rfl:w=iV ((Bh (Bo Z.1 (K.1,K.2.1) a0) (K.2.1,K.1)).getD 0):=by
       obtain⟨_,rfl,rfl⟩:=hw;show iV _=iV _;rw [KB,if_pos rfl]
       rfl
      refine AP 9 O rfl rfl (λρ h s' ag=>DL (h _ _ rfl) (h _ _ rfl) cb) (Ck [12] ?_);refine JS.entryStore (v0:=bB) (x0:=(K.2.1,K.1)) 0 al ⟨_,rfl,rfl⟩ am rfl rfl rfl rfl rfl rfl rfl λa2 ac a3=>JL.done ?_;rw [Ly] at ac;exact AA (ay _ _ ⟨a2,rfl,rfl,a3,ac⟩) rfl
    rintro _ _ ⟨a8,rfl,rfl,dn,dp⟩;obtain⟨dq,dr,dt⟩:=bs dk;refine zg 2 rfl (Bt dr rfl rfl rfl ?_);refine zg 2 rfl ?_;obtain rfl:=oi dt;exact AA (c9 _ _ ((Bo (Bo Z.1 (K.1,K.2.1) a0) (K.2.1,K.1) bB),dq) ⟨az,a8,rfl,rfl,(bO.Ad bz),dn,dp⟩ bP) rfl
   ·refine JL.exit rfl ?_;obtain rfl:=oi dc;obtain rfl:=c8 _ bP;exact AA (c7 _ _ ⟨bv,bw,rfl,rfl,bO,b8,bx⟩) rfl
end Pal
namespace Pal
open Go Go.Conc Go.Proofs
open Go.Proofs.Tryz
noncomputable def NN(fu_:Nat)(O:(List AQ)×(Cw))(K:Int):Option (Bm (Int) ((Bool)⊕(Unit))):=
 if K<((O.1).length:Int) then(
  (ix O.1 (K)).bind λal=>
  (f21 fu_ al).bind λU=>
  (f43 fu_ U).bind λY=>
  (ix O.1 (K)).bind λam=>
  (f44 fu_ am).bind λZ=>
  (f45 fu_ U).bind λac=>
  (ix O.1 (K)).bind λap=>
  (f46 fu_ ap).bind λag=>
  (ix O.1 (K)).bind λaq=>
  (f47 fu_ U).bind λaw=>
  (f48 fu_ aq).bind λay=>
  Option.bind (
   if aw≠ay then(
    some true
   ) else(
    some (decide (Y.2≠Z.2))
   )
  ) λaz=>
  Option.bind (
   if az=true then(
    some true
   ) else(
    some (decide (ac.2≠ag.2))
   )
  ) λa0=>
  Option.bind (
   if a0=true then(
    some true
   ) else(
    (f29 fu_ Y.1 Z.1).bind λa1=>
    some (!a1)
   )
  ) λa2=>
  Option.bind (
   if a2=true then(
    some true
   ) else(
    (f26 fu_ ac.1 ag.1).bind λa3=>
    some (!a3)
   )
  ) λa4=>
  Option.bind (
   if a4=true then(
    some true
   ) else(
    (ix O.1 (K)).bind λa5=>
    (f30 fu_ U a5).bind λa6=>
    some (!a6)
   )
  ) λa7=>
  if a7=true then(
   some (.done (Sum.inl false))
  ) else(
   (Ax (K+1)).bind λa8=>
   some (.more a8)
  )
 ) else(
  some (.done (Sum.inr ()))
 )
noncomputable def f9(fu_:Nat)(p0:AQ)(K:Int×Int×Int)(p2:List Int):Option (Bool):=
 (f17 fu_ p0).bind λO=>
 if O=true then(
  (f18 fu_).bind λU=>
  some U
 ) else(
  (f20 fu_ p2).bind λY=>
  (f19 fu_ p0 K Y).bind λZ=>
  Option.bind (iter (NN fu_ Z) fu_ 0) λac=>
  Sum.elim (λr=>some r) (λal=>
  (f18 fu_).bind λag=>
  some ag
  ) ac
 )
theorem ZE{E H:LH}{a1:An}{c2:Nat}{bO:An}{bP:Nat}{bB:An}{bC:Nat}{p0:AQ}{a9:Int×Int×Int}{p2:List Int}(bQ:Al (rL rI) E a1 c2 p0.1)(bR:Al As E bO bP p0.2)(cy:Al rI E bB bC p2){fu_:Nat}{r:Bool}(bS:f9 fu_ p0 a9 p2=some r):(GI Tryz.prog).ok (LC Tryz.prog (λv _=>v= .bool r)) (G (Frame.enter Tryz.prog 9 ([.agg #[sV a1 p0.1 c2,sV bO p0.2 bP],.agg #[iV a9.1,iV a9.2.1,iV a9.2.2],sV bB p2 bC]:Lv_).toArray .normal) []) (mk E H []):=by
 refine VX func9 rfl rfl (Nat.le_of_ble_eq_true rfl) ?_;have cz:Ap E H [[]]:=trivial;unfold f9 at bS;refine zg 2 rfl (Cr cz λfa fb a2 bT cA=>?_);refine Cr cA λfc fe ap cB cC=>?_;refine zg 5 rfl (B3 (bT.Ag ap) B2 Bu rfl rfl ?_);obtain⟨ff,cD,cE⟩:=bs bS;refine Cn (ZZ (bQ.Ag (a2.Ad ap)) (bR.Ag (a2.Ad ap)) cD) rfl rfl (A3 func17 rfl) cC λfg a3 bU=>JL.done (Cc cE (λcF cG=>?_) (λcF cH=>?_))
 ·obtain⟨cI,cJ,cK⟩:=bs cG;refine zg 2 rfl (Cn (TS cJ) rfl rfl (A3 func18 rfl) bU λfh fj fk=>?_);refine zg 2 rfl ?_;obtain rfl:=oi cK;exact HX rfl (JO.end (v:= .bool cI) rfl (by decide+kernel) func9 rfl rfl rfl)
 ·refine zg 2 rfl (Ei 4 λK=>?_);refine Gq 0 K (bT.Ag (ap.Ad a3)) B2 Bu rfl rfl rfl (Gq 1 K (cB.Ag a3) Dm AV rfl rfl rfl ?_);refine Cs 2 K rfl rfl ?_;obtain⟨fl,cM,cN⟩:=bs cH;refine JG.call (i:=3) (vs:= [sV bB p2 bC]) (Z1 (cy.Ag ((a2.Ad ap).Ad a3)) cM) (by decide+kernel) rfl rfl rfl (A3 func20 rfl) rfl bU ?_;rintro _ fm _ bV ⟨fo,fp,fq,rfl,rfl,cO⟩ cP;refine Ck [4,5] ?_;obtain⟨ay,cQ,cR⟩:=bs cN;refine Cv 4 (aC (bQ.Ag (((a2.Ad ap).Ad a3).Ad bV)) (bR.Ag (((a2.Ad ap).Ad a3).Ad bV)) cO cQ) rfl rfl (A3 func19 rfl) cP rfl ?_;rintro _ cT _ fs ⟨az,a0,fu,fv,rfl,rfl,a4,fw⟩ cV;obtain⟨bW,cW,bY⟩:=bs cR;refine zg 7 rfl (Bq (λL s=>∃(bZ:Unit) (b0:LH),bW=Sum.inr bZ/\Jm cT H b0 [] [] L s) ?_ ?_)
  ·rintro _ _ ⟨bZ,b0,rfl,rfl,rfl,fx,cX⟩;have cY:=elim_inr bY;obtain⟨cZ,c0,c1⟩:=bs cY;refine zg 2 rfl (Cn (TS c0) rfl rfl (A3 func18 rfl) cX λfy fz fA=>?_);refine zg 2 rfl ?_;obtain rfl:=oi c1;exact HX rfl (JO.end (v:= .bool cZ) rfl (by decide+kernel) func9 rfl rfl rfl)
  ·intro c3;refine JL.block (JS.drop 4 cV rfl λc4=>?_);refine Di cW (λam=> []) (λam=> [(7,sV az ay.1 a0),(8,iV am)]) Ay c4 ?_;rintro am c5 aq b1 b2 ⟨fB,bb⟩ c6;have b3:=bb;unfold NN at b3;refine zg 5 rfl (JL.ln underlying31 rfl rfl rfl ?_);refine zg 2 rfl (AT b3 (λc7 c8=>?_) (λc7 c9=>?_))
   ·obtain⟨fC,da,db⟩:=bs c8;refine zg 7 rfl (JS.ix (a4.Ag aq) da underlying31 Bu ?_);rintro fD fE _ ⟨_,_,rfl,⟨fF,fG,rfl,dc⟩,⟨fH,fI,rfl,dd⟩⟩ de;refine B3 de B2 Bu rfl rfl ?_;obtain⟨be,df,dg⟩:=bs db;refine BU (aA dc dd df) rfl rfl (A3 func21 rfl) b1 ?_;rintro _ fJ _ a5 ⟨b4,b5,b6,b7,rfl,rfl,bi,bn⟩ dh;refine BO dh GB λbo di=>?_;refine Bv 1 di Bu λdj=>?_;refine Dr 1 dj rfl λfK Y bq dk=>zg 3 rfl (B3 bq B2 Bu rfl rfl ?_);obtain⟨bD,dn,dp⟩:=bs dg;refine BU (T1 (bi.Ag Y) (bn.Ag Y) dn) rfl rfl (A3 func43 rfl) dk ?_;rintro _ fL _ O ⟨bE,bF,rfl,rfl,dq⟩ dr;obtain⟨fM,dt,du⟩:=bs dp;refine zg 10 rfl (JS.ix (a4.Ag (((aq.Ad a5).Ad Y).Ad O)) dt underlying31 Bu ?_);rintro fN fO _ ⟨_,_,rfl,⟨fP,fQ,rfl,dv⟩,⟨fR,fS,rfl,dw⟩⟩ dx;refine B3 dx B2 Bu rfl rfl ?_;obtain⟨bG,dy,dz⟩:=bs du;refine BU (aO dv dw dy) rfl rfl (A3 func44 rfl) dr ?_;rintro _ fT _ U ⟨bH,bI,rfl,rfl,dA⟩ dB;refine zg 8 rfl (B3 (bq.Ag (O.Ad U)) B2 Bu rfl rfl ?_);obtain⟨a6,dC,dD⟩:=bs dz;refine BU (Z3 (bi.Ag ((Y.Ad O).Ad U)) (bn.Ag ((Y.Ad O).Ad U)) dC) rfl rfl (A3 func45 rfl) dB ?_;rintro _ fU _ Z ⟨br,bu,rfl,rfl,dE⟩ dF;obtain⟨fW,dG,dH⟩:=bs dD;refine zg 10 rfl (JS.ix (a4.Ag (((((aq.Ad a5).Ad Y).Ad O).Ad U).Ad Z)) dG underlying31 Bu ?_);rintro fX fY _ ⟨_,_,rfl,⟨fZ,ga,rfl,dI⟩,⟨gb,gc,rfl,dJ⟩⟩ dK;refine B3 dK B2 Bu rfl rfl ?_;obtain⟨a7,dL,dM⟩:=bs dH;refine BU (ZO dI dJ dL) rfl rfl (A3 func46 rfl) dF ?_;rintro _ gd _ ac ⟨bv,bw,rfl,rfl,dN⟩ dO;refine zg 7 rfl (Ei 39 λK=>?_);refine Gq 0 K (bq.Ag (((O.Ad U).Ad Z).Ad ac)) B2 Bu rfl rfl rfl (A6 K rfl [2,3] rfl ?_);obtain⟨b8,dP,dQ⟩:=bs dM;refine ER 4 (a4.Ag ((((((aq.Ad a5).Ad Y).Ad O).Ad U).Ad Z).Ad ac)) dP K underlying31 Bu ?_;rintro ge gf _ ⟨_,_,rfl,⟨dR,dS,rfl,dT⟩,⟨dU,dV,rfl,dW⟩⟩ dX;refine Gq 5 K dX B2 Bu rfl rfl rfl ?_;obtain⟨dY,dZ,ea⟩:=bs dQ;refine JG.call (i:=1) (vs:= [.agg #[sV b4 be.1 b5,sV b6 be.2 b7]]) (TF (bi.Ag ((((Y.Ad O).Ad U).Ad Z).Ad ac)) (bn.Ag ((((Y.Ad O).Ad U).Ad Z).Ad ac)) dZ) (by decide+kernel) rfl rfl rfl (A3 func47 rfl) rfl dO ?_;rintro _ gg _ ag ⟨rfl,rfl⟩ eb;obtain⟨ec,ed,ee⟩:=bs ea;refine JG.call (i:=6) (vs:= [.agg #[sV dR b8.1 dS,sV dU b8.2 dV]]) (PM (dT.Ag ag) (dW.Ag ag) ed) (by decide+kernel) rfl rfl rfl Od rfl eb ?_;rintro _ bx _ al ⟨rfl,rfl⟩ b9;refine A6 K rfl [7,8] rfl ?_;obtain⟨ca,cb,ef⟩:=bs ee;refine Fc 26 #[true,true,true,true,true,true,true,true,true,true,true,true,true,false,false,false,false,false,false,false,false,false,false,false,false,false,false,false,false,false,false,false,false,false,false,false,false,false,false] (λL s=>L= [(7,sV az ay.1 a0),(8,iV am),(9,Aj bo 0),(10,sV bE bD.1 bF),(12,sV bH bG.1 bI),(14,sV br a6.1 bu),(15,iV a6.2),(16,sV bv a7.1 bw),(17,iV a7.2),(75,.bool ca)]/\s=Ak bx H [[],[],[],[],[],[],[],[]]) ?_ ?_
    ·rintro _ _ ⟨rfl,rfl⟩;refine Cs 13 K rfl rfl ?_;obtain⟨cc,cd,eg⟩:=bs ef;refine Fc 21 #[true,true,true,true,true,true,true,true,true,true,true,true,true,true,true,true,true,true,false,false,false,false,false,false,false,false,false,false,false,false,false,false,false,false,false,false,false,false,false] (λL s=>L= [(7,sV az ay.1 a0),(8,iV am),(9,Aj bo 0),(10,sV bE bD.1 bF),(12,sV bH bG.1 bI),(14,sV br a6.1 bu),(16,sV bv a7.1 bw),(80,.bool cc)]/\s=Ak bx H [[],[],[],[],[],[],[],[]]) ?_ ?_
     ·rintro _ _ ⟨rfl,rfl⟩;refine Cs 18 K rfl rfl ?_;obtain⟨ce,cf,eh⟩:=bs eg;refine Fc 15 #[true,true,true,true,true,true,true,true,true,true,true,true,true,true,true,true,true,true,true,true,true,true,true,true,false,false,false,false,false,false,false,false,false,false,false,false,false,false,false] (λL s=>∃(bz:LH),Jm bx H bz [] [(7,sV az ay.1 a0),(8,iV am),(9,Aj bo 0),(14,sV br a6.1 bu),(16,sV bv a7.1 bw),(86,.bool ce)] L s) ?_ ?_
      ·rintro _ _ ⟨bz,rfl,rfl,aw,cg⟩;refine Cs 24 K rfl rfl ?_;obtain⟨ci,ck,ei⟩:=bs eh;refine Fc 9 #[true,true,true,true,true,true,true,true,true,true,true,true,true,true,true,true,true,true,true,true,true,true,true,true,true,true,true,true,true,true,false,false,false,false,false,false,false,false,false] (λL s=>∃(bA:LH),Jm bz H bA [] [(7,sV az ay.1 a0),(8,iV am),(9,Aj bo 0),(92,.bool ci)] L s) ?_ ?_
       ·rintro _ _ ⟨bA,rfl,rfl,a8,cm⟩;refine Cs 30 K rfl rfl ?_;obtain⟨ej,cn,ek⟩:=bs ei;refine Fc 0 #[true,true,true,true,true,true,true,true,true,true,true,true,true,true,true,true,true,true,true,true,true,true,true,true,true,true,true,true,true,true,true,true,true,true,true,true,true,true,true] (λL s=>∃(co:LH),Jm bA H co [] [(7,sV az ay.1 a0),(8,iV am),(101,.bool ej)] L s) ?_ ?_
        ·rintro _ _ ⟨co,rfl,rfl,el,em⟩;refine AJ.fin (by decide+kernel) (Cc ek (λen eo=>?_) (λen ep=>?_))
         ·refine zg 4 rfl ?_;obtain rfl:=oi eo;obtain rfl:=b2 _ bb;have er:=elim_inl bY;obtain rfl:=oi er;exact HX rfl (JO.end (v:= .bool false) rfl (by decide+kernel) func9 rfl rfl rfl)
         ·obtain⟨et,eu,ew⟩:=bs ep;refine zg 4 rfl (Bt eu rfl rfl rfl ?_);refine zg 2 rfl ?_;obtain rfl:=oi ew;exact c6 et (((((((((((aq.Ad a5).Ad Y).Ad O).Ad U).Ad Z).Ad ac).Ad ag).Ad al).Ad aw).Ad a8).Ad el) em rfl bb
        ·intro cp;refine Ms (c:=ci) (i:=93) rfl (λbJ=>?_) (λbJ=>?_)
         ·have ex:=ip cn bJ;refine A6 K rfl [31,32,33,34,35,36,37,38] rfl ?_;obtain rfl:=oi ex;refine CX ?_ (cp _ _ ⟨bA,rfl,rfl,Ay,cm⟩);exact⟨rfl,rfl,rfl,trivial⟩
         ·have ey:=ib cn bJ;refine Gq 31 K (bq.Ag (((((((O.Ad U).Ad Z).Ad ac).Ad ag).Ad al).Ad aw).Ad a8)) B2 Bu rfl rfl rfl ?_;refine A6 K rfl [32,33] rfl ?_;obtain⟨cq,ez,eA⟩:=bs ey;refine ER 34 (a4.Ag ((((((((((aq.Ad a5).Ad Y).Ad O).Ad U).Ad Z).Ad ac).Ad ag).Ad al).Ad aw).Ad a8)) ez K underlying31 Bu ?_;rintro gh gi _ ⟨_,_,rfl,⟨eB,eC,rfl,eD⟩,⟨eE,eF,rfl,eG⟩⟩ eH;refine Gq 35 K eH B2 Bu rfl rfl rfl ?_;obtain⟨eI,eJ,eK⟩:=bs eA;refine JG.call (i:=36) (vs:= [.agg #[sV b4 be.1 b5,sV b6 be.2 b7],.agg #[sV eB cq.1 eC,sV eE cq.2 eF]]) (ZU (bi.Ag ((((((((Y.Ad O).Ad U).Ad Z).Ad ac).Ad ag).Ad al).Ad aw).Ad a8)) (bn.Ag ((((((((Y.Ad O).Ad U).Ad Z).Ad ac).Ad ag).Ad al).Ad aw).Ad a8)) eD eG eJ) (by decide+kernel) rfl rfl rfl (A3 func30 rfl) rfl cm ?_;rintro _ eL _ eM ⟨rfl,rfl⟩ eN;refine AP (v:= .bool (!eI)) 37 K rfl rfl (λρ h s' cr=>Yl.not (h _ _ rfl)) ?_;refine Cs 38 K rfl rfl ?_;obtain rfl:=oi eK;refine CX ?_ (cp _ _ ⟨eL,rfl,rfl,eM,eN⟩);exact⟨rfl,rfl,rfl,trivial⟩
       ·intro ct;refine Ms (c:=ce) (i:=87) rfl (λbK=>?_) (λbK=>?_)
        ·have eO:=ip ck bK;refine A6 K rfl [25,26,27,28,29] rfl ?_;obtain rfl:=oi eO;refine CX ?_ (ct _ _ ⟨bz,rfl,rfl,Ay,cg⟩);exact⟨rfl,rfl,rfl,rfl,trivial⟩
        ·have eP:=ib ck bK;refine A6 K rfl [25,26] rfl ?_;obtain⟨eQ,eR,eS⟩:=bs eP;refine JG.call (i:=27) (vs:= [sV br a6.1 bu,sV bv a7.1 bw]) (NL (dE.Ag (((ac.Ad ag).Ad al).Ad aw)) (dN.Ag ((ag.Ad al).Ad aw)) eR) (by decide+kernel) rfl rfl rfl Mg rfl cg ?_;rintro _ eT _ eU ⟨rfl,rfl⟩ eV;refine AP (v:= .bool (!eQ)) 28 K rfl rfl (λρ h s' cr=>Yl.not (h _ _ rfl)) ?_;refine Cs 29 K rfl rfl ?_;obtain rfl:=oi eS;refine CX ?_ (ct _ _ ⟨eT,rfl,rfl,eU,eV⟩);exact⟨rfl,rfl,rfl,rfl,trivial⟩
      ·intro cu;refine Ms (c:=cc) (i:=81) rfl (λbL=>?_) (λbL=>?_)
       ·have eW:=ip cf bL;refine A6 K rfl [19,20,21,22,23] rfl ?_;obtain rfl:=oi eW;refine CX ?_ (cu _ _ ⟨bx,rfl,rfl,Ay,b9⟩);exact⟨rfl,rfl,rfl,rfl,rfl,rfl,trivial⟩
       ·have eX:=ib cf bL;refine A6 K rfl [19,20] rfl ?_;obtain⟨eY,eZ,e0⟩:=bs eX;refine JG.call (i:=21) (vs:= [sV bE bD.1 bF,sV bH bG.1 bI]) (K3 (dq.Ag ((((U.Ad Z).Ad ac).Ad ag).Ad al)) (dA.Ag (((Z.Ad ac).Ad ag).Ad al)) eZ) (by decide+kernel) rfl rfl rfl Ky rfl b9 ?_;rintro _ e1 _ e3 ⟨rfl,rfl⟩ e4;refine AP (v:= .bool (!eY)) 22 K rfl rfl (λρ h s' cr=>Yl.not (h _ _ rfl)) ?_;refine Cs 23 K rfl rfl ?_;obtain rfl:=oi e0;refine CX ?_ (cu _ _ ⟨e1,rfl,rfl,e3,e4⟩);exact⟨rfl,rfl,rfl,rfl,rfl,rfl,trivial⟩
     ·intro cv;refine Ms (c:=ca) (i:=76) rfl (λbM=>?_) (λbM=>?_)
      ·have e5:=ip cd bM;refine A6 K rfl [14,15,16,17] rfl ?_;obtain rfl:=oi e5;refine CX ?_ (cv _ _ ⟨rfl,rfl⟩);exact⟨rfl,rfl,rfl,rfl,rfl,rfl,rfl,rfl,trivial⟩
      ·have e6:=ib cd bM;refine A6 K rfl [14,15,16,17] rfl ?_;obtain rfl:=oi e6;refine CX ?_ (cv _ _ ⟨rfl,rfl⟩);exact⟨rfl,rfl,rfl,rfl,rfl,rfl,rfl,rfl,trivial⟩
    ·intro cw;refine GC (q:=dY≠ec) (i:=71) rfl (λbN=>?_) (λbN=>?_)
     ·have e7:=ip cb bN;refine A6 K rfl [9,10,11,12] rfl ?_;obtain rfl:=oi e7;refine CX ?_ (cw _ _ ⟨rfl,rfl⟩);exact⟨rfl,rfl,rfl,rfl,rfl,rfl,rfl,rfl,rfl,rfl,trivial⟩
     ·have e8:=im cb bN;refine A6 K rfl [9,10,11,12] rfl ?_;obtain rfl:=oi e8;refine CX ?_ (cw _ _ ⟨rfl,rfl⟩);exact⟨rfl,rfl,rfl,rfl,rfl,rfl,rfl,rfl,rfl,rfl,trivial⟩
   ·refine JL.exit rfl ?_;obtain rfl:=oi c9;have e9:bW=(Sum.inr ()):=(b2 _ bb).symm;exact AA (c3 _ _ ⟨(),c5,e9,rfl,rfl,aq,b1⟩) rfl
end Pal
set_option autoImplicit false
open Go
namespace Pal
end Pal
namespace Pal
open Go Go.Conc Go.Proofs
open Go.Proofs.Tryz
variable {J:Judge Tryz.prog}{E:LH}
end Pal
namespace Pal
open Go Go.Conc Go.Proofs
open Go.Proofs.Tryz
variable {J:Judge Tryz.prog}{E:LH}
end Pal
namespace Pal
def BQ{α:Type}(o:Option α)(Q:α->Prop):Prop:=∃a,o=some a/\Q a
section
variable {α β:Type}{Q R:α->Prop}
theorem AS{a:α}(h:Q a):BQ (some a) Q:=⟨a,rfl,h⟩
theorem BQ.Ag{o:Option α}(h:BQ o R)(k:∀a,R a->Q a):BQ o Q:=let ⟨a,K,O⟩:=h;⟨a,K,k a O⟩
theorem BH{o:Option β}{f:β->Option α}{S:β->Prop}(h:BQ o S)(k:∀b,S b->BQ (f b) Q):BQ (o.bind f) Q:=by
 obtain⟨b,rfl,hb⟩:=h;obtain⟨a,K,O⟩:=k b hb;exact⟨a,K,O⟩
theorem BT{o:Option β}{f:β->Option α}{b:β}(h:o=some b)(k:BQ (f b) Q):BQ (o.bind f) Q:=by subst h;exact k
theorem BQ.ba{f:Int->Option α}{x:Int}(K: -9223372036854775808<=x)(O:x<=9223372036854775807)(k:BQ (f x) Q):BQ ((Ax x).bind f) Q:=BT (if_pos ⟨K,O⟩) k
theorem Kh{xs:List β}{i:Int}{m:Nat}{b:β}(h:i=(m:Int))(hb:xs[m]? =some b):ix xs i=some b:=by subst h;simpa [ix] using hb
theorem DY{f:β->Option α}{xs:List β}{i:Int}{m:Nat}(h:i=(m:Int))(hm:m<xs.length)(k:BQ (f xs[m]) Q):BQ ((ix xs i).bind f) Q:=BT (Kh h (List.getElem?_eq_getElem hm)) k
theorem MC{f:List β->Option α}{xs:List β}{x:β}(h:xs.length+1<=2 ^ 40)(k:BQ (f (xs++ [x])) Q):BQ ((room xs x).bind f) Q:=BT (if_pos h) k
theorem DZ{c:Prop} [Decidable c] {x y:Option α}(K:c->BQ x Q)(O:¬c->BQ y Q):BQ (if c then x else y) Q:=by
 by_cases h:c
 ·rw [if_pos h];exact K h
 ·rw [if_neg h];exact O h
theorem Eh{c:Prop} [Decidable c] {x y:Option α}(h:c)(k:BQ x Q):BQ (if c then x else y) Q:=by rw [if_pos h];exact k
theorem CY{c:Prop} [Decidable c] {x y:Option α}(h:¬c)(k:BQ y Q):BQ (if c then x else y) Q:=by rw [if_neg h];exact k
def Bm.sat{S A:Type}(I:S->Prop)(Q:A->Prop):Bm S A->Prop
 | .more s=>I s
 | .done a=>Q a
theorem Rz{S:Type}{body:S->Option (Bm S α)}(I:Nat->S->Prop)(round:∀m s,I m s->BQ (body s) (Bm.sat (λs'=>∃m',m'<m/\I m' s') Q)):
  ∀{m fuel:Nat} {s:S},I m s->m<fuel->BQ (iter body fuel s) Q:=by
 intro m
 induction m using Nat.strongRecOn with
 | _ m O=>
  intro fuel s U ag;obtain⟨fuel,rfl⟩:∃k,fuel=k+1:=⟨fuel - 1,by omega⟩;obtain⟨st,Y,K⟩:=round m s U;unfold Pal.iter;rw [Y];cases st with
  | more s'=>
   obtain⟨m',Z,ac⟩:=K;exact O m' Z ac (by omega)
  | done a=>exact⟨a,rfl,K⟩
end
end Pal
namespace Pal
theorem Fb{S A:Type}{body:S->Option (Bm S A)}{Q:A->Prop}{K:S}{F:Nat}(n:Nat)(I:Nat->S->Prop)(Y:I 0 K)(ac:n<F)
  (round:∀i s,i<n->I i s->BQ (body s) (Bm.sat (I (i+1)) Q)) (last:∀s,I n s->BQ (body s) (λst=>∃a,st= .done a/\Q a)):BQ (Pal.iter body F K) Q:=by
 refine Rz (λm s=>∃i,i<=n/\m=n - i/\I i s) ?_ (m:=n - 0) ⟨0,Nat.zero_le _,rfl,Y⟩ (by omega);rintro m s ⟨i,hi,rfl,O⟩;rcases Nat.lt_or_ge i n with Z | ag
 ·refine(round i s Z O).Ag ?_;intro st U;cases st with
  | more s'=>exact⟨n - (i+1),by omega,i+1,by omega,rfl,U⟩
  | done a=>exact U
 ·obtain rfl:i=n:=by omega
  refine(last s O).Ag ?_;rintro st ⟨a,rfl,h⟩;exact h
theorem Gl{α:Type}{o:Option α}{a:α}(h:BQ o (λx=>x=a)):o=some a:=by obtain⟨x,K,rfl⟩:=h;exact K
theorem B7{α:Type}{Q:α->Prop}{f:Int->Option α}{x:Int}(y:Int)(h:x=y)(K: -9223372036854775808<=y)(O:y<=9223372036854775807)(k:BQ (f y) Q):BQ ((Ax x).bind f) Q:=by subst h;exact BQ.ba K O k
theorem BQ.Qb{α β:Type}{Q:α->Prop}{f:List β->Option α}{xs ys:List β}(h:xs.length+ys.length<1000)(k:BQ (f (xs++ys)) Q):BQ ((C4 xs ys).bind f) Q:=BT (by unfold C4;rw [if_pos (by omega)]) k
abbrev Il:=List Int×Int×Nat
def BG(k:Nat)(b:Il):Prop:=0<=b.2.1/\b.2.1<=(k:Int)
theorem BG.Ag{k k':Nat}{b:Il}(h:BG k b)(K:k<=k'):BG k' b:=⟨h.1,by have:=h.2;omega⟩
theorem YV{F k:Nat}{b:Il}(hb:BG k b)(K:k<1000000):BQ (f83 F b) (λr=>r.1<2 ^ 64/\BG (k+1) r.2):=by
 obtain⟨O,U⟩:=hb;unfold f83;refine B7 (b.2.1+1) rfl (by omega) (by omega) ?_;have key:∀x:Nat,(x % 2 ^ 64)>>>11<2 ^ 64:=λx=>Nat.lt_of_le_of_lt (Nat.shiftRight_le _ _) (Nat.mod_lt _ (Nat.two_pow_pos 64));refine BH (S:=λ_=>True) ?_ ?_
 ·refine DZ (λh=>?_) (λh=>?_)
  ·refine B7 b.2.1 (by omega) (by omega) (by omega) (DY (m:=b.2.1.toNat) (by omega) (by omega) ?_);exact AS trivial
  ·exact AS trivial
 ·intro x _;exact AS ⟨key _,by simp only;omega,by simp only;omega⟩
theorem VK{a:Nat}(h:a<2 ^ 62):L2 a=(a:Int):=by
 unfold L2;exact Jk (by omega)
theorem KW{F k:Nat}{b:Il}{m:Int}(hb:BG k b)(O:k<1000000)(hm:m<1000000):BQ (f36 F b m) (λr=>0<=r.1/\(r.1<=m∨r.1=0)/\BG (k+1) r.2):=by
 unfold f36;refine BH (YV hb O) ?_;rintro⟨x,b'⟩ ⟨Z,K⟩;refine DZ (λh=>?_) (λh=>?_)
 ·exact AS ⟨by simp,.inr rfl,K⟩
 ·have U:C5 m=m.toNat:=by unfold C5;omega
  have e2:(C5 m+1) % 2 ^ 64=m.toNat+1:=by rw [U];omega
  have Y:x % (m.toNat+1)<m.toNat+1:=Nat.mod_lt _ (by omega);refine BT (b:=x % (m.toNat+1)) (by rw [e2];unfold NK;rw [if_neg (by omega)]) ?_;refine AS ?_;simp only;generalize x % (m.toNat+1)=z at Y ⊢;rw [VK (by omega)];exact⟨by omega,.inl (by omega),K⟩
theorem Pr{F k:Nat}{b:Il}{lo hi:Int}(hb:BG k b)(O:k<1000000)(Y:0<=lo)(Z:lo<=hi)(ac:hi<1000):BQ (f37 F b lo hi) (λr=>lo<=r.1/\r.1<=hi/\BG (k+1) r.2):=by
 unfold f37;refine B7 (hi - lo) rfl (by omega) (by omega) (BH (KW hb O (by omega)) ?_);rintro⟨x,b'⟩ ⟨U,g2,K⟩;simp only at U g2 K ⊢;exact B7 (lo+x) rfl (by omega) (by omega) (AS ⟨by simp only;omega,by simp only;omega,K⟩)
theorem SY{F k:Nat}{b:Il}{m:Int}(hb:BG k b)(K:k<1000000)(U:1<=m)(Y:m<1000):BQ (f32 F b m) (λr=>BG (k+1) r.2):=by
 unfold f32;refine B7 (m - 1) rfl (by omega) (by omega) (BH (KW hb K (by omega)) ?_);rintro⟨x,b'⟩ ⟨Z,g2,O⟩;exact AS O
theorem Tx{F k:Nat}{b:Il}{l:List Int}(hb:BG k b)(U:k<1000000)(Z:0<l.length)(ac:l.length<1000):BQ (f81 F b l) (λr=>r.1∈l/\BG (k+1) r.2):=by
 unfold f81;refine B7 ((l.length - 1:Nat):Int) (by omega) (by omega) (by omega) (BH (KW hb U (by omega)) ?_);rintro⟨x,b'⟩ ⟨Y,g2,K⟩;simp only at Y g2 K ⊢;have O:x.toNat<l.length:=by omega
 exact DY (m:=x.toNat) (by omega) O (AS ⟨List.getElem_mem O,K⟩)
abbrev DT:=Int×Int×Int
abbrev OW:=Bb×List DT
structure NV (n:Nat) (o:OW):Prop where
 l1:o.1.length<=n
 n1:∀x∈o.1,x.length<=n
 l2:o.2.length<=n
theorem NV.up{n m:Nat}{o:OW}(h:NV n o)(hm:n<=m):NV m o:=⟨Nat.le_trans h.l1 hm,λx K=>Nat.le_trans (h.n1 x K) hm,Nat.le_trans h.l2 hm⟩
theorem Tl{F:Nat}{l:Bb}(ag:100<F)(al:l.length<=40)(U:∀x∈l,x.length<=40):f68 F l=some l:=by
 refine Gl ?_;unfold f68;refine BT (b:=List.replicate l.length []) ?_ ?_
 ·unfold IE;rw [if_pos (by omega)];rfl
 refine BH (S:=λr=>r=l) ?_ (λr Y=>AS Y);refine Fb l.length (λi s=>s.2=(i:Int)/\s.1=l.take i++List.replicate (l.length - i) []) ⟨rfl,by simp⟩ (by omega) ?_ ?_
 ·rintro i ⟨o,c⟩ hi ⟨K,O⟩;simp only at K O;subst K;subst O;unfold Nz;refine Eh (by simp only;omega) (DY (m:=i) rfl hi ?_);refine BT (b:=l[i]) ?_ ?_
  ·unfold f104;have:C4 ([]:List Int) l[i]=some l[i]:=by unfold C4;rw [if_pos (by have:=U _ (List.getElem_mem hi);simp;omega)];rfl
   rw [this];rfl
  have Z:(l.take i).length=i:=by rw [List.length_take];omega
  refine DY (m:=i) rfl (by simp;omega) (B7 ((i+1:Nat):Int) (by simp) (by omega) (by omega) ?_);refine AS ⟨rfl,?_⟩;simp only;rw [show Int.toNat (i:Int)=i by omega,List.set_append,if_neg (by omega),Z,Nat.sub_self];obtain⟨k,ac⟩:∃k,l.length - i=k+1:=⟨l.length - i - 1,by omega⟩;rw [ac,List.replicate_succ,List.set_cons_zero,List.take_add_one,List.getElem?_eq_getElem hi,show l.length - (i+1)=k by omega];simp only [Option.toList_some,List.append_assoc,List.cons_append,List.nil_append]
 ·rintro⟨o,c⟩ ⟨K,O⟩;simp only at K O;subst K;subst O;unfold Nz;exact CY (by simp) (AS ⟨_,rfl,by simp⟩)
theorem Yw{F:Nat}{o:OW}(O:100<F)(K:NV 40 o):f21 F o=some o:=by
 unfold f21;have U:=K.l2;rw [Tl O K.l1 K.n1,Option.bind_some];unfold f69;have:C4 ([]:List DT) o.2=some o.2:=by unfold C4;rw [if_pos (by simp;omega)];rfl
 rw [this];rfl
theorem SS{F:Nat}{l:List Int}(K:100<F)(O:l.length<=40):f29 F l l=some true:=by
 refine Gl ?_;unfold f29;refine BH (S:=λq=>q=Sum.inr ()) ?_ (by rintro q rfl;exact AS (by simp));refine Fb l.length (λi s=>s=(i:Int)) rfl (by omega) ?_ ?_
 ·rintro i s hi rfl;unfold Nm;refine BH (S:=λc=>c=true) (Eh (by omega) (AS (decide_eq_true (by omega)))) ?_;rintro c rfl;refine Eh rfl (DY (m:=i) rfl hi ?_);refine DY (m:=i) rfl hi (CY (by simp) ?_);exact B7 ((i+1:Nat):Int) (by simp) (by omega) (by omega) (AS rfl)
 ·rintro s rfl;unfold Nm;refine BH (S:=λc=>c=false) (CY (by omega) (AS rfl)) ?_;rintro c rfl;exact CY (by simp) (AS ⟨_,rfl,rfl⟩)
theorem S4{F:Nat}{l:List DT}(K:100<F)(O:l.length<=40):f26 F l l=some true:=by
 refine Gl ?_;unfold f26;refine BH (S:=λq=>q=Sum.inr ()) ?_ (by rintro q rfl;exact AS (by simp));refine Fb l.length (λi s=>s=(i:Int)) rfl (by omega) ?_ ?_
 ·rintro i s hi rfl;unfold Nj;refine BH (S:=λc=>c=true) (Eh (by omega) (AS (decide_eq_true (by omega)))) ?_;rintro c rfl;refine Eh rfl (DY (m:=i) rfl hi ?_);refine DY (m:=i) rfl hi (CY (by simp) ?_);exact B7 ((i+1:Nat):Int) (by simp) (by omega) (by omega) (AS rfl)
 ·rintro s rfl;unfold Nj;refine BH (S:=λc=>c=false) (CY (by omega) (AS rfl)) ?_;rintro c rfl;exact CY (by simp) (AS ⟨_,rfl,rfl⟩)
theorem Zj{F:Nat}{l:Bb}(K:100<F)(U:l.length<=40)(O:∀x∈l,x.length<=40):f80 F l l=some true:=by
 refine Gl ?_;unfold f80;refine BH (S:=λq=>q=Sum.inr ()) ?_ (by rintro q rfl;exact AS (by simp));refine Fb l.length (λi s=>s=(i:Int)) rfl (by omega) ?_ ?_
 ·rintro i s hi rfl;unfold Nc;refine BH (S:=λc=>c=true) (Eh (by omega) (AS (decide_eq_true (by omega)))) ?_;rintro c rfl;refine Eh rfl (DY (m:=i) rfl hi ?_);refine DY (m:=i) rfl hi (BT (SS K (O _ (List.getElem_mem hi))) ?_);refine CY (by simp) (B7 ((i+1:Nat):Int) (by simp) (by omega) (by omega) ?_);exact AS rfl
 ·rintro s rfl;unfold Nc;refine BH (S:=λc=>c=false) (CY (by omega) (AS rfl)) ?_;rintro c rfl;exact CY (by simp) (AS ⟨_,rfl,rfl⟩)
theorem Yk{F:Nat}{o:OW}(K:100<F)(h:NV 40 o):f30 F o o=some true:=by
 refine Gl ?_;unfold f30;refine BT (Zj K h.l1 h.n1) (BH (S:=λc=>c=true) (Eh rfl (BT (S4 K h.l2) (AS rfl))) ?_);rintro c rfl;exact AS rfl
theorem Zb{F:Nat}{o:OW}(ac:100<F):BQ (f17 F o) (λr=>r=false->NV 20 o):=by
 unfold f17;refine BH (S:=λc=>c=false->o.1.length<=20/\o.2.length<=20) ?_ ?_
 ·refine DZ (λh=>AS (by simp)) (λh=>AS λU=>?_);have:=of_decide_eq_false U;omega
 intro c Y;refine DZ (λh=>AS (by simp)) (λh=>?_);obtain⟨Z,g2⟩:=Y (by simpa using h);refine BH (S:=λq=>q=Sum.inl true∨(q=Sum.inr ()/\∀x∈o.1,x.length<=20)) ?_ ?_
 ·refine Fb o.1.length (λi s=>s=(i:Int)/\∀x∈o.1.take i,x.length<=20) ⟨rfl,by simp⟩ (by omega) ?_ ?_
  ·rintro i s hi ⟨rfl,O⟩;unfold NA;refine Eh (by omega) (DY (m:=i) rfl hi ?_);refine DZ (λh=>AS (.inl rfl)) (λh=>?_);refine B7 ((i+1:Nat):Int) (by simp) (by omega) (by omega) (AS ⟨rfl,λx K=>?_⟩);rw [List.take_add_one,List.getElem?_eq_getElem hi] at K;simp only [Option.toList_some,List.mem_append,List.mem_singleton] at K;rcases K with K | rfl
   ·exact O x K
   ·omega
  ·rintro s ⟨rfl,O⟩;unfold NA;refine CY (by omega) (AS ⟨_,rfl,.inr ⟨rfl,λx K=>O x (by rw [List.take_length];exact K)⟩⟩)
 ·rintro q (rfl | ⟨rfl,h⟩)
  ·exact AS (by simp)
  ·exact AS λ_=>⟨Z,h,g2⟩
end Pal
namespace Pal
theorem Np(F:Nat)(a lo hi:Int):f92 F a lo hi=some (decide (lo<=a/\a<=hi)):=by
 unfold f92;by_cases h:lo<=a
 ·rw [if_pos h];simp [h]
 ·rw [if_neg h];simp [h]
theorem WR{F:Nat}{o:OW}{i:Int}{l:List Int}(h:ix o.1 i=some l):Nw F l=KY F o i:=by
 funext j;unfold Nw KY;rw [h];rfl
theorem Wz(F:Nat)(o:OW):Nl F o=KX F o:=by
 funext i;unfold Nl KX;split
 ·rcases h:ix o.1 i with _ | l
  ·rfl
  ·simp only [Option.bind_some];rw [WR h]
 ·rfl
theorem Ny(F:Nat)(o:OW):f47 F o=f48 F o:=by
 unfold f47 f48;rw [Wz];rfl
theorem YL{F n:Nat}{o:OW}{d:DT}(h:NV n o)(K:n<100):BQ (f38 F o d) (λr=>r=(o.1,o.2++ [d])):=by
 unfold f38;have O:=h.l2;refine BQ.Qb (by simp;omega) (BQ.Qb (by simp;omega) ?_);exact AS rfl
end Pal
namespace Pal
def VD(n:Nat)(d:DT):Prop:=0<=d.1/\d.1<(n:Int)/\0<=d.2.1/\d.2.1<(n:Int)/\d.1≠d.2.1/\1<=d.2.2/\d.2.2<=9
def CS(x:List Int):Prop:=x.length<=3/\∀c∈x,1<=c/\c<=9
structure VO (o:OW):Prop where
 n2:2<=o.1.length
 n5:o.1.length<=5
 cs:∀x∈o.1,CS x
 d8:o.2.length<=8
 ds:∀d∈o.2,VD o.1.length d
theorem VO.nv{o:OW}(h:VO o):NV 40 o:=⟨by have:=h.n5;omega,λx K=>by have:=(h.cs x K).1;omega,by have:=h.d8;omega⟩
theorem O4{α:Type}{P:α->Prop}{l:List α}{i:Nat}(hi:i<l.length)(h:∀x∈l.take i,P x)(k:P l[i]):∀x∈l.take (i+1),P x:=by
 intro x K;rw [List.take_add_one,List.getElem?_eq_getElem hi] at K;simp only [Option.toList_some,List.mem_append,List.mem_singleton] at K;rcases K with K | rfl
 ·exact h x K
 ·exact k
theorem Y8{F:Nat}{d:DT}{n:Nat}(Y:n<1000):BQ (f88 F (n:Int) d 9) (λr=>r=0↔VD n d):=by
 unfold f88;refine B7 ((n:Int) - 1) rfl (by omega) (by omega) (BT (Np _ _ _ _) ?_);refine BH (S:=λc=>c=true↔¬((0<=d.1/\d.1<(n:Int))/\0<=d.2.1/\d.2.1<(n:Int))) ?_ ?_
 ·refine DZ (λh=>AS ?_) (λh=>?_)
  ·simp at h;simp;omega
  ·refine B7 ((n:Int) - 1) rfl (by omega) (by omega) (BT (Np _ _ _ _) ?_);refine AS ?_;simp at h;simp;omega
 ·intro c O;refine DZ (λh=>AS ?_) (λh=>?_)
  ·have:=O.1 h;unfold VD;constructor
   ·intro h;cases h
   ·intro h;omega
  have Z:¬¬_:=λk=>h (O.2 k);refine DZ (λU=>AS ?_) (λU=>?_)
  ·unfold VD;constructor
   ·intro h;cases h
   ·intro h;omega
  refine BT (Np _ _ _ _) (DZ (λK=>AS ?_) (λK=>AS ?_))
  ·simp at K;unfold VD;constructor
   ·intro h;cases h
   ·intro h;omega
  ·simp at K;unfold VD;constructor
   ·intro h;omega
   ·intro h;rfl
theorem S2{F:Nat}{o:OW}(Z:100<F)(h:NV 40 o):BQ (f48 F o) (λr=>r=0↔VO o):=by
 unfold f48;have ac:=h.l1;have ag:=h.l2;refine DZ (λg=>AS (iff_of_false (by decide) λv=>by have:=v.n2;omega)) (λal=>?_);refine DZ (λg=>AS (iff_of_false (by decide) λv=>by have:=v.n5;omega)) (λg2=>?_);refine BH (S:=λq=>(∃e,q=Sum.inl e/\e≠0/\¬∀x∈o.1,CS x)∨(q=Sum.inr ()/\∀x∈o.1,CS x)) ?_ ?_
 ·refine Fb o.1.length (λi s=>s=(i:Int)/\∀x∈o.1.take i,CS x) ⟨rfl,by simp⟩ (by omega) ?_ ?_
  ·rintro i s hi ⟨rfl,K⟩;unfold KX;refine Eh (by omega) (DY (m:=i) rfl hi ?_);have am:=h.n1 _ (List.getElem_mem hi);refine DZ (λg=>AS (.inl ⟨_,rfl,by decide,λk=>by have:=(k _ (List.getElem_mem hi)).1;omega⟩)) (λap=>?_);refine BH (S:=λq=>(q=Sum.inl 1/\¬CS o.1[i])∨(q=Sum.inr ()/\CS o.1[i])) ?_ ?_
   ·refine Fb o.1[i].length (λj s=>s=(j:Int)/\∀c∈o.1[i].take j,1<=c/\c<=9) ⟨rfl,by simp⟩ (by omega) ?_ ?_
    ·rintro j s U ⟨rfl,O⟩;unfold KY;refine DY (m:=i) rfl hi (Eh (by omega) ?_);refine DY (m:=i) rfl hi (DY (m:=j) rfl U ?_);refine BT (Np _ _ _ _) (DZ (λg=>AS (.inl ⟨rfl,λk=>?_⟩)) (λg=>?_))
     ·have:=k.2 _ (List.getElem_mem U);simp at g;omega
     refine B7 ((j+1:Nat):Int) (by simp) (by omega) (by omega) (AS ⟨rfl,O4 U O ?_⟩);simpa using g
    ·rintro s ⟨rfl,O⟩;unfold KY;refine DY (m:=i) rfl hi ?_;rw [List.take_length] at O;exact CY (by omega) (AS ⟨_,rfl,.inr ⟨rfl,by omega,O⟩⟩)
   ·rintro q (⟨rfl,g⟩ | ⟨rfl,g⟩)
    ·rw [Sum.elim_inl];exact AS (.inl ⟨_,rfl,by decide,λk=>g (k _ (List.getElem_mem hi))⟩)
    ·rw [Sum.elim_inr];exact B7 ((i+1:Nat):Int) (by simp) (by omega) (by omega) (AS ⟨rfl,O4 hi K g⟩)
  ·rintro s ⟨rfl,K⟩;unfold KX;rw [List.take_length] at K;exact CY (by omega) (AS ⟨_,rfl,.inr ⟨rfl,K⟩⟩)
 ·rintro q (⟨e,rfl,he,g⟩ | ⟨rfl,O⟩)
  ·rw [Sum.elim_inl];exact AS (iff_of_false he λv=>g v.cs)
  ·rw [Sum.elim_inr];refine DZ (λg=>AS (iff_of_false (by decide) λv=>by have:=v.d8;omega)) (λg2=>?_);refine BH (S:=λq=>(∃e,q=Sum.inl e/\e≠0/\¬∀d∈o.2,VD o.1.length d)∨(q=Sum.inr ()/\∀d∈o.2,VD o.1.length d)) ?_ ?_
   ·refine Fb o.2.length (λi s=>s=(i:Int)/\∀d∈o.2.take i,VD o.1.length d) ⟨rfl,by simp⟩ (by omega) ?_ ?_
    ·rintro i s hi ⟨rfl,K⟩;unfold Nv;refine Eh (by omega) (DY (m:=i) rfl hi ?_);refine BH (Y8 (by omega)) ?_;intro x Y;refine DZ (λg=>AS (.inl ⟨_,rfl,g,λk=>g (Y.2 (k _ (List.getElem_mem hi)))⟩)) (λg=>?_);exact B7 ((i+1:Nat):Int) (by simp) (by omega) (by omega) (AS ⟨rfl,O4 hi K (Y.1 (Decidable.not_not.1 g))⟩)
    ·rintro s ⟨rfl,K⟩;unfold Nv;rw [List.take_length] at K;exact CY (by omega) (AS ⟨_,rfl,.inr ⟨rfl,K⟩⟩)
   ·rintro q (⟨e,rfl,he,g⟩ | ⟨rfl,g⟩)
    ·rw [Sum.elim_inl];exact AS (iff_of_false he λv=>g v.ds)
    ·rw [Sum.elim_inr];exact AS (iff_of_true rfl ⟨by omega,by omega,O,by omega,g⟩)
theorem Y0{F:Nat}{o:OW}(K:100<F)(h:NV 40 o):BQ (f47 F o) (λr=>r=0↔VO o):=Ny F o▸S2 K h
theorem TN{F:Nat}{o:OW}(K:100<F)(h:VO o):f47 F o=some 0:=by
 obtain⟨r,O,U⟩:=Y0 K h.nv;rw [O,U.2 h]
theorem TX{F:Nat}{o:OW}(K:100<F)(h:VO o):f70 F o []=some (o,0):=by
 obtain⟨F,rfl⟩:∃k,F=k+1:=⟨F - 1,by omega⟩;unfold f70;rw [TN K h]
 rfl
theorem W3(a n:Int):a % n=(a - n) % n:=by
 have h:a=(a - n)+n*1:=by omega
 conv=>lhs;rw [h]
 exact Int.add_mul_emod_self_left _ _ _
theorem YW{F k n:Nat}{b:Il}(hb:BG k b)(aw:k<900000)(ay:2<=n)(az:n<900):BQ (f40 F b (n:Int)) (λr=>VD n r.1/\BG (k+4) r.2):=by
 unfold f40;refine B7 ((n:Int) - 1) rfl (by omega) (by omega) (BH (KW hb (by omega) (by omega)) ?_);rintro⟨x,a0⟩ ⟨O,g2,U⟩;simp only at O g2 U ⊢;refine BH (Pr U (by omega) (by omega) (by omega) (by omega)) ?_;rintro⟨x2,a2⟩ ⟨a1,am,Y⟩;simp only at a1 am Y ⊢;refine BH (Tx Y (by omega) (by simp) (by simp)) ?_;rintro⟨Z,a3⟩ ⟨ac,ag⟩;simp only at ac ag ⊢;refine B7 ((n:Int) - 1) rfl (by omega) (by omega) (BH (Pr ag (by omega) (by omega) (by omega) (by omega)) ?_);rintro⟨K,a4⟩ ⟨ap,aq,al⟩;simp only at ap aq al ⊢;refine B7 (x+K) rfl (by omega) (by omega) (BT (b:=(x+K).tmod n) (by unfold NT;rw [if_neg (by omega)]) ?_);refine AS ⟨?_,al⟩;have e:(x+K).tmod n=(x+K) % n:=Int.tmod_eq_emod_of_nonneg (by omega);have p3:1<=Z/\Z<=9:=by
  simp only [List.mem_cons,List.not_mem_nil,or_false] at ac;omega
 have a5:(x+K) % (n:Int)<n:=Int.emod_lt_of_pos _ (by omega);have a6:0<=(x+K) % (n:Int):=Int.emod_nonneg _ (by omega);have a7:x≠(x+K) % (n:Int):=by
  rcases Int.lt_or_le (x+K) n with h | h
  ·rw [Int.emod_eq_of_lt (by omega) h];omega
  ·rw [W3,Int.emod_eq_of_lt (by omega) (by omega)];omega
 refine⟨O,?_,?_,?_,?_,p3.1,p3.2⟩ <;> simp only [e] <;> omega
theorem Yt{F k:Nat}{b:Il}{pm dm:Nat}(a8:100<F)(hb:BG k b)(a9:k<1000)(bb:2<=pm)(be:pm<=5)(hd:dm<=8):BQ (f31 F b pm dm) (λr=>VO r.1/\r.1.1.length<=pm/\r.1.2.length<=dm/\BG (k+100) r.2):=by
 unfold f31;refine BH (Pr hb (by omega) (by omega) (by omega) (by omega)) ?_;rintro⟨n,bi⟩ ⟨n1,n2,az⟩;simp only at n1 n2 az ⊢;obtain⟨n,rfl⟩:∃m:Nat,n=(m:Int):=⟨n.toNat,by omega⟩;refine BH (SY az (by omega) (by omega) (by omega)) ?_;rintro⟨bn,bo⟩ g2;simp only at g2 ⊢;refine BH (S:=λr=>r.2.2.2.length=n/\(∀x∈r.2.2.2,CS x)/\BG (k+30) (r.1,r.2.1,r.2.2.1)) ?_ ?_
 ·refine Fb n (λi s=>s.2.2.2.2=(i:Int)/\s.1.length=i/\(∀x∈s.1,CS x)/\BG (k+2+5*i) (s.2.1,s.2.2.1,s.2.2.2.1)) ⟨rfl,rfl,by simp,g2⟩ (by omega) ?_ ?_
  ·rintro i ⟨a0,l,t,ag,c⟩ hi ⟨al,am,ap,K⟩;simp only at al am ap K;subst al;unfold Nq;refine Eh (by simp only;omega) (BH (KW K (by omega) (by omega)) ?_);rintro⟨c,bq⟩ ⟨c1,c2,aq⟩;simp only at c1 c2 aq ⊢;obtain⟨c,rfl⟩:∃m:Nat,c=(m:Int):=⟨c.toNat,by omega⟩;refine BH (S:=λr=>CS r.1/\BG (k+2+5*i+1+c) r.2) ?_ ?_
   ·refine Fb c (λj s=>s.2.2.2.2=((c - j:Nat):Int)/\s.2.2.2.1.length=j/\(∀v∈s.2.2.2.1,1<=v/\v<=9)/\BG (k+2+5*i+1+j) (s.1,s.2.1,s.2.2.1)) ⟨rfl,rfl,by simp,aq⟩ (by omega) ?_ ?_
    ·rintro j ⟨l,t,ag,w,z⟩ a6 ⟨U,hw,O,K⟩;simp only at U hw O K;subst U;unfold Ng;refine Eh (by simp only;omega) (BH (S:=λr=>r.1.length=j+1/\(∀v∈r.1,1<=v/\v<=9)/\BG (k+2+5*i+1+(j+1)) r.2) ?_ ?_)
     ·refine DZ (λ_=>?_) (λ_=>?_)
      ·refine MC (by simp only;omega) (AS ⟨by simp [hw],?_,K.Ag (by omega)⟩);intro v h;rcases List.mem_append.1 h with h | h
       ·exact O v h
       ·have:=List.mem_singleton.1 h;omega
      ·refine BH (Tx K (by omega) (by simp) (by simp)) ?_;rintro⟨v,a7⟩ ⟨a1,aw⟩;simp only at a1 aw ⊢;refine MC (by omega) (AS ⟨by simp [hw],?_,aw⟩);intro u h;rcases List.mem_append.1 h with h | h
       ·exact O u h
       ·have:=List.mem_singleton.1 h;subst this;simp only [List.mem_cons,List.not_mem_nil,or_false] at a1;omega
     ·rintro⟨w',l',br,bu⟩ ⟨Z,ay,ac⟩;simp only at Z ac ay ⊢;exact B7 ((c - (j+1):Nat):Int) (by omega) (by omega) (by omega) (AS ⟨rfl,Z,ay,ac⟩)
    ·rintro⟨l,t,ag,w,z⟩ ⟨U,hw,O,K⟩;simp only at U hw O K;subst U;unfold Ng;exact CY (by simp) (AS ⟨_,rfl,⟨by simp only;omega,O⟩,K⟩)
   ·rintro⟨w,a7⟩ ⟨Z,ac⟩;simp only at Z ac ⊢;refine MC (by omega) (B7 ((i+1:Nat):Int) (by simp) (by omega) (by omega) ?_);refine AS ⟨rfl,by simp [am],λx Y=>?_,ac.Ag (by omega)⟩;simp only [List.mem_append,List.mem_singleton] at Y;rcases Y with Y | rfl
    ·exact ap x Y
    ·exact Z
  ·rintro⟨a0,l,t,ag,c⟩ ⟨al,am,ap,K⟩;simp only at al am ap K;subst al;unfold Nq;exact CY (by simp) (AS ⟨_,rfl,am,ap,K.Ag (by omega)⟩)
 ·rintro⟨l,t,ag,a0⟩ ⟨a2,p2,aq⟩;simp only at a2 p2 aq ⊢;refine BH (KW aq (by omega) (by omega)) ?_;rintro⟨c,bv⟩ ⟨c1,c2,aw⟩;simp only at c1 c2 aw ⊢;obtain⟨c,rfl⟩:∃m:Nat,c=(m:Int):=⟨c.toNat,by omega⟩;refine BH (S:=λr=>r.2.2.2.length<=dm/\(∀d∈r.2.2.2,VD n d)/\BG (k+100) (r.1,r.2.1,r.2.2.1)) ?_ ?_
  ·refine Fb c (λj s=>s.2.2.2.2=((c - j:Nat):Int)/\s.1.length=j/\(∀d∈s.1,VD n d)/\BG (k+31+4*j) (s.2.1,s.2.2.1,s.2.2.2.1)) ⟨rfl,rfl,by simp,aw.Ag (by omega)⟩ (by omega) ?_ ?_
   ·rintro j ⟨a3,l,t,ag,z⟩ a6 ⟨U,hw,O,K⟩;simp only at U hw O K;subst U;unfold Nf;refine Eh (by simp only;omega) (BH (YW K (by omega) (by omega) (by omega)) ?_);rintro⟨d,bw⟩ ⟨a4,a5⟩;simp only at a4 a5 ⊢;refine BQ.Qb (by simp;omega) (B7 ((c - (j+1):Nat):Int) (by omega) (by omega) (by omega) ?_);refine AS ⟨rfl,by simp [hw],?_,a5.Ag (by omega)⟩;intro x Y;rcases List.mem_append.1 Y with Y | Y
    ·exact O x Y
    ·cases List.mem_singleton.1 Y;exact a4
   ·rintro⟨a3,l,t,ag,z⟩ ⟨U,hw,O,K⟩;simp only at U hw O K;subst U;unfold Nf;exact CY (by simp) (AS ⟨_,rfl,by simp only;omega,O,K.Ag (by omega)⟩)
  ·rintro⟨l,t,ag,a3⟩ ⟨Z,ay,ac⟩;simp only at Z ac ay ⊢;exact AS ⟨⟨by simp only;omega,by simp only;omega,p2,by simp only;omega,by simp only;rw [a2];exact ay⟩,by simp only;omega,Z,ac⟩
end Pal
namespace Pal
def gN(l:List Int)(i:Nat):Int:=l.getD i 0
def LY(l:List Int)(i v:Int):List Int:=l.set i.toNat (gN l i.toNat+v)
def BN(B:Int)(l:List Int):Prop:=l.length=5/\∀x∈l,-B<=x/\x<=B
theorem Pj{l:List Int}{i:Nat}(h:i<l.length):gN l i=l[i]:=by unfold gN;rw [List.getD_eq_getElem?_getD,List.getElem?_eq_getElem h];rfl
theorem BN.bd{B:Int}{l:List Int}(h:BN B l){i:Nat}(hi:i<5): -B<=gN l i/\gN l i<=B:=by
 rw [Pj (by have:=h.1;omega)];exact h.2 _ (List.getElem_mem _)
theorem BN.ix{B:Int}{l:List Int}(h:BN B l){i:Int}(K:0<=i)(hi:i<5):ix l i=some (gN l i.toNat):=by
 have:=h.1;rw [Pj (show i.toNat<l.length by omega)];exact Kh (m:=i.toNat) (by omega) (List.getElem?_eq_getElem _)
theorem BN.Ag{B C:Int}{l:List Int}(h:BN B l)(O:B<=C):BN C l:=⟨h.1,λx K=>by have:=h.2 x K;omega⟩
theorem BN.add{B V:Int}{l:List Int}(h:BN B l){i v:Int}(O:0<=i)(hi:i<5)(U: -V<=v)(Y:v<=V):BN (B+V) (LY l i v):=by
 have hb:=h.bd (i:=i.toNat) (by omega);refine⟨by unfold LY;rw [List.length_set];exact h.1,λx K=>?_⟩;rcases List.mem_or_eq_of_mem_set K with K | rfl
 ·have:=h.2 x K;omega
 ·omega
def Lb(l:List Int)(d:DT):List Int:=LY (LY l d.2.1 d.2.2) d.1 (-d.2.2)
def Ja(o:OW):List Int:=o.2.foldl Lb (List.replicate 5 0)
theorem Yb{F:Nat}{o:OW}(ac:100<F)(h:VO o):f84 F o=some (Ja o)/\BN 200 (Ja o):=by
 have ag:=h.n5;have al:=h.d8;have:BQ (f84 F o) (λr=>r=Ja o/\BN 200 r):=by
  unfold f84;refine BH (S:=λr=>r=Ja o/\BN 200 r) ?_ (λr U=>AS U);refine Fb o.2.length (λi s=>s.2=(i:Int)/\s.1=(o.2.take i).foldl Lb (List.replicate 5 0)/\BN (20*i) s.1) ⟨rfl,rfl,rfl,by simp⟩ (by omega) ?_ ?_
  ·rintro i ⟨w,c⟩ hi ⟨K,hw,hb⟩;simp only at K hw hb;subst K;obtain⟨v1,v2,am,v4,ap,v6,aq⟩:=h.ds _ (List.getElem_mem hi);have O:=hb.add (i:=o.2[i].2.1) (v:=o.2[i].2.2) (V:=10) (by omega) (by omega) (by omega) (by omega);have g2:=O.add (i:=o.2[i].1) (v:= -o.2[i].2.2) (V:=10) (by omega) (by omega) (by omega) (by omega);have k1:=hb.bd (i:=o.2[i].2.1.toNat) (by omega);have aw:=O.bd (i:=o.2[i].1.toNat) (by omega);unfold Nn;refine Eh (by simp only;omega) (DY (m:=i) rfl hi ?_);refine BT (hb.ix (by omega) (by omega)) (B7 _ rfl (by omega) (by omega) ?_);refine BT (hb.ix (by omega) (by omega)) (BT (O.ix (by omega) (by omega)) ?_);refine B7 _ rfl (by omega) (by omega) (BT (O.ix (by omega) (by omega)) ?_);refine B7 ((i+1:Nat):Int) (by simp) (by omega) (by omega) (AS ⟨rfl,?_,g2.Ag (by omega)⟩);simp only;rw [List.take_add_one,List.getElem?_eq_getElem hi,List.foldl_append,← hw]
   rfl
  ·rintro⟨w,c⟩ ⟨K,hw,hb⟩;simp only at K hw hb;subst K;unfold Nn;rw [List.take_length] at hw;exact CY (by simp) (AS ⟨_,rfl,hw,hb.Ag (by omega)⟩)
 obtain⟨r,Y,rfl,Z⟩:=this;exact⟨Y,Z⟩
def BD(d:DT):Prop:= -1000000000000000<=d.1/\d.1<=1000000000000000/\ -1000000000000000<=d.2.1/\d.2.1<=1000000000000000/\ -1000000000000000<=d.2.2/\d.2.2<=1000000000000000
end Pal
namespace Pal
theorem Qu{α:Type}(l:List α):l= []∨∃A y,l=A++ [y]:=by
 rcases List.eq_nil_or_concat l with h | ⟨A,y,h⟩
 ·exact .inl h
 ·exact .inr ⟨A,y,by rw [h,List.concat_eq_append]⟩
def NW{α:Type}(less:α->α->Option Bool)(s:Int×List α):Option (Bm (Int×List α) (List α)):=
 Option.bind (
  if 0<s.1 then(
   (ix s.2 (s.1)).bind λx=>
   (Ax (s.1 - 1)).bind λj=>
   (ix s.2 (j)).bind λy=>
   (less x y).bind λc=>
   some c
  ) else(
   some false
  )
 ) λc=>
 if c=true then(
  (Ax (s.1 - 1)).bind λj=>
  (Ax (s.1 - 1)).bind λk=>
  (ix s.2 (k)).bind λy=>
  (ix s.2 (s.1)).bind λx=>
  (ix (s.2.set (Int.toNat s.1) y) (j)).bind λ_=>
  (Ax (s.1 - 1)).bind λm=>
  some (.more (m,((s.2.set (Int.toNat s.1) y).set (Int.toNat j) x)))
 ) else(
  some (.done s.2)
 )
theorem Xm{α:Type}{less:α->α->Option Bool}{lt:α->α->Bool}{F:Nat}{P:List α}{x:α}(R:List α)(ay:P.length<F)(az:P.length<=1024)(ap:∀y∈P,less x y=some (lt x y)):
  BQ (Pal.iter (NW less) F ((P.length:Int),P++x::R)) (λr=>∃A B,P=A++B/\r=A++x::(B++R)/\(∀b∈B,lt x b=true)/\(A= []∨∃K y,A=K++ [y]/\lt x y=false)):=by
 refine Rz (λm s=>∃A B,A.length=m/\s.1=((m:Nat):Int)/\s.2=A++x::(B++R)/\P=A++B/\∀b∈B,lt x b=true) ?_ (m:=P.length) ⟨P,[],rfl,rfl,rfl,by simp,by simp⟩ (by omega);rintro m ⟨c,v⟩ ⟨A,B,U,ag,O,Y,al⟩;simp only at ag O;subst ag;have a0:A.length+B.length=P.length:=by rw [Y,List.length_append]
 have am:v[m]? =some x:=by rw [O,List.getElem?_append_right (by omega),U,Nat.sub_self];rfl
 unfold NW;refine BH (S:=λc=>(c=true/\∃K y,A=K++ [y]/\lt x y=true)∨(c=false/\(A= []∨∃K y,A=K++ [y]/\lt x y=false))) ?_ ?_
 ·refine DZ (λh=>?_) (λh=>?_)
  ·simp only at h;rcases Qu A with rfl | ⟨K,y,rfl⟩
   ·simp at U;omega
   have aq:K.length+1=m:=by simpa using U
   have ac:v[m - 1]? =some y:=by rw [O,List.append_assoc,List.getElem?_append_right (by omega),show m - 1 - K.length=0 by omega];rfl
   refine BT (Kh rfl am) (B7 ((m - 1:Nat):Int) (by simp only;omega) (by omega) (by omega) ?_);refine BT (Kh rfl ac) (BT (ap y (by rw [Y];simp)) ?_);refine AS ?_;cases Z:lt x y with
   | true=>exact .inl ⟨rfl,K,y,rfl,Z⟩
   | false=>exact .inr ⟨rfl,.inr ⟨K,y,rfl,Z⟩⟩
  ·refine AS (.inr ⟨rfl,.inl ?_⟩);cases A with
   | nil=>rfl
   | cons a A=>simp at U h;omega
 ·rintro c (⟨rfl,K,y,rfl,Z⟩ | ⟨rfl,aw⟩)
  ·have aq:K.length+1=m:=by simpa using U
   have ac:v[m - 1]? =some y:=by rw [O,List.append_assoc,List.getElem?_append_right (by omega),show m - 1 - K.length=0 by omega];rfl
   have a1:m<v.length:=by rw [O];simp;omega
   refine Eh rfl (B7 ((m - 1:Nat):Int) (by simp only;omega) (by omega) (by omega) ?_);refine B7 ((m - 1:Nat):Int) (by simp only;omega) (by omega) (by omega) (BT (Kh rfl ac) ?_);refine BT (Kh rfl am) (DY (m:=m - 1) rfl (by simp only [List.length_set];omega) ?_);refine B7 ((m - 1:Nat):Int) (by simp only;omega) (by omega) (by omega) (AS ⟨m - 1,by omega,K,y::B,by omega,rfl,?_,by rw [Y];simp,λb hb=>?_⟩)
   ·simp only;rw [show Int.toNat ((m:Nat):Int)=K.length+1 by omega,show Int.toNat ((m - 1:Nat):Int)=K.length by omega,O];simp
   ·rcases List.mem_cons.1 hb with rfl | hb
    ·exact Z
    ·exact al b hb
  ·exact CY (by simp) (AS ⟨A,B,Y,O,al,aw⟩)
end Pal
namespace Pal
def GV(a b:DT):Bool:=decide (a.1<b.1∨(a.1=b.1/\(a.2.1<b.2.1∨(a.2.1=b.2.1/\a.2.2<b.2.2))))
theorem Su{a b:DT}:GV a b=true↔a.1<b.1∨(a.1=b.1/\(a.2.1<b.2.1∨(a.2.1=b.2.1/\a.2.2<b.2.2))):=by unfold GV;exact decide_eq_true_iff
theorem Jt{a b:DT}:GV a b=false↔¬(a.1<b.1∨(a.1=b.1/\(a.2.1<b.2.1∨(a.2.1=b.2.1/\a.2.2<b.2.2)))):=by unfold GV;exact decide_eq_false_iff_not
theorem XZ{F:Nat}{a b:DT}(K:BD a)(hb:BD b):BQ (f113 F a b) (λc=>(c<0↔GV a b=true)/\(c=0↔a=b)):=by
 obtain⟨a1,O,U,Y,Z,ac⟩:=K;obtain⟨ag,al,am,ap,aq,aw⟩:=hb;obtain⟨ax,az,a0⟩:=a;obtain⟨a2,a3,a4⟩:=b;simp only at a1 O U Y Z ac ag al am ap aq aw;unfold f113;simp only [Su,Prod.mk.injEq];refine DZ (λh=>?_) (λh=>?_)
 ·exact B7 _ rfl (by omega) (by omega) (AS ⟨by omega,by omega⟩)
 refine DZ (λay=>?_) (λay=>?_)
 ·exact B7 _ rfl (by omega) (by omega) (AS ⟨by omega,by omega⟩)
 ·exact B7 _ rfl (by omega) (by omega) (AS ⟨by omega,by omega⟩)
def F2(x:DT):List DT->List DT
 | []=> [x]
 | y::ys=>if GV x y=true then x::y::ys else y::F2 x ys
def Ez(l:List DT):List DT:=l.foldl (λa x=>F2 x a) []
def Lh(l:List DT):Prop:=l.Pairwise λa b=>GV b a=false
theorem OR{x d:DT}:∀{l:List DT},d∈F2 x l↔d=x∨d∈l
 | []=>by simp [F2]
 | y::ys=>by
  unfold F2
  split
  ·simp
  ·rw [List.mem_cons,OR,List.mem_cons];constructor
   ·rintro(h | h | h)
    ·exact .inr (.inl h)
    ·exact .inl h
    ·exact .inr (.inr h)
   ·rintro(h | h | h)
    ·exact .inr (.inl h)
    ·exact .inl h
    ·exact .inr (.inr h)
theorem RN{x:DT}:∀{l:List DT},(F2 x l).length=l.length+1
 | []=>rfl
 | y::ys=>by
  unfold F2
  split
  ·rfl
  ·rw [List.length_cons,RN];rfl
theorem Sn{x:DT}:∀{l:List DT},Lh l->Lh (F2 x l)
 | [],_=>List.pairwise_singleton _ _
 | y::ys,h=>by
  obtain⟨U,Y⟩:=List.pairwise_cons.1 h
  unfold F2
  split
  ·rename_i O
   refine List.pairwise_cons.2 ⟨λz K=>?_,h⟩;have O:=Su.1 O;rcases List.mem_cons.1 K with rfl | K
   ·rw [Jt];omega
   ·have:=Jt.1 (U z K);rw [Jt];omega
  ·rename_i O;refine List.pairwise_cons.2 ⟨λz K=>?_,Sn Y⟩;rcases OR.1 K with rfl | K
   ·exact Bool.eq_false_iff.2 O
   ·exact U z K
theorem R6{x:DT}{B:List DT}(K:∀b∈B,GV x b=true):∀{A:List DT},(∀a∈A,GV x a=false)->F2 x (A++B)=A++x::B
 | [],_=>by
  cases B with
  | nil=>rfl
  | cons b bs=>simp only [List.nil_append,F2,K b List.mem_cons_self,if_true]
 | a::A,O=>by
  have U:=O a List.mem_cons_self
  simp only [List.cons_append,F2,U]
  rw [if_neg (by decide),R6 K λz Y=>O z (List.mem_cons_of_mem _ Y)]
theorem Ls(l:List DT)(x:DT):Ez (l++ [x])=F2 x (Ez l):=by unfold Ez;rw [List.foldl_append];rfl
theorem M7{α:Type}{P:List α->Prop}(O:P [])(U:∀l x,P l->P (l++ [x])):∀l,P l:=by
 have:∀n (l:List α),l.length=n->P l:=by
  intro n
  induction n with
  | zero=>intro l K;cases List.length_eq_zero_iff.1 K;exact O
  | succ n Y=>
   intro l K;rcases Qu l with rfl | ⟨l',x,rfl⟩
   ·cases K
   ·exact U _ _ (Y _ (by simpa using K))
 exact λl=>this _ l rfl
theorem RP(l:List DT):Lh (Ez l):=M7 (P:=λl=>Lh (Ez l)) List.Pairwise.nil (λl x h=>by rw [Ls];exact Sn h) l
theorem Vq{d:DT}(l:List DT):d∈Ez l↔d∈l:=M7 (P:=λl=>d∈Ez l↔d∈l) (Iff.rfl) (λl x h=>by rw [Ls,OR,h];simp [or_comm]) l
theorem V0(l:List DT):(Ez l).length=l.length:=M7 (P:=λl=>(Ez l).length=l.length) rfl (λl x h=>by rw [Ls,RN,h];simp) l
theorem VV(F:Nat):MQ F 0=NW λx y=>(f113 F x y).bind λc=>some (decide (c<0)):=by
 funext s;unfold MQ NW;simp only [Option.bind_assoc,Option.bind_some]
theorem UZ{A B:List DT}{x y:DT}(O:Lh ((A++ [y])++B))(U:GV x y=false):∀a∈A++ [y],GV x a=false:=by
 rw [List.append_assoc] at O;intro a K;rcases List.mem_append.1 K with K | K
 ·have Y:=(List.pairwise_append.1 O).2.2 a K y (by simp);have Z:=Jt.1 Y;have ac:=Jt.1 U;rw [Jt];omega
 ·cases List.mem_singleton.1 K;exact U
theorem Xz{F:Nat}{l:List DT}(a0:100<F)(a1:l.length<=20)(hb:∀d∈l,BD d):f193 F l 0 (l.length:Int)=some (Ez l):=by
 refine Gl ?_;unfold f193;refine B7 1 rfl (by omega) (by omega) (BH (S:=λr=>r=Ez l) ?_ (λr Y=>AS Y));refine Fb (l.length - 1) (λi s=>s.1=((i+1:Nat):Int)/\s.2=Ez (l.take (i+1))++l.drop (i+1)) ⟨rfl,?_⟩ (by omega) ?_ ?_
 ·cases l with
  | nil=>rfl
  | cons x xs=>rfl
 ·rintro i ⟨c,w⟩ hi ⟨K,hw⟩;simp only at K hw;subst K;have O:i+1<l.length:=by omega
  unfold MY;refine Eh (by simp only;omega) ?_;have Z:l.drop (i+1)=l[i+1]::l.drop (i+2):=List.drop_eq_getElem_cons O;have a2:(Ez (l.take (i+1))).length=i+1:=by rw [V0,List.length_take];omega
  have ac:∀d∈Ez (l.take (i+1)),BD d:=λd hd=>hb d (List.mem_of_mem_take ((Vq _).1 hd));have ag:BD l[i+1]:=hb _ (List.getElem_mem O);have al:Ez (l.take (i+2))=F2 l[i+1] (Ez (l.take (i+1))):=by
   rw [List.take_add_one (i:=i+1),List.getElem?_eq_getElem O];exact Ls _ _
  have am:=RP (l.take (i+1));generalize l[i+1]=x at*;generalize Ez (l.take (i+1))=P at*;generalize l.drop (i+2)=R at*;refine BH (S:=λr=>r=F2 x P++R) ?_ ?_
  ·rw [VV,hw,Z];have ap:((i+1:Nat):Int)=(P.length:Int):=by omega
   rw [ap];refine(Xm (lt:=GV) R (by omega) (by omega) λy U=>?_).Ag ?_
   ·obtain⟨c,aq,aw,_⟩:=XZ (F:=F) ag (ac y U);rw [aq,Option.bind_some];congr 1;rw [Bool.eq_iff_iff,decide_eq_true_eq];exact aw
   ·rintro r ⟨A,B,rfl,rfl,ay,az⟩;rw [R6 ay ?_]
    ·simp
    ·rcases az with rfl | ⟨a3,y,rfl,U⟩
     ·simp
     ·exact UZ am U
  ·rintro r rfl;refine B7 ((i+1+1:Nat):Int) (by simp) (by omega) (by omega) (AS ⟨rfl,?_⟩);simp only;rw [al]
 ·rintro⟨c,w⟩ ⟨K,hw⟩;simp only at K hw;subst K;unfold MY;refine CY (by simp only;omega) (AS ⟨_,rfl,?_⟩);simp only;rw [hw,List.take_of_length_le (by omega),List.drop_eq_nil_of_le (by omega),List.append_nil]
theorem Xe{F:Nat}:∀n,n<=12->∃r,f115 F (C5 ((n:Nat):Int))=some r
 | 0,_ | 1,_ | 2,_ | 3,_ | 4,_ | 5,_ | 6,_ | 7,_ | 8,_ | 9,_ | 10,_ | 11,_ | 12,_=>⟨_,rfl⟩
 | _+13,h=>absurd h (by omega)
theorem Zy{F:Nat}{l:List DT}(K:100<F)(O:l.length<=12)(hb:∀d∈l,BD d):f90 F l=some (Ez l):=by
 obtain⟨F,rfl⟩:∃k,F=k+1:=⟨F - 1,by omega⟩;obtain⟨x,U⟩:=Xe (F:=F+1) l.length O;refine Gl ?_;unfold f90;refine BT (b:=l) (by unfold f129 LV C4;rw [if_pos (by simp;omega)];rfl) (BT (b:=Ez l) ?_ (AS rfl));refine Gl ?_;unfold f130;refine BT U (BT (b:=Ez l) ?_ (AS rfl));refine Gl ?_;unfold f169;refine BH (S:=λr=>r=Sum.inl (Ez l)) ?_ (by rintro r rfl;rw [Sum.elim_inl];exact AS rfl);refine Fb 0 (λ_ _=>True) trivial (by omega) (by intro i s h;omega) ?_;rintro s -;unfold Pd;refine B7 (l.length:Int) (by omega) (by omega) (by omega) (Eh (by omega) ?_);exact BT (Xz K (by omega) hb) (AS ⟨_,rfl,rfl⟩)
theorem Yd{F:Nat}{o:OW}(U:2000<F)(h:VO o):f43 F o=some ((Ja o).take o.1.length,0):=by
 obtain⟨K,O⟩:=Yb (F:=F) (by omega) h;have Y:=h.n5;have Z:=O.1;refine Gl ?_;unfold f43;refine BT (TX (by omega) h) (CY (by simp) ?_);refine BT K (BT (b:=(Ja o).take o.1.length) (by unfold HH;rw [if_pos (by omega)];simp) ?_);exact BT (b:=(Ja o).take o.1.length) (by unfold f87 LZ C4;rw [if_pos (by simp;omega)];rfl) (AS rfl)
end Pal
namespace Pal
def Z2(o:OW)(a b:Int):Bool:=o.2.any λd=>decide (d.1=a)&&decide (d.2.1=b)
def EX(c:List Int):Int:=c.getD (c.length - 1) 0
def aY(o:OW)(c:List Int)(h:Nat):Bool:= !decide ((h:Int)∈c)&&(decide (c= []) || Z2 o (EX c) h)
def aW(o:OW)(c:List Int)(i:Nat):List (List Int):=((List.range i).filter (aY o c)).map λh:Nat=>c++ [(h:Int)]
def ext(o:OW)(c:List Int):List (List Int):=aW o c o.1.length
theorem SB{α β:Type}{f:α->List β}{m:Nat}:∀{l:List α},(∀x∈l,(f x).length<=m)->(l.flatMap f).length<=l.length*m
 | [],_=>by simp
 | a::l,h=>by
  rw [List.flatMap_cons,List.length_append,List.length_cons,Nat.succ_mul]
  have O:=h a List.mem_cons_self
  have U:=SB (l:=l) λx K=>h x (List.mem_cons_of_mem _ K)
  omega
end Pal
namespace Pal
theorem O2{w:List Int}{n:Nat}{i:Int}{B:Int}(hb:BN B w)(K:n<=5)(O:0<=i)(hi:i<n):ix (w.take n) i=some (gN w i.toNat):=by
 have U:=hb.1;have:i.toNat<(w.take n).length:=by rw [List.length_take];omega
 refine Kh (m:=i.toNat) (by omega) ?_;rw [List.getElem?_eq_getElem this,List.getElem_take,Pj (by omega)]
theorem Zq{w:List Int}{i j:Nat}{v:Int}(h:i≠j):gN (w.set i v) j=gN w j:=by
 unfold gN;rw [List.getD_eq_getElem?_getD,List.getElem?_set_ne h,List.getD_eq_getElem?_getD]
theorem Wv{w:List Int}{d:DT}{n:Nat}(O:0<=d.1)(U:0<=d.2.1)(Y:d.1≠d.2.1):(Lb w d).take n=((w.take n).set d.1.toNat (gN w d.1.toNat - d.2.2)).set d.2.1.toNat (gN w d.2.1.toNat+d.2.2):=by
 unfold Lb LY;have K:d.2.1.toNat≠d.1.toNat:=by omega
 rw [Zq K,List.take_set,List.take_set,List.set_comm _ _ K,Int.sub_eq_add_neg]
theorem Yq{F:Nat}{o:OW}(al:100<F)(h:VO o):f89 F o=some ((Ja o).take o.1.length):=by
 have U:=h.n5;have am:=h.d8;refine Gl ?_;unfold f89;refine BT (b:=List.replicate o.1.length 0) ?_ ?_
 ·unfold IE;rw [if_pos (by omega)];rfl
 refine BH (S:=λr=>r=(Ja o).take o.1.length) ?_ (λr Y=>AS Y);refine Fb o.2.length (λi s=>s.2=(i:Int)/\∃w,s.1=w.take o.1.length/\w=(o.2.take i).foldl Lb (List.replicate 5 0)/\BN (20*i) w) ⟨rfl,List.replicate 5 0,by rw [List.take_replicate,Nat.min_eq_left U],rfl,rfl,by simp⟩ (by omega) ?_ ?_
 ·rintro i ⟨s,c⟩ hi ⟨K,w,O,hw,hb⟩;simp only at K O;subst K;subst O;obtain⟨v1,v2,Z,v4,ac,v6,ap⟩:=h.ds _ (List.getElem_mem hi);have ag:=hb.add (i:=o.2[i].2.1) (v:=o.2[i].2.2) (V:=10) (by omega) (by omega) (by omega) (by omega);have g2:=ag.add (i:=o.2[i].1) (v:= -o.2[i].2.2) (V:=10) (by omega) (by omega) (by omega) (by omega);have k1:=hb.bd (i:=o.2[i].2.1.toNat) (by omega);have aq:=hb.bd (i:=o.2[i].1.toNat) (by omega);unfold Nh;refine Eh (by simp only;omega) (DY (m:=i) rfl hi ?_);refine BT (O2 hb U (by omega) (by omega)) (BT (O2 hb U (by omega) (by omega)) ?_);refine B7 _ rfl (by omega) (by omega) (BT (O2 hb U (by omega) (by omega)) ?_);refine B7 _ rfl (by omega) (by omega) (B7 ((i+1:Nat):Int) (by simp) (by omega) (by omega) ?_);refine AS ⟨rfl,Lb w o.2[i],(Wv v1 Z ac).symm,?_,g2.Ag (by omega)⟩;rw [List.take_add_one,List.getElem?_eq_getElem hi,List.foldl_append,← hw]
  rfl
 ·rintro⟨s,c⟩ ⟨K,w,O,hw,hb⟩;simp only at K O;subst K;unfold Nh;rw [List.take_length] at hw;exact CY (by simp) (AS ⟨_,rfl,by simp only;rw [O,hw];rfl⟩)
end Pal
namespace Pal
def Ub(w l:List Int)(g:Int):Nat->Int
 | 0=>0
 | i+1=>Ub w l g i+if l.getD i 0=g then gN w i else 0
def sm(w l:List Int)(g:Int):Int:=Ub w l g l.length
end Pal
