/- DebtAll: Fewest: a part (5 of 9) of the proof of its row. -/
import Derived.Test.YtmeophcclkejkaaGreatAaa
import Derived.Test.YtmeophcclkejkaaGreatAab
import Derived.Test.YtmeophcclkejkaaGreatAac
import Derived.Test.YtmeophcclkejkaaGreatAad
set_option linter.all false
set_option maxRecDepth 100000
namespace Pal
open Go Go.Conc Go.Conc.Lib Go.Proofs Go.ConcR.Gen
theorem JL.uA{J:Judge Tryz.prog}{F:Fam}{Q:GP}{b:Frame}{n:Nat}{L:Env}{ds:Ld_}{k:Li_}{cs:Lf_}{s:St}{ops:Ao_}{i:Nat}{rest:List Nat}{d:Option Tmp}{x:Operand}{ty:TypeId}{p:String}{af:Ae_}{g:On_}(K:FB b n L ops i=some ⟨d,.fieldAddr 140 x 0,ty,p,af,g⟩)(O:ev L x=some (.pointer (some F.uA)))(h:JL J Q b n (Ax L d (.pointer (some F.uA))) ds (.inRegion ops rest::k) cs s):JL J Q b n L ds (.inRegion ops (i::rest)::k) cs s:=Am K (λρ h=>GG (a:=F.uA) 0 0 Tryz.underlying140 (AV Tryz.type21) V V V (h _ _ O)) h
theorem aK{P:Program}{J:Judge P}{Q:GP}{n:Nat}{L:Env}{ds:Ld_}{c:Code}{k:Li_}{cs:Lf_}{s:St}{b:Frame}(h:∀K,K=k->JL J Q b n L ds (.code c::K) cs s):JL J Q b n L ds (.code c::k) cs s:=h _ V
theorem UT{P:Program}{J:Judge P}{Q:GP}{n:Nat}{L:Env}{ds:Ld_}{k:Li_}{cs:Lf_}{s:St}{b:Frame}(h:∀K,K=k->JL J Q b n L ds K cs s):JL J Q b n L ds k cs s:=h _ V
theorem Iv:(Tryz.prog.funcs[189]?).any (·.norace)=true:=by rw [Tryz.func189];rfl
theorem dE:(Tryz.prog.funcs[163]?).any (·.norace)=true:=by rw [Tryz.func163];rfl
theorem cu:(Tryz.prog.funcs[191]?).any (·.norace)=true:=by rw [Tryz.func191];rfl
theorem QF:(Tryz.prog.funcs[211]?).any (·.norace)=true:=by rw [Tryz.func211];rfl
theorem P9:(Tryz.prog.info? 140).map (λi=>decide (i.size=0))=some false:=(congrArg (Option.map (λi=>decide (i.size=0))) Tryz.type140).trans V
abbrev Hc:=Bool×Bool×Nat×M4×Int
def UZ(a:Hc):Prop:=(a.2.1=true->a.2.2.2.1.k=true)/\a.2.2.1<=4/\Da a.2.2.2.1
def QN(a:Hc):LP:= .Cl a.1 a.2.1 a.2.2.1 a.2.2.2.1
theorem ZD{F:Fam}{sv aw:Bool}{it:Nat}{old:M4}{q:Nat}(h:old.l=false/\old.s=false):(mN sv aw old,q,#[Fam.Cc F.uA,Fam.Ew F.uA],some LP.len)∈F.BX (.Cl sv aw it old) old q:=by
 obtain⟨l,k,s,w⟩:=old;obtain⟨K,O⟩:=h;simp only at K O;subst K O;simp [Fam.BX,Fam.FK,mN]
theorem Su{F:Fam}{sv aw:Bool}{it:Nat}{old:M4}{q:Nat}(h:¬(old.l=false/\old.s=false))(x:LP)(K:x= .IB sv∨x= .Cv sv):(mN sv aw old,q,#[Fam.Cc F.uA,Fam.Ew F.uA],some x)∈F.BX (.Cl sv aw it old) old q:=by
 obtain⟨l,k,s,w⟩:=old;show _∈F.FK _ _ _ _ _ _;unfold Fam.FK;rw [List.mem_append];right;rw [if_pos rfl,if_neg h];cases l <;> cases s <;> simp [mN] at h ⊢ <;> rcases K with rfl | rfl <;> simp
theorem XR{F:Fam}{sv aw:Bool}{it:Nat}{old m:M4}{q:Nat}(h:m≠old):(m,q,#[Fam.Cc F.uA],some (LP.Ep sv aw it))∈F.BX (.Cl sv aw it old) m q:=by
 show _∈F.FK _ _ _ _ _ _;unfold Fam.FK;rw [List.mem_append];right;rw [if_neg h];exact List.mem_singleton.2 V
theorem ZF{F:Fam}{sv:Bool}{it:Nat}{old:M4}{q:Nat}(K:old.l=true/\old.s=false)(O:it<4)(U:old.k=false)(Y:old.w≠0):(({old with k:=true}:M4),q,#[Fam.Cc F.uA,Fam.Ew F.uA],some (LP.Ep sv true (it+1)))∈F.BX (.Cl sv false it old) old q:=by
 show _∈F.FK _ _ _ _ _ _;unfold Fam.FK;rw [List.mem_append];left;rw [if_pos ⟨K.1,K.2,O⟩,if_pos ⟨rfl,U,Y⟩,if_pos rfl];exact List.mem_singleton.2 V
theorem Zy{F:Fam}{sv:Bool}{it:Nat}{old m:M4}{q:Nat}(K:old.l=true/\old.s=false)(O:it<4)(U:old.k=false)(Y:old.w≠0)(hm:m≠old):(m,q,#[Fam.Cc F.uA],some (LP.Ep sv false (it+1)))∈F.BX (.Cl sv false it old) m q:=by
 show _∈F.FK _ _ _ _ _ _;unfold Fam.FK;rw [List.mem_append];left;rw [if_pos ⟨K.1,K.2,O⟩,if_pos ⟨rfl,U,Y⟩,if_neg hm];exact List.mem_singleton.2 V
theorem Qa{F:Fam}{sv aw:Bool}{it:Nat}{old m:M4}{q:Nat}(K:old.l=true/\old.s=false)(O:it<4)(U:¬(aw=false/\old.k=false/\old.w≠0)):(m,q,#[],some (LP.Cl sv aw (it+1) m))∈F.BX (.Cl sv aw it old) m q:=by
 show _∈F.FK _ _ _ _ _ _;unfold Fam.FK;rw [List.mem_append];left;rw [if_pos ⟨K.1,K.2,O⟩,if_neg U];exact List.mem_singleton.2 V
theorem He(m:M4)(h:m.s=true):m={m with l:=m.l || !m.s}:=by
 obtain⟨l,k,s,w⟩:=m;simp only at h;subst h;simp
set_option maxHeartbeats 4000000 in
theorem WX{F:Fam}{n:Nat}{L:Env}{ds:Ld_}{k:Li_}{cs:Lf_}{s:St}{b:Frame}{ops:Ao_}{i:Nat}{rest:List Nat}{d:Option Tmp}{x:Operand}{ats:Array TypeId}{ty:TypeId}{pp:String}{af:Ae_}{g:On_}{kk:Nat}(ac:s.q=false)(c6:ops[i]? =some ⟨d,.call ⟨.value (.func 189),#[x],ats⟩,ty,pp,af,g⟩)(hw:AN L ops ⟨d,.call ⟨.value (.func 189),#[x],ats⟩,ty,pp,af,g⟩=some true)(c7:((b.kind != .early)&&Bh n d)=true)(c8:ev L x=some (.pointer (some F.uA)))
  (h:JL (AW Tryz.prog false) (Stop Tryz.prog F (.lk kk .Fj)) b n (Ax L d (.tuple #[])) ds (.inRegion ops rest::k) cs s):
  JL (AW Tryz.prog false) (Stop Tryz.prog F (.lk kk (.Ep false false 0))) b n L ds (.inRegion ops (i::rest)::k) cs s:=by
 refine Hl (vs:= [.pointer (some F.uA)]) c6 hw c7 Tryz.func189 (by decide+kernel) V (by simp [evs,c8]) (Nat.le_of_ble_eq_true V) λb6 back=>C 20 V (JL.uA V V ?_);refine Ho (kk:=kk) (p:= .Ep false false 0) CY.stop ac V V V V V Hh Iv V λm0 ek b1=>⟨some (.Cl false false 0 m0),List.mem_singleton.2 V,?_⟩;refine C 3 V (aK λc9 dd=>?_);have a1:∀X:Ph->GP,CY Tryz.prog F X->(∀p g s,Stop Tryz.prog F p g s->X p g s)->∀L',look L' 0=some (.pointer (some F.uA))->JL (AW Tryz.prog false) (X (.lk kk .len)) (base 189) Tryz.f189.ntmps L' [] c9 (b6::cs) s:=by
  intro X O ay L' dn;rw [dd];refine Ff (L':= [(0,.pointer (some F.uA))]) ⟨dn,trivial⟩ (C 3 V ?_);refine Lp (kk:=kk) (p:= .len) O ac V (λ_ _=>V) V V V V (by simp) OG (C 3 V ?_);refine Pu (kk:=kk) (p:= .K0) O ac V (λ_ _=>V) V V V V Tryz.underlying229 Tryz.underlying185 P9 V (PY (kk:=kk) (p:= .Kd) (ad:=F.uA) O ac V (λ_ _=>V) V V V V (by simp) UY V V ?_);refine JL.done (JL.fin V V (Bz.none Tryz.func189 V) (back _ _ _ _ ?_));exact Np (λg s=>ay _ g s) h
 refine JL.block (IQ ?_);refine EA [(0,.pointer (some F.uA)),(2,iV 0),(3,.bool false),(4,.bool false),(5,iV ((0:Nat):Int)),(6,.int .i32 (m0:M4).num)] V (UT λca a6=>?_);refine UJ (P:=Tryz.prog) (F:=F) (s:=s) (kk:=kk) (ph:=QN) (ok:=UZ) (head:=λ(X:Ph->GP) (a:Hc)=>JL (AW Tryz.prog false) (X (.lk kk (QN a))) (base 189) Tryz.f189.ntmps ([(0,.pointer (some F.uA)),(2,iV a.2.2.2.2),(3,.bool a.1),(4,.bool a.2.1),(5,iV (a.2.2.1:Int)),(6,.int .i32 (a.2.2.2.1:M4).num)]) [] ca (b6::cs) s) ?_ (false,false,0,m0,0) ⟨(λe=>by cases e),Nat.zero_le _,b1.2.2.1⟩;intro Y b2 el hC;have key:∀N (a:Hc),4 - a.2.2.1<N->UZ a->(λ(X:Ph->GP) (a:Hc)=>JL (AW Tryz.prog false) (X (.lk kk (QN a))) (base 189) Tryz.f189.ntmps ([(0,.pointer (some F.uA)),(2,iV a.2.2.2.2),(3,.bool a.1),(4,.bool a.2.1),(5,iV (a.2.2.1:Int)),(6,.int .i32 (a.2.2.2.1:M4).num)]) [] ca (b6::cs) s) Y a:=by
  intro N
  induction N with
  | zero=>intro a ci;omega
  | succ N b3=>
   rintro⟨sv,aw,it,old,wt⟩ ea b1;simp only at ea;have eb:aw=true->old.k=true:=b1.1;have cc:Da old:=b1.2.2;have a2:Cm old:=cc.Cm;show JL (AW Tryz.prog false) (Y (.lk kk (.Cl sv aw it old))) (base 189) Tryz.f189.ntmps [(0,.pointer (some F.uA)),(2,iV wt),(3,.bool sv),(4,.bool aw),(5,iV (it:Int)),(6,.int .i32 (old:M4).num)] [] ca (b6::cs) s;rw [a6];refine C 2 V (Br (λL s'=>s=s'/\L= [(0,.pointer (some F.uA)),(2,iV wt),(3,.bool sv),(4,.bool aw),(5,iV (it:Int)),(6,.int .i32 (old:M4).num)]) ?_ ?_)
   rotate_left
   ·intro az;refine C 3 V (Am (v:=CR (Bw old&&& 5)) V (λρ h=>Ey (c:=5) a2 (h _ _ V) (h _ _ V) (by decide)) ?_);refine C 2 V (Mc (q:=((Bw old&&& 5:Nat):Int)=1) (i:=17) V (λco=>?_) (λco=>?_))
    ·refine Am (v:=iV (it:Int)) V (λρ h=>Yl.move (h _ _ V)) (JL.canSpin (it:=(it:Int)) ac V V V V bS V (λGx=>?_) ?_)
     ·refine Am (v:= .bool true) V (λρ h=>Ma (h _ _ V) (h _ _ V)) ?_;have a3:=(dS old).1 co;refine C 5 V ?_;have b4:it<4:=by omega
      refine C 1 V (Am (v:= .bool (!aw)) V (λρ h=>Yl.not (h _ _ V)) ?_);refine C 1 V (KA (c:= !aw) (i:=23) V (λc1=>?_) (λc1=>?_))
      ·refine Am (v:= .int .i32 (old:M4).num) V (λρ h=>Yl.move (h _ _ V)) (Am (v:=CR (Bw old&&& 2)) V (λρ h=>Ey (c:=2) a2 (h _ _ V) (h _ _ V) (by decide)) ?_);refine C 3 V (Mc (q:=((Bw old&&& 2:Nat):Int)=0) (i:=28) V (λc2=>?_) (λc2=>?_))
       ·refine Am (v:= .int .i32 (old:M4).num) V (λρ h=>Yl.move (h _ _ V)) (Am (v:=CR old.w) V (λρ h=>IU a2 (h _ _ V) (h _ _ V)) ?_);refine C 3 V (Mc (q:=(old.w:Int)≠0) (i:=33) V (λc3=>?_) (λc3=>?_))
        ·have ec:aw=false:=by simpa using c1
         subst ec;have cp:=(QE old).1 c2;have ct:old.w≠0:=by omega
         refine C 2 V (JL.uA V V ?_);refine C 2 V (Am (v:= .int .i32 ({old with k:=true}:M4).num) V (λρ h=>NZ (c:=2) a2 (by decide) (Rb old) V (h _ _ V) (h _ _ V)) ?_);refine SK (kk:=kk) (p:= .Cl sv false it old) (old:=old) (nw:={old with k:=true}) b2 ac V V V V V On V V V (λq a4=>⟨some (.Ep sv true (it+1)),ZF a3 b4 cp ct,?_⟩) (λm q hm a4=>⟨some (.Ep sv false (it+1)),Zy a3 b4 cp ct hm,?_⟩)
         ·refine Am (v:= .bool true) V (λρ h=>Ma (h _ _ V) (h _ _ V)) (C 7 V ?_);refine JL.ext (v:= .tuple #[]) V V V Me V V (C 4 V ?_);refine Am (v:=iV ((it+1:Nat):Int)) V (λρ h=>FF (h _ _ V) (h _ _ V) (by unfold Ar;rw [if_pos (by omega)];congr 1)) (C 6 V ?_);refine JL.uA V V (Ho (kk:=kk) (p:= .Ep sv true (it+1)) b2 ac V V V V V Hh Iv V λa7 cw bv=>⟨some (.Cl sv true (it+1) a7),List.mem_singleton.2 V,?_⟩);refine C 3 V (JL.again ?_);rw [← a6];exact EA [(0,.pointer (some F.uA)),(2,iV wt),(3,.bool sv),(4,.bool true),(5,iV ((it+1:Nat):Int)),(6,.int .i32 (a7:M4).num)] V (b3 (sv,true,it+1,a7,wt) (by show 4 - (it+1)<N;omega) ⟨bv.2.2.2,(by show it+1<=4;omega),bv.2.2.1⟩)
         ·refine Am (v:= .bool false) V (λρ h=>Ma (h _ _ V) (h _ _ V)) (C 5 V ?_);refine JL.ext (v:= .tuple #[]) V V V Me V V (C 4 V ?_);refine Am (v:=iV ((it+1:Nat):Int)) V (λρ h=>FF (h _ _ V) (h _ _ V) (by unfold Ar;rw [if_pos (by omega)];congr 1)) (C 6 V ?_);refine JL.uA V V (Ho (kk:=kk) (p:= .Ep sv false (it+1)) b2 ac V V V V V Hh Iv V λa7 cw bv=>⟨some (.Cl sv false (it+1) a7),List.mem_singleton.2 V,?_⟩);refine C 3 V (JL.again ?_);rw [← a6];exact EA [(0,.pointer (some F.uA)),(2,iV wt),(3,.bool sv),(4,.bool false),(5,iV ((it+1:Nat):Int)),(6,.int .i32 (a7:M4).num)] V (b3 (sv,false,it+1,a7,wt) (by show 4 - (it+1)<N;omega) ⟨bv.2.2.2,(by show it+1<=4;omega),bv.2.2.1⟩)
        ·refine Iz V V V (C 12 V ?_);refine JL.ext (v:= .tuple #[]) V V V Me V V (C 4 V ?_);refine Am (v:=iV ((it+1:Nat):Int)) V (λρ h=>FF (h _ _ V) (h _ _ V) (by unfold Ar;rw [if_pos (by omega)];congr 1)) (C 6 V ?_);refine JL.uA V V (Ho (kk:=kk) (p:= .Cl sv aw it old) b2 ac V V V V V Hh Iv V λm q a4=>⟨some (.Cl sv aw (it+1) m),Qa a3 b4 (λe=>c3 (by omega)),?_⟩);refine C 3 V (JL.again ?_);rw [← a6];exact EA [(0,.pointer (some F.uA)),(2,iV wt),(3,.bool sv),(4,.bool aw),(5,iV ((it+1:Nat):Int)),(6,.int .i32 (m:M4).num)] V (b3 (sv,aw,it+1,m,wt) (by show 4 - (it+1)<N;omega) ⟨a4.2.2.2.2.2,(by show it+1<=4;omega),a4.2.2.2.2.1⟩)
       ·refine Iz V V V (C 17 V ?_);refine JL.ext (v:= .tuple #[]) V V V Me V V (C 4 V ?_);refine Am (v:=iV ((it+1:Nat):Int)) V (λρ h=>FF (h _ _ V) (h _ _ V) (by unfold Ar;rw [if_pos (by omega)];congr 1)) (C 6 V ?_);refine JL.uA V V (Ho (kk:=kk) (p:= .Cl sv aw it old) b2 ac V V V V V Hh Iv V λm q a4=>⟨some (.Cl sv aw (it+1) m),Qa a3 b4 (λe=>c2 ((QE old).2 e.2.1)),?_⟩);refine C 3 V (JL.again ?_);rw [← a6];exact EA [(0,.pointer (some F.uA)),(2,iV wt),(3,.bool sv),(4,.bool aw),(5,iV ((it+1:Nat):Int)),(6,.int .i32 (m:M4).num)] V (b3 (sv,aw,it+1,m,wt) (by show 4 - (it+1)<N;omega) ⟨a4.2.2.2.2.2,(by show it+1<=4;omega),a4.2.2.2.2.1⟩)
      ·refine Iz V V V (C 22 V ?_);refine JL.ext (v:= .tuple #[]) V V V Me V V (C 4 V ?_);refine Am (v:=iV ((it+1:Nat):Int)) V (λρ h=>FF (h _ _ V) (h _ _ V) (by unfold Ar;rw [if_pos (by omega)];congr 1)) (C 6 V ?_);refine JL.uA V V (Ho (kk:=kk) (p:= .Cl sv aw it old) b2 ac V V V V V Hh Iv V λm q a4=>⟨some (.Cl sv aw (it+1) m),Qa a3 b4 (λe=>by rw [e.1] at c1;cases c1),?_⟩);refine C 3 V (JL.again ?_);rw [← a6];exact EA [(0,.pointer (some F.uA)),(2,iV wt),(3,.bool sv),(4,.bool aw),(5,iV ((it+1:Nat):Int)),(6,.int .i32 (m:M4).num)] V (b3 (sv,aw,it+1,m,wt) (by show 4 - (it+1)<N;omega) ⟨a4.2.2.2.2.2,(by show it+1<=4;omega),a4.2.2.2.2.1⟩)
     ·refine Am (v:= .bool false) V (λρ h=>Ma (h _ _ V) (h _ _ V)) (C 3 V ?_);exact AB (az _ _ ⟨V,V⟩) V
    ·refine Iz V V V (C 5 V ?_);exact AB (az _ _ ⟨V,V⟩) V
   rintro _ _ ⟨rfl,rfl⟩;refine C 6 V (Br (λL s'=>s=s'/\L= [(0,.pointer (some F.uA)),(2,iV wt),(3,.bool sv),(4,.bool aw),(5,iV (it:Int)),(6,.int .i32 (old:M4).num),(7,.int .i32 ({old with l:=old.l || !old.s}:M4).num)]) ?_ ?_)
   rotate_left
   ·intro az;refine C 3 V (Am (v:=CR (Bw old&&& 4)) V (λρ h=>Ey (c:=4) a2 (h _ _ V) (h _ _ V) (by decide)) ?_);refine C 2 V (Gp (p:=((Bw old&&& 4:Nat):Int)=0) V (λc=>?_) (λc=>?_))
    ·refine JL.region (C 1 V ?_);refine Am (v:= .int .i32 ({old with l:=true}:M4).num) V (λρ h=>NZ (c:=1) a2 (by decide) (dT old) V (h _ _ V) (h _ _ V)) (C 2 V ?_);refine Ff ?_ (az _ _ ⟨V,V⟩);exact⟨V,V,V,V,V,V,congrArg (λm:M4=>some (Value.int .i32 m.num)) (by rw [(HW old).1 c];simp),trivial⟩
    ·refine JL.skip (Ff ?_ (az _ _ ⟨V,V⟩));exact⟨V,V,V,V,V,V,congrArg (λm:M4=>some (Value.int .i32 m.num)) ((Bool.eq_false_or_eq_true old.s).elim (He old) (λhh=>absurd ((HW old).2 hh) c)),trivial⟩
   rintro _ _ ⟨rfl,rfl⟩;have em:Cm {old with l:=old.l || !old.s}:=a2;refine JL.seq (Br (λL s'=>s=s'/\L= [(0,.pointer (some F.uA)),(2,iV wt),(3,.bool sv),(4,.bool aw),(5,iV (it:Int)),(6,.int .i32 (old:M4).num),(7,.int .i32 ({old with l:=old.l || !old.s,w:=if old.l=true∨old.s=true then old.w+1 else old.w}:M4).num)]) ?_ ?_)
   rotate_left
   ·intro az;refine C 3 V (Am (v:=CR (Bw old&&& 5)) V (λρ h=>Ey (c:=5) a2 (h _ _ V) (h _ _ V) (by decide)) ?_);refine C 2 V (Gp (p:=((Bw old&&& 5:Nat):Int)≠0) V (λc=>?_) (λc=>?_))
    ·refine JL.region (C 1 V ?_);refine Am (v:= .int .i32 ({old with l:=old.l || !old.s,w:=old.w+1}:M4).num) V (λρ h=>ZM (m:={old with l:=old.l || !old.s}) cc (h _ _ V) (h _ _ V)) (C 2 V ?_);refine Ff ?_ (az _ _ ⟨V,V⟩);exact⟨V,V,V,V,V,V,congrArg (λm:M4=>some (Value.int .i32 m.num)) (by rw [if_pos (by have:=λe=>c ((MF old).2 e);cases eo:old.l <;> cases er:old.s <;> simp_all)]),trivial⟩
    ·refine JL.skip (Ff ?_ (az _ _ ⟨V,V⟩));exact⟨V,V,V,V,V,V,congrArg (λm:M4=>some (Value.int .i32 m.num)) (by rw [if_neg (by have:=(MF old).1 (Decidable.not_not.1 c);rw [this.1,this.2];simp)]),trivial⟩
   rintro _ _ ⟨rfl,rfl⟩;have cy:Cm ({old with l:=old.l || !old.s,w:=if old.l=true∨old.s=true then old.w+1 else old.w}:M4):=by unfold Da at cc;unfold Cm;simp only;split <;> omega
   refine JL.seq (Br (λL s'=>s=s'/\L= [(0,.pointer (some F.uA)),(2,iV wt),(3,.bool sv),(4,.bool aw),(5,iV (it:Int)),(6,.int .i32 (old:M4).num),(7,.int .i32 ({old with l:=old.l || !old.s,s:=old.s || (sv&&old.l),w:=if old.l=true∨old.s=true then old.w+1 else old.w}:M4).num)]) ?_ ?_)
   rotate_left
   ·intro az;refine C 4 V (KA (c:=sv) (i:=61) V (λc1=>?_) (λc1=>?_))
    ·refine Am (v:= .int .i32 (old:M4).num) V (λρ h=>Yl.move (h _ _ V)) (Am (v:=CR (Bw old&&& 1)) V (λρ h=>Ey (c:=1) a2 (h _ _ V) (h _ _ V) (by decide)) ?_);refine C 3 V (Gp (p:=((Bw old&&& 1:Nat):Int)≠0) V (λc=>?_) (λc=>?_))
     ·refine JL.region (C 1 V ?_);refine Am (v:= .int .i32 ({old with s:=true,l:=old.l || !old.s,w:=if old.l=true∨old.s=true then old.w+1 else old.w}:M4).num) V (λρ h=>NZ (c:=4) (m:={old with l:=old.l || !old.s,w:=if old.l=true∨old.s=true then old.w+1 else old.w}) cy (by decide) (et _) V (h _ _ V) (h _ _ V)) ?_
      refine C 2 V (Ff ?_ (az _ _ ⟨V,V⟩));exact⟨V,V,V,V,V,V,congrArg (λm:M4=>some (Value.int .i32 m.num)) (by rcases Bool.eq_false_or_eq_true old.l with hh | hh <;> first | exact absurd ((QH old).2 hh) c | (rw [c1,hh];simp)),trivial⟩
     ·refine JL.skip (Ff ?_ (az _ _ ⟨V,V⟩));exact⟨V,V,V,V,V,V,congrArg (λm:M4=>some (Value.int .i32 m.num)) (by have:=(QH old).1 (Decidable.not_not.1 c);rw [this];simp),trivial⟩
    ·refine Iz V V V (C 6 V ?_);refine Ff ?_ (az _ _ ⟨V,V⟩);exact⟨V,V,V,V,V,V,congrArg (λm:M4=>some (Value.int .i32 m.num)) (by rw [c1];simp),trivial⟩
   rintro _ _ ⟨rfl,rfl⟩;have c0:Cm ({old with l:=old.l || !old.s,s:=old.s || (sv&&old.l),w:=if old.l=true∨old.s=true then old.w+1 else old.w}:M4):=cy
   refine JL.seq (Br (λL s'=>s=s'/\L= [(0,.pointer (some F.uA)),(2,iV wt),(3,.bool sv),(4,.bool aw),(5,iV (it:Int)),(6,.int .i32 (old:M4).num),(7,.int .i32 (mN sv aw old:M4).num)]) ?_ ?_)
   rotate_left
   ·intro az;refine C 4 V (PI (t:=aw) V (λc=>?_) (λc=>?_))
    ·have c4:old.k=true:=eb c;refine C 4 V ?_;refine Am (v:=CR (Bw ({old with l:=old.l || !old.s,s:=old.s || (sv&&old.l),w:=if old.l=true∨old.s=true then old.w+1 else old.w}:M4)&&& 2)) V (λρ h=>Ey (c:=2) (m:={old with l:=old.l || !old.s,s:=old.s || (sv&&old.l),w:=if old.l=true∨old.s=true then old.w+1 else old.w}) c0 (h _ _ V) (h _ _ V) (by decide)) ?_
     refine Am (v:= .bool false) V (λρ h=>Yl.to (Yl.eql (h _ _ V) (h _ _ V)) (by rw [decide_eq_false (λe=>by have q:=(QE _).1 e;simp only at q;rw [c4] at q;cases q)])) (C 5 V ?_);refine Am (v:= .int .i32 ({old with k:=false,l:=old.l || !old.s,s:=old.s || (sv&&old.l),w:=if old.l=true∨old.s=true then old.w+1 else old.w}:M4).num) V (λρ h=>Yl.PV (m:={old with l:=old.l || !old.s,s:=old.s || (sv&&old.l),w:=if old.l=true∨old.s=true then old.w+1 else old.w}) c0 c4 (h _ _ V) (h _ _ V)) ?_
     refine C 2 V (Ff ?_ (az _ _ ⟨V,V⟩));exact⟨V,V,V,V,V,V,congrArg (λm:M4=>some (Value.int .i32 m.num)) (by simp [mN,c]),trivial⟩
    ·refine JL.skip (Ff ?_ (az _ _ ⟨V,V⟩));exact⟨V,V,V,V,V,V,congrArg (λm:M4=>some (Value.int .i32 m.num)) (by simp [mN,c]),trivial⟩
   rintro _ _ ⟨rfl,rfl⟩;refine C 4 V (JL.uA V V ?_);refine C 2 V (λT ed=>(AW Tryz.prog false).stop (hC (sv,aw,it,old,wt) _ b1 λX eu ee O ay b5=>?_));refine PC (kk:=kk) (p:= .Cl sv aw it old) (old:=old) (nw:=mN sv aw old) ee ac V V V V V On V V V (λq a4=>?_) (λm q hm a4=>⟨some (.Ep sv aw it),XR hm,?_⟩) T ed
   ·by_cases a3:old.l=false/\old.s=false
    ·refine⟨some .len,ZD a3,?_⟩;refine C 6 V (Am (v:=CR (Bw old&&& 5)) V (λρ h=>Ey (c:=5) a2 (h _ _ V) (h _ _ V) (by decide)) ?_);refine Am (v:= .bool true) V (λρ h=>Yl.to (Yl.eql (h _ _ V) (h _ _ V)) (by rw [decide_eq_true ((MF old).2 a3)])) (C 3 V ?_);exact a1 X O ay _ V
    ·by_cases c5:wt=0
     ·refine⟨some ((.IB sv)),Su a3 _ (.inl V),?_⟩;refine C 6 V (Am (v:=CR (Bw old&&& 5)) V (λρ h=>Ey (c:=5) a2 (h _ _ V) (h _ _ V) (by decide)) ?_);refine Am (v:= .bool false) V (λρ h=>Yl.to (Yl.eql (h _ _ V) (h _ _ V)) (by rw [decide_eq_false (λe=>a3 ((MF old).1 e))])) ?_;refine C 13 V (Am (v:= .bool true) V (λρ h=>Yl.to (Yl.eql (h _ _ V) (h _ _ V)) (by rw [decide_eq_true c5])) ?_);refine C 3 V (Pw (kk:=kk) (p:= .IB sv) O ac V V V V V Qk QF λm a5 v al=>⟨some (.Cv sv),List.mem_singleton.2 V,?_⟩);refine C 6 V (Am (v:= .pointer (some F.qA)) V (λρ h=>GG (a:=F.uA) 0 1 Tryz.underlying140 M5 V V V (h _ _ V)) ?_);refine C 1 V (Sc (kk:=kk) (sv:=sv) O ac V V V V Ug V V ?_);refine JL.done ?_;cases sv
      ·rw [if_neg (by decide)];refine C 4 V (Pw (kk:=kk) (p:= .Gf) O ac V V V V V Qk QF λef eg v2 ej=>⟨some (.ED (decide (IntKind.i64.wrap (v2 - v)>1000000))),by (cases decide (IntKind.i64.wrap (v2 - v)>1000000) <;> simp [Fam.BX]),?_⟩);refine C 1 V (Am (v:= .int .i64 (IntKind.i64.wrap (v2 - v))) V (λρ h=>Yl.sub (h _ _ V) (h _ _ V)) ?_);refine C 4 V ?_;generalize decide (IntKind.i64.wrap (v2 - v)>1000000)=av;refine C 4 V (JL.uA V V ?_);refine Ho (kk:=kk) (p:= .ED av) O ac V V V V V Hh Iv V ?_;intro m ce a0;have a8:Da m:=a0.2.2;have am:Cm m:=a8.Cm;by_cases ag:m.s=true
       ·refine⟨some (.En (!av || m.w==1)),by simp [Fam.BX,ag],?_⟩;refine C 2 V ?_;obtain⟨bw,bx,bz⟩:=a0.1 ag;refine C 4 V (Am (v:=CR (Bw m&&& 4)) V (λρ h=>Ey (c:=4) am (h _ _ V) (h _ _ V) (by decide)) ?_);refine Am (v:= .bool true) V (λρ h=>Yl.to (HN (h _ _ V) (h _ _ V)) (by have b0:(((Bw m&&& 4:Nat):Int)≠0):=(λe=>by rw [(HW m).1 e] at ag;cases ag);rw [decide_eq_true b0])) ?_;refine C 6 V (Am (v:=CR (Bw m&&& 3)) V (λρ h=>Ey (c:=3) am (h _ _ V) (h _ _ V) (by decide)) ?_);refine Am (v:= .bool false) V (λρ h=>Yl.to (HN (h _ _ V) (h _ _ V)) (by rw [(Oj m).2 ⟨bw,bx⟩];rfl)) (C 2 V ?_);refine Am (v:=CR m.w) V (λρ h=>IU am (h _ _ V) (h _ _ V)) (Am (v:= .bool false) V (λρ h=>Yl.to (Yl.eql (h _ _ V) (h _ _ V)) (by rw [decide_eq_false (λe=>bz (by omega))])) ?_);refine C 12 V (Am (v:= .bool (!av)) V (λρ h=>Yl.not (h _ _ V)) ?_);refine C 1 V (KA (c:= !av) (i:=119) V (λd1=>?_) (λd1=>?_))
        ·refine Iz V V V (C 5 V ?_);have hex:(!av || m.w==1)=true:=by rw [d1];simp
         rw [hex];refine C 2 V (Am (v:= .int .i32 (-11)) V (λρ h=>Yl.to (Yl.sub (h _ _ V) (h _ _ V)) V) ?_);refine C 6 V (JL.uA V V ?_);refine C 1 V (Hk (kk:=kk) (p:= .En true) (dl:= -11) O ac V V V V V Ht V V λK a5 al=>⟨⟨true,K.k,false,K.w - 1⟩,some .len,?_,List.mem_singleton.2 V,?_⟩)
         ·obtain⟨a9,bb,be,w3⟩:=K;obtain⟨U,g2,Z,ap,bi,aq⟩:=al;simp only at U g2 Z ap;subst U g2 Z;have bn:w3<134217728:=aq;have e:(⟨false,false,true,w3⟩:M4).num+(-11)=((8*(w3 - 1)+1:Nat):Int):=by simp only [M4.num,Bool.toNat_true,Bool.toNat_false];omega
          rw [e,FH (by omega)];simp only [M4.num,Bool.toNat_true,Bool.toNat_false];omega
         exact C 2 V (a1 X O ay _ V)
        ·refine Am (v:= .int .i32 (m:M4).num) V (λρ h=>Yl.move (h _ _ V)) (Am (v:=CR m.w) V (λρ h=>IU am (h _ _ V) (h _ _ V)) ?_);refine C 3 V (Gp (p:=(m.w:Int)=1) V (λd2=>?_) (λd2=>?_))
         ·have hex:(!av || m.w==1)=true:=by rw [d1];simp;omega
          rw [hex];refine C 2 V (Am (v:= .int .i32 (-11)) V (λρ h=>Yl.to (Yl.sub (h _ _ V) (h _ _ V)) V) ?_);refine C 6 V (JL.uA V V ?_);refine C 1 V (Hk (kk:=kk) (p:= .En true) (dl:= -11) O ac V V V V V Ht V V λK a5 al=>⟨⟨true,K.k,false,K.w - 1⟩,some .len,?_,List.mem_singleton.2 V,?_⟩)
          ·obtain⟨a9,bb,be,w3⟩:=K;obtain⟨U,g2,Z,ap,bi,aq⟩:=al;simp only at U g2 Z ap;subst U g2 Z;have bn:w3<134217728:=aq;have e:(⟨false,false,true,w3⟩:M4).num+(-11)=((8*(w3 - 1)+1:Nat):Int):=by simp only [M4.num,Bool.toNat_true,Bool.toNat_false];omega
           rw [e,FH (by omega)];simp only [M4.num,Bool.toNat_true,Bool.toNat_false];omega
          exact C 2 V (a1 X O ay _ V)
         ·have hex:(!av || m.w==1)=false:=by rw [d1];simp;omega
          rw [hex];refine C 5 V (JL.uA V V ?_);refine C 1 V (Hk (kk:=kk) (p:= .En false) (dl:= -7) O ac V V V V V Ht V V λK a5 al=>⟨⟨true,K.k,true,K.w - 1⟩,some .len,?_,List.mem_singleton.2 V,?_⟩)
          ·obtain⟨a9,bb,be,w3⟩:=K;obtain⟨U,g2,Z,ap,bi,aq⟩:=al;simp only at U g2 Z ap;subst U g2 Z;have bn:w3<134217728:=aq;have e:(⟨false,false,true,w3⟩:M4).num+(-7)=((8*(w3 - 1)+5:Nat):Int):=by simp only [M4.num,Bool.toNat_true,Bool.toNat_false];omega
           rw [e,FH (by omega)];simp only [M4.num,Bool.toNat_true,Bool.toNat_false];omega
          exact C 2 V (a1 X O ay _ V)
       ·refine⟨some (.Cl av true 0 m),by simp [Fam.BX,ag],?_⟩;refine C 2 V ?_;have bo:m.s=false:=by simpa using ag
        refine C 4 V (Am (v:=CR (Bw m&&& 4)) V (λρ h=>Ey (c:=4) am (h _ _ V) (h _ _ V) (by decide)) ?_);refine Am (v:= .bool false) V (λρ h=>Yl.to (HN (h _ _ V) (h _ _ V)) (by rw [(HW m).2 bo];rfl)) (C 11 V ?_);refine JL.again ?_;rw [← a6];exact EA [(0,.pointer (some F.uA)),(2,iV v),(3,.bool av),(4,.bool true),(5,iV ((0:Nat):Int)),(6,.int .i32 (m:M4).num)] V (b5 (av,true,0,m,v) ⟨λ_=>a0.2.1 bo,Nat.zero_le _,a8⟩)
      ·rw [if_pos rfl];refine C 15 V (JL.uA V V ?_);refine Ho (kk:=kk) (p:= .ED true) O ac V V V V V Hh Iv V ?_;intro m ce a0;have a8:Da m:=a0.2.2;have am:Cm m:=a8.Cm;by_cases ag:m.s=true
       ·refine⟨some (.En (!true || m.w==1)),by simp [Fam.BX,ag],?_⟩;refine C 2 V ?_;obtain⟨bw,bx,bz⟩:=a0.1 ag;refine C 4 V (Am (v:=CR (Bw m&&& 4)) V (λρ h=>Ey (c:=4) am (h _ _ V) (h _ _ V) (by decide)) ?_);refine Am (v:= .bool true) V (λρ h=>Yl.to (HN (h _ _ V) (h _ _ V)) (by have b0:(((Bw m&&& 4:Nat):Int)≠0):=(λe=>by rw [(HW m).1 e] at ag;cases ag);rw [decide_eq_true b0])) ?_;refine C 6 V (Am (v:=CR (Bw m&&& 3)) V (λρ h=>Ey (c:=3) am (h _ _ V) (h _ _ V) (by decide)) ?_);refine Am (v:= .bool false) V (λρ h=>Yl.to (HN (h _ _ V) (h _ _ V)) (by rw [(Oj m).2 ⟨bw,bx⟩];rfl)) (C 2 V ?_);refine Am (v:=CR m.w) V (λρ h=>IU am (h _ _ V) (h _ _ V)) (Am (v:= .bool false) V (λρ h=>Yl.to (Yl.eql (h _ _ V) (h _ _ V)) (by rw [decide_eq_false (λe=>bz (by omega))])) ?_);refine C 12 V (Am (v:= .bool (!true)) V (λρ h=>Yl.not (h _ _ V)) ?_);refine C 1 V (KA (c:= !true) (i:=119) V (λd1=>?_) (λd1=>?_))
        ·refine Iz V V V (C 5 V ?_);have hex:(!true || m.w==1)=true:=by rw [d1];simp
         rw [hex];refine C 2 V (Am (v:= .int .i32 (-11)) V (λρ h=>Yl.to (Yl.sub (h _ _ V) (h _ _ V)) V) ?_);refine C 6 V (JL.uA V V ?_);refine C 1 V (Hk (kk:=kk) (p:= .En true) (dl:= -11) O ac V V V V V Ht V V λK a5 al=>⟨⟨true,K.k,false,K.w - 1⟩,some .len,?_,List.mem_singleton.2 V,?_⟩)
         ·obtain⟨a9,bb,be,w3⟩:=K;obtain⟨U,g2,Z,ap,bi,aq⟩:=al;simp only at U g2 Z ap;subst U g2 Z;have bn:w3<134217728:=aq;have e:(⟨false,false,true,w3⟩:M4).num+(-11)=((8*(w3 - 1)+1:Nat):Int):=by simp only [M4.num,Bool.toNat_true,Bool.toNat_false];omega
          rw [e,FH (by omega)];simp only [M4.num,Bool.toNat_true,Bool.toNat_false];omega
         exact C 2 V (a1 X O ay _ V)
        ·refine Am (v:= .int .i32 (m:M4).num) V (λρ h=>Yl.move (h _ _ V)) (Am (v:=CR m.w) V (λρ h=>IU am (h _ _ V) (h _ _ V)) ?_);refine C 3 V (Gp (p:=(m.w:Int)=1) V (λd2=>?_) (λd2=>?_))
         ·have hex:(!true || m.w==1)=true:=by rw [d1];simp;omega
          rw [hex];refine C 2 V (Am (v:= .int .i32 (-11)) V (λρ h=>Yl.to (Yl.sub (h _ _ V) (h _ _ V)) V) ?_);refine C 6 V (JL.uA V V ?_);refine C 1 V (Hk (kk:=kk) (p:= .En true) (dl:= -11) O ac V V V V V Ht V V λK a5 al=>⟨⟨true,K.k,false,K.w - 1⟩,some .len,?_,List.mem_singleton.2 V,?_⟩)
          ·obtain⟨a9,bb,be,w3⟩:=K;obtain⟨U,g2,Z,ap,bi,aq⟩:=al;simp only at U g2 Z ap;subst U g2 Z;have bn:w3<134217728:=aq;have e:(⟨false,false,true,w3⟩:M4).num+(-11)=((8*(w3 - 1)+1:Nat):Int):=by simp only [M4.num,Bool.toNat_true,Bool.toNat_false];omega
           rw [e,FH (by omega)];simp only [M4.num,Bool.toNat_true,Bool.toNat_false];omega
          exact C 2 V (a1 X O ay _ V)
         ·have hex:(!true || m.w==1)=false:=by rw [d1];simp;omega
          rw [hex];refine C 5 V (JL.uA V V ?_);refine C 1 V (Hk (kk:=kk) (p:= .En false) (dl:= -7) O ac V V V V V Ht V V λK a5 al=>⟨⟨true,K.k,true,K.w - 1⟩,some .len,?_,List.mem_singleton.2 V,?_⟩)
          ·obtain⟨a9,bb,be,w3⟩:=K;obtain⟨U,g2,Z,ap,bi,aq⟩:=al;simp only at U g2 Z ap;subst U g2 Z;have bn:w3<134217728:=aq;have e:(⟨false,false,true,w3⟩:M4).num+(-7)=((8*(w3 - 1)+5:Nat):Int):=by simp only [M4.num,Bool.toNat_true,Bool.toNat_false];omega
           rw [e,FH (by omega)];simp only [M4.num,Bool.toNat_true,Bool.toNat_false];omega
          exact C 2 V (a1 X O ay _ V)
       ·refine⟨some (.Cl true true 0 m),by simp [Fam.BX,ag],?_⟩;refine C 2 V ?_;have bo:m.s=false:=by simpa using ag
        refine C 4 V (Am (v:=CR (Bw m&&& 4)) V (λρ h=>Ey (c:=4) am (h _ _ V) (h _ _ V) (by decide)) ?_);refine Am (v:= .bool false) V (λρ h=>Yl.to (HN (h _ _ V) (h _ _ V)) (by rw [(HW m).2 bo];rfl)) (C 11 V ?_);refine JL.again ?_;rw [← a6];exact EA [(0,.pointer (some F.uA)),(2,iV v),(3,.bool true),(4,.bool true),(5,iV ((0:Nat):Int)),(6,.int .i32 (m:M4).num)] V (b5 (true,true,0,m,v) ⟨λ_=>a0.2.1 bo,Nat.zero_le _,a8⟩)
     ·refine⟨some ((.Cv sv)),Su a3 _ (.inr V),?_⟩;refine C 6 V (Am (v:=CR (Bw old&&& 5)) V (λρ h=>Ey (c:=5) a2 (h _ _ V) (h _ _ V) (by decide)) ?_);refine Am (v:= .bool false) V (λρ h=>Yl.to (Yl.eql (h _ _ V) (h _ _ V)) (by rw [decide_eq_false (λe=>a3 ((MF old).1 e))])) ?_;refine C 13 V (Am (v:= .bool false) V (λρ h=>Yl.to (Yl.eql (h _ _ V) (h _ _ V)) (by rw [decide_eq_false c5])) ?_);refine C 7 V (Am (v:= .pointer (some F.qA)) V (λρ h=>GG (a:=F.uA) 0 1 Tryz.underlying140 M5 V V V (h _ _ V)) ?_);refine C 1 V (Sc (kk:=kk) (sv:=sv) O ac V V V V Ug V V ?_);refine JL.done ?_;cases sv
      ·rw [if_neg (by decide)];refine C 4 V (Pw (kk:=kk) (p:= .Gf) O ac V V V V V Qk QF λef eg v2 ej=>⟨some (.ED (decide (IntKind.i64.wrap (v2 - wt)>1000000))),by (cases decide (IntKind.i64.wrap (v2 - wt)>1000000) <;> simp [Fam.BX]),?_⟩);refine C 1 V (Am (v:= .int .i64 (IntKind.i64.wrap (v2 - wt))) V (λρ h=>Yl.sub (h _ _ V) (h _ _ V)) ?_);refine C 4 V ?_;generalize decide (IntKind.i64.wrap (v2 - wt)>1000000)=av;refine C 4 V (JL.uA V V ?_);refine Ho (kk:=kk) (p:= .ED av) O ac V V V V V Hh Iv V ?_;intro m ce a0;have a8:Da m:=a0.2.2;have am:Cm m:=a8.Cm;by_cases ag:m.s=true
       ·refine⟨some (.En (!av || m.w==1)),by simp [Fam.BX,ag],?_⟩;refine C 2 V ?_;obtain⟨bw,bx,bz⟩:=a0.1 ag;refine C 4 V (Am (v:=CR (Bw m&&& 4)) V (λρ h=>Ey (c:=4) am (h _ _ V) (h _ _ V) (by decide)) ?_);refine Am (v:= .bool true) V (λρ h=>Yl.to (HN (h _ _ V) (h _ _ V)) (by have b0:(((Bw m&&& 4:Nat):Int)≠0):=(λe=>by rw [(HW m).1 e] at ag;cases ag);rw [decide_eq_true b0])) ?_;refine C 6 V (Am (v:=CR (Bw m&&& 3)) V (λρ h=>Ey (c:=3) am (h _ _ V) (h _ _ V) (by decide)) ?_);refine Am (v:= .bool false) V (λρ h=>Yl.to (HN (h _ _ V) (h _ _ V)) (by rw [(Oj m).2 ⟨bw,bx⟩];rfl)) (C 2 V ?_);refine Am (v:=CR m.w) V (λρ h=>IU am (h _ _ V) (h _ _ V)) (Am (v:= .bool false) V (λρ h=>Yl.to (Yl.eql (h _ _ V) (h _ _ V)) (by rw [decide_eq_false (λe=>bz (by omega))])) ?_);refine C 12 V (Am (v:= .bool (!av)) V (λρ h=>Yl.not (h _ _ V)) ?_);refine C 1 V (KA (c:= !av) (i:=119) V (λd1=>?_) (λd1=>?_))
        ·refine Iz V V V (C 5 V ?_);have hex:(!av || m.w==1)=true:=by rw [d1];simp
         rw [hex];refine C 2 V (Am (v:= .int .i32 (-11)) V (λρ h=>Yl.to (Yl.sub (h _ _ V) (h _ _ V)) V) ?_);refine C 6 V (JL.uA V V ?_);refine C 1 V (Hk (kk:=kk) (p:= .En true) (dl:= -11) O ac V V V V V Ht V V λK a5 al=>⟨⟨true,K.k,false,K.w - 1⟩,some .len,?_,List.mem_singleton.2 V,?_⟩)
         ·obtain⟨a9,bb,be,w3⟩:=K;obtain⟨U,g2,Z,ap,bi,aq⟩:=al;simp only at U g2 Z ap;subst U g2 Z;have bn:w3<134217728:=aq;have e:(⟨false,false,true,w3⟩:M4).num+(-11)=((8*(w3 - 1)+1:Nat):Int):=by simp only [M4.num,Bool.toNat_true,Bool.toNat_false];omega
          rw [e,FH (by omega)];simp only [M4.num,Bool.toNat_true,Bool.toNat_false];omega
         exact C 2 V (a1 X O ay _ V)
        ·refine Am (v:= .int .i32 (m:M4).num) V (λρ h=>Yl.move (h _ _ V)) (Am (v:=CR m.w) V (λρ h=>IU am (h _ _ V) (h _ _ V)) ?_);refine C 3 V (Gp (p:=(m.w:Int)=1) V (λd2=>?_) (λd2=>?_))
         ·have hex:(!av || m.w==1)=true:=by rw [d1];simp;omega
          rw [hex];refine C 2 V (Am (v:= .int .i32 (-11)) V (λρ h=>Yl.to (Yl.sub (h _ _ V) (h _ _ V)) V) ?_);refine C 6 V (JL.uA V V ?_);refine C 1 V (Hk (kk:=kk) (p:= .En true) (dl:= -11) O ac V V V V V Ht V V λK a5 al=>⟨⟨true,K.k,false,K.w - 1⟩,some .len,?_,List.mem_singleton.2 V,?_⟩)
          ·obtain⟨a9,bb,be,w3⟩:=K;obtain⟨U,g2,Z,ap,bi,aq⟩:=al;simp only at U g2 Z ap;subst U g2 Z;have bn:w3<134217728:=aq;have e:(⟨false,false,true,w3⟩:M4).num+(-11)=((8*(w3 - 1)+1:Nat):Int):=by simp only [M4.num,Bool.toNat_true,Bool.toNat_false];omega
           rw [e,FH (by omega)];simp only [M4.num,Bool.toNat_true,Bool.toNat_false];omega
          exact C 2 V (a1 X O ay _ V)
         ·have hex:(!av || m.w==1)=false:=by rw [d1];simp;omega
          rw [hex];refine C 5 V (JL.uA V V ?_);refine C 1 V (Hk (kk:=kk) (p:= .En false) (dl:= -7) O ac V V V V V Ht V V λK a5 al=>⟨⟨true,K.k,true,K.w - 1⟩,some .len,?_,List.mem_singleton.2 V,?_⟩)
          ·obtain⟨a9,bb,be,w3⟩:=K;obtain⟨U,g2,Z,ap,bi,aq⟩:=al;simp only at U g2 Z ap;subst U g2 Z;have bn:w3<134217728:=aq;have e:(⟨false,false,true,w3⟩:M4).num+(-7)=((8*(w3 - 1)+5:Nat):Int):=by simp only [M4.num,Bool.toNat_true,Bool.toNat_false];omega
           rw [e,FH (by omega)];simp only [M4.num,Bool.toNat_true,Bool.toNat_false];omega
          exact C 2 V (a1 X O ay _ V)
       ·refine⟨some (.Cl av true 0 m),by simp [Fam.BX,ag],?_⟩;refine C 2 V ?_;have bo:m.s=false:=by simpa using ag
        refine C 4 V (Am (v:=CR (Bw m&&& 4)) V (λρ h=>Ey (c:=4) am (h _ _ V) (h _ _ V) (by decide)) ?_);refine Am (v:= .bool false) V (λρ h=>Yl.to (HN (h _ _ V) (h _ _ V)) (by rw [(HW m).2 bo];rfl)) (C 11 V ?_);refine JL.again ?_;rw [← a6];exact EA [(0,.pointer (some F.uA)),(2,iV wt),(3,.bool av),(4,.bool true),(5,iV ((0:Nat):Int)),(6,.int .i32 (m:M4).num)] V (b5 (av,true,0,m,wt) ⟨λ_=>a0.2.1 bo,Nat.zero_le _,a8⟩)
      ·rw [if_pos rfl];refine C 15 V (JL.uA V V ?_);refine Ho (kk:=kk) (p:= .ED true) O ac V V V V V Hh Iv V ?_;intro m ce a0;have a8:Da m:=a0.2.2;have am:Cm m:=a8.Cm;by_cases ag:m.s=true
       ·refine⟨some (.En (!true || m.w==1)),by simp [Fam.BX,ag],?_⟩;refine C 2 V ?_;obtain⟨bw,bx,bz⟩:=a0.1 ag;refine C 4 V (Am (v:=CR (Bw m&&& 4)) V (λρ h=>Ey (c:=4) am (h _ _ V) (h _ _ V) (by decide)) ?_);refine Am (v:= .bool true) V (λρ h=>Yl.to (HN (h _ _ V) (h _ _ V)) (by have b0:(((Bw m&&& 4:Nat):Int)≠0):=(λe=>by rw [(HW m).1 e] at ag;cases ag);rw [decide_eq_true b0])) ?_;refine C 6 V (Am (v:=CR (Bw m&&& 3)) V (λρ h=>Ey (c:=3) am (h _ _ V) (h _ _ V) (by decide)) ?_);refine Am (v:= .bool false) V (λρ h=>Yl.to (HN (h _ _ V) (h _ _ V)) (by rw [(Oj m).2 ⟨bw,bx⟩];rfl)) (C 2 V ?_);refine Am (v:=CR m.w) V (λρ h=>IU am (h _ _ V) (h _ _ V)) (Am (v:= .bool false) V (λρ h=>Yl.to (Yl.eql (h _ _ V) (h _ _ V)) (by rw [decide_eq_false (λe=>bz (by omega))])) ?_);refine C 12 V (Am (v:= .bool (!true)) V (λρ h=>Yl.not (h _ _ V)) ?_);refine C 1 V (KA (c:= !true) (i:=119) V (λd1=>?_) (λd1=>?_))
        ·refine Iz V V V (C 5 V ?_);have hex:(!true || m.w==1)=true:=by rw [d1];simp
         rw [hex];refine C 2 V (Am (v:= .int .i32 (-11)) V (λρ h=>Yl.to (Yl.sub (h _ _ V) (h _ _ V)) V) ?_);refine C 6 V (JL.uA V V ?_);refine C 1 V (Hk (kk:=kk) (p:= .En true) (dl:= -11) O ac V V V V V Ht V V λK a5 al=>⟨⟨true,K.k,false,K.w - 1⟩,some .len,?_,List.mem_singleton.2 V,?_⟩)
         ·obtain⟨a9,bb,be,w3⟩:=K;obtain⟨U,g2,Z,ap,bi,aq⟩:=al;simp only at U g2 Z ap;subst U g2 Z;have bn:w3<134217728:=aq;have e:(⟨false,false,true,w3⟩:M4).num+(-11)=((8*(w3 - 1)+1:Nat):Int):=by simp only [M4.num,Bool.toNat_true,Bool.toNat_false];omega
          rw [e,FH (by omega)];simp only [M4.num,Bool.toNat_true,Bool.toNat_false];omega
         exact C 2 V (a1 X O ay _ V)
        ·refine Am (v:= .int .i32 (m:M4).num) V (λρ h=>Yl.move (h _ _ V)) (Am (v:=CR m.w) V (λρ h=>IU am (h _ _ V) (h _ _ V)) ?_);refine C 3 V (Gp (p:=(m.w:Int)=1) V (λd2=>?_) (λd2=>?_))
         ·have hex:(!true || m.w==1)=true:=by rw [d1];simp;omega
          rw [hex];refine C 2 V (Am (v:= .int .i32 (-11)) V (λρ h=>Yl.to (Yl.sub (h _ _ V) (h _ _ V)) V) ?_);refine C 6 V (JL.uA V V ?_);refine C 1 V (Hk (kk:=kk) (p:= .En true) (dl:= -11) O ac V V V V V Ht V V λK a5 al=>⟨⟨true,K.k,false,K.w - 1⟩,some .len,?_,List.mem_singleton.2 V,?_⟩)
          ·obtain⟨a9,bb,be,w3⟩:=K;obtain⟨U,g2,Z,ap,bi,aq⟩:=al;simp only at U g2 Z ap;subst U g2 Z;have bn:w3<134217728:=aq;have e:(⟨false,false,true,w3⟩:M4).num+(-11)=((8*(w3 - 1)+1:Nat):Int):=by simp only [M4.num,Bool.toNat_true,Bool.toNat_false];omega
           rw [e,FH (by omega)];simp only [M4.num,Bool.toNat_true,Bool.toNat_false];omega
          exact C 2 V (a1 X O ay _ V)
         ·have hex:(!true || m.w==1)=false:=by rw [d1];simp;omega
          rw [hex];refine C 5 V (JL.uA V V ?_);refine C 1 V (Hk (kk:=kk) (p:= .En false) (dl:= -7) O ac V V V V V Ht V V λK a5 al=>⟨⟨true,K.k,true,K.w - 1⟩,some .len,?_,List.mem_singleton.2 V,?_⟩)
          ·obtain⟨a9,bb,be,w3⟩:=K;obtain⟨U,g2,Z,ap,bi,aq⟩:=al;simp only at U g2 Z ap;subst U g2 Z;have bn:w3<134217728:=aq;have e:(⟨false,false,true,w3⟩:M4).num+(-7)=((8*(w3 - 1)+5:Nat):Int):=by simp only [M4.num,Bool.toNat_true,Bool.toNat_false];omega
           rw [e,FH (by omega)];simp only [M4.num,Bool.toNat_true,Bool.toNat_false];omega
          exact C 2 V (a1 X O ay _ V)
       ·refine⟨some (.Cl true true 0 m),by simp [Fam.BX,ag],?_⟩;refine C 2 V ?_;have bo:m.s=false:=by simpa using ag
        refine C 4 V (Am (v:=CR (Bw m&&& 4)) V (λρ h=>Ey (c:=4) am (h _ _ V) (h _ _ V) (by decide)) ?_);refine Am (v:= .bool false) V (λρ h=>Yl.to (HN (h _ _ V) (h _ _ V)) (by rw [(HW m).2 bo];rfl)) (C 11 V ?_);refine JL.again ?_;rw [← a6];exact EA [(0,.pointer (some F.uA)),(2,iV wt),(3,.bool true),(4,.bool true),(5,iV ((0:Nat):Int)),(6,.int .i32 (m:M4).num)] V (b5 (true,true,0,m,wt) ⟨λ_=>a0.2.1 bo,Nat.zero_le _,a8⟩)
   ·refine JL.done (C 4 V ?_);refine JL.uA V V (Ho (kk:=kk) (p:= .Ep sv aw it) O ac V V V V V Hh Iv V λa7 cw bv=>⟨some (.Cl sv aw it a7),List.mem_singleton.2 V,?_⟩);refine C 3 V (JL.again ?_);rw [← a6];exact EA [(0,.pointer (some F.uA)),(2,iV wt),(3,.bool sv),(4,.bool aw),(5,iV (it:Int)),(6,.int .i32 (a7:M4).num)] V (b5 (sv,aw,it,a7,wt) ⟨bv.2.2.2,b1.2.1,bv.2.2.1⟩)
 exact λa ci=>key 5 a (by omega) ci
set_option maxHeartbeats 4000000 in
theorem Wj{F:Fam}{n:Nat}{L:Env}{ds:Ld_}{k:Li_}{cs:Lf_}{s:St}{b:Frame}{ops:Ao_}{i:Nat}{rest:List Nat}{d:Option Tmp}{x:Operand}{ats:Array TypeId}{ty:TypeId}{pp:String}{af:Ae_}{g:On_}{kk:Nat}(K:s.q=false)(O:ops[i]? =some ⟨d,.call ⟨.value (.func 162),#[x],ats⟩,ty,pp,af,g⟩)(hw:AN L ops ⟨d,.call ⟨.value (.func 162),#[x],ats⟩,ty,pp,af,g⟩=some true)(U:((b.kind != .early)&&Bh n d)=true)(Y:ev L x=some (.pointer (some F.uA)))
  (h:JL (AW Tryz.prog false) (Stop Tryz.prog F (.lk kk .Fj)) b n (Ax L d (.tuple #[])) ds (.inRegion ops rest::k) cs s):
  JL (AW Tryz.prog false) (Stop Tryz.prog F (.lk kk .Gg)) b n L ds (.inRegion ops (i::rest)::k) cs s:=by
 refine Hl (vs:= [.pointer (some F.uA)]) O hw U Tryz.func162 (by decide+kernel) V (by simp [evs,Y]) (Nat.le_of_ble_eq_true V) λac back=>C 2 V (Lp (kk:=kk) (p:= .Gg) CY.stop K V (λ_ _=>V) V V V V (by simp) U1 ?_);refine C 6 V (JL.uA V V ?_);refine SK (kk:=kk) (p:= .Hr) (old:=M4.zero) (nw:=⟨true,false,false,0⟩) CY.stop K V V V V V On V V V (λq Z=>⟨some .len,by simp [Fam.BX],?_⟩) (λm q hm Z=>⟨some (.Ep false false 0),by simp [Fam.BX,hm],?_⟩)
 ·refine JL.done (C 5 V ?_);refine Lp (kk:=kk) (p:= .len) CY.stop K V (λ_ _=>V) V V V V (by simp) OG (C 3 V ?_);refine Pu (kk:=kk) (p:= .K0) CY.stop K V (λ_ _=>V) V V V V Tryz.underlying229 Tryz.underlying185 P9 V (PY (kk:=kk) (p:= .Kd) (ad:=F.uA) CY.stop K V (λ_ _=>V) V V V V (by simp) UY V V ?_);exact JL.done (JL.ret V V (Bz.none Tryz.func162 V) (back _ _ _ _ h))
 ·refine JL.done (C 4 V ?_);refine WX (kk:=kk) K V V V V (JL.done ?_);exact JL.fin V V (Bz.none Tryz.func162 V) (back _ _ _ _ h)
set_option maxHeartbeats 4000000 in
theorem Xy{F:Fam}{n:Nat}{L:Env}{ds:Ld_}{k:Li_}{cs:Lf_}{s:St}{b:Frame}{ops:Ao_}{i:Nat}{rest:List Nat}{d:Option Tmp}{x:Operand}{ats:Array TypeId}{ty:TypeId}{pp:String}{af:Ae_}{g:On_}{kk:Nat}(K:s.q=false)(O:ops[i]? =some ⟨d,.call ⟨.value (.func 121),#[x],ats⟩,ty,pp,af,g⟩)(hw:AN L ops ⟨d,.call ⟨.value (.func 121),#[x],ats⟩,ty,pp,af,g⟩=some true)(U:((b.kind != .early)&&Bh n d)=true)(Y:ev L x=some (.pointer (some F.uA)))
  (h:JL (AW Tryz.prog false) (Stop Tryz.prog F (.lk kk .Fj)) b n (Ax L d (.tuple #[])) ds (.inRegion ops rest::k) cs s):
  JL (AW Tryz.prog false) (Stop Tryz.prog F (.lk kk .Gg)) b n L ds (.inRegion ops (i::rest)::k) cs s:=by
 refine Hl (vs:= [.pointer (some F.uA)]) O hw U Tryz.func121 (by decide+kernel) V (by simp [evs,Y]) (Nat.le_of_ble_eq_true V) λZ back=>C 3 V (Am (v:= .pointer (some F.uA)) V (λρ h=>GG (a:=F.uA) 1 0 Tryz.underlying142 (AV Tryz.type140) V V V (h _ _ V)) ?_);refine Wj (kk:=kk) K V V V V (JL.done ?_);exact JL.fin V V (Bz.none Tryz.func121 V) (back _ _ _ _ h)
def IM(m:M4):LP:=if m.l=false/\m.k=false/\m.s=false/\m.w≠0 then .ET m else .Fl
def Q1(m:M4):LP:=if m.s=true then .Fg true else if m.k=false/\m.w≠0 then .ET {m with l:=false} else .Fl
set_option maxHeartbeats 4000000 in
theorem Wa{F:Fam}{n:Nat}{L:Env}{ds:Ld_}{k:Li_}{cs:Lf_}{s:St}{b:Frame}{ops:Ao_}{i:Nat}{rest:List Nat}{d:Option Tmp}{x Z:Operand}{nw:M4}{ats:Array TypeId}{ty:TypeId}{pp:String}{af:Ae_}{g:On_}{kk:Nat}(U:s.q=false)(a3:ops[i]? =some ⟨d,.call ⟨.value (.func 191),#[x,Z],ats⟩,ty,pp,af,g⟩)(hw:AN L ops ⟨d,.call ⟨.value (.func 191),#[x,Z],ats⟩,ty,pp,af,g⟩=some true)(a4:((b.kind != .early)&&Bh n d)=true)(a5:ev L x=some (.pointer (some F.uA)))(a6:ev L Z=some (.int .i32 nw.num))(al:nw.l=false)(a7:Da nw)(ac:Cm nw)
  (h:JL (AW Tryz.prog false) (Stop Tryz.prog F (.lk kk .Fl)) b n (Ax L d (.tuple #[])) ds (.inRegion ops rest::k) cs s):
  JL (AW Tryz.prog false) (Stop Tryz.prog F (.lk kk (if nw.s=true then .Fg true else if nw.k=false/\nw.w≠0 then .ET nw else .Fl))) b n L ds (.inRegion ops (i::rest)::k) cs s:=by
 refine Hl (vs:= [.pointer (some F.uA),.int .i32 nw.num]) a3 hw a4 Tryz.func191 (by decide+kernel) V (by simp [evs,a5,a6]) (Nat.le_of_ble_eq_true V) λam back=>C 4 V (Am (v:= .int .i32 ({nw with l:=true}:M4).num) V (λρ h=>YU ac al (h _ _ V) (h _ _ V)) ?_);refine Am (v:=CR (Bw ({nw with l:=true}:M4)&&& 1)) V (λρ h=>Ey (c:=1) (m:={nw with l:=true}) ac (h _ _ V) (h _ _ V) (by decide)) (Am (v:= .bool false) V (λρ h=>Yl.to (Yl.eql (h _ _ V) (h _ _ V)) (by rw [decide_eq_false (λe=>by have q:=(QH _).1 e;cases q)])) ?_);refine C 6 V (Am (v:=CR (Bw nw&&& 4)) V (λρ h=>Ey (c:=4) ac (h _ _ V) (h _ _ V) (by decide)) ?_);refine C 2 V (Gp (p:=((Bw nw&&& 4:Nat):Int)=0) V (λc=>?_) (λc=>?_))
 ·have ap:=(HW nw).1 c;rw [if_neg (by rw [ap];exact Bool.false_ne_true)];refine C 6 V ?_;refine IQ ?_;refine EA [(0,.pointer (some F.uA)),(4,.int .i32 nw.num)] V ?_;refine UT λaq av=>?_;have a8:(if nw.k=false/\nw.w≠0 then LP.ET nw else .Fl)=IM nw:=by unfold IM;rw [al,ap];simp
  rw [a8];refine UJ (P:=Tryz.prog) (F:=F) (s:=s) (kk:=kk) (ph:=λm=>LP.ET m) (ok:=Da) (head:=λ(X:Ph->GP) (a:M4)=>JL (AW Tryz.prog false) (X (.lk kk (IM a))) (base 191) Tryz.f191.ntmps ([(0,.pointer (some F.uA)),(4,.int .i32 (a:M4).num)]) [] aq (am::cs) s) ?_ nw a7;intro Y bx aw hC old ay;have K:Cm old:=ay.Cm;show JL (AW Tryz.prog false) (Y (.lk kk (IM old))) (base 191) Tryz.f191.ntmps [(0,.pointer (some F.uA)),(4,.int .i32 old.num)] [] aq (am::cs) s;rw [av];refine C 5 V (Am (v:=CR old.w) V (λρ h=>IU K (h _ _ V) (h _ _ V)) ?_);refine C 2 V (Mc (q:=(old.w:Int)=0) (i:=17) V (λc2=>?_) (λc2=>?_))
  ·have O:IM old= .Fl:=by unfold IM;rw [if_neg (λe=>e.2.2.2 (by omega))]
   refine C 6 V ?_;rw [O];exact JL.ret V V (Bz.none Tryz.func191 V) (back _ _ _ _ (Np (λg s=>aw _ g s) h))
  ·refine Am (v:= .int .i32 (old:M4).num) V (λρ h=>Yl.move (h _ _ V)) (Am (v:=CR (Bw old&&& 7)) V (λρ h=>Ey (c:=7) K (h _ _ V) (h _ _ V) (by decide)) ?_);refine C 3 V (Gp (p:=((Bw old&&& 7:Nat):Int)≠0) V (λc3=>?_) (λc3=>?_))
   ·have O:IM old= .Fl:=by unfold IM;rw [if_neg (λe=>c3 ((UL old).2 ⟨e.1,e.2.1,e.2.2.1⟩))]
    rw [O];exact JL.ret V V (Bz.none Tryz.func191 V) (back _ _ _ _ (Np (λg s=>aw _ g s) h))
   ·have a9:=(UL old).1 (Decidable.not_not.1 c3);obtain⟨l0,bz,b0,w0⟩:=old;obtain⟨z1,az,a0⟩:=a9;simp only at z1 az a0 c2;subst z1 az a0;have a1:w0≠0:=by omega
    have O:IM ⟨false,false,false,w0⟩= .ET ⟨false,false,false,w0⟩:=by unfold IM;rw [if_pos ⟨rfl,rfl,rfl,a1⟩]
    rw [O];refine C 4 V (Am (v:= .int .i32 (⟨false,false,false,w0 - 1⟩:M4).num) V (λρ h=>Zv (m:=⟨false,false,false,w0⟩) K a1 (h _ _ V) (h _ _ V)) ?_);refine Am (v:= .int .i32 (⟨false,true,false,w0 - 1⟩:M4).num) V (λρ h=>NZ (c:=2) (m:=⟨false,false,false,w0 - 1⟩) (by unfold Cm at K ⊢;simp only at K ⊢;omega) (by decide) (Rb _) V (h _ _ V) (h _ _ V)) (C 7 V ?_);refine JL.uA V V (C 2 V ?_);refine λT bb=>(AW Tryz.prog false).stop (hC ⟨false,false,false,w0⟩ _ ay λX b1 be a2 bi bn=>?_);refine PC (kk:=kk) (p:= .ET ⟨false,false,false,w0⟩) (old:=⟨false,false,false,w0⟩) (nw:=⟨false,true,false,w0 - 1⟩) be U V V V V V On V V V (λq bo=>⟨some (.Fg false),by simp [Fam.BX],?_⟩) (λm q hm bo=>⟨some .Hw,by simp [Fam.BX,hm],?_⟩) T bb
    ·refine JL.done (C 5 V ?_);refine Am (v:= .pointer (some F.qA)) V (λρ h=>GG (a:=F.uA) 0 1 Tryz.underlying140 M5 V V V (h _ _ V)) (R3 (kk:=kk) (st:=false) a2 U V V V V Uc V V ?_);exact JL.done (JL.ret V V (Bz.none Tryz.func191 V) (back _ _ _ _ (Np (λg s=>bi _ g s) h)))
    ·refine JL.done (C 5 V ?_);refine JL.uA V V (Ho (kk:=kk) (p:= .Hw) a2 U V V V V V Hh cu V λag b2 bv=>⟨some (IM ag),List.mem_singleton.2 V,?_⟩);refine C 3 V (JL.again ?_);rw [← av];exact EA [(0,.pointer (some F.uA)),(4,.int .i32 ag.num)] V (bn ag bv)
 ·have bw:nw.s=true:=by rcases Bool.eq_false_or_eq_true nw.s with hh | hh;exact hh;exact absurd ((HW nw).2 hh) c
  rw [if_pos bw];refine C 3 V (Am (v:= .pointer (some F.qA)) V (λρ h=>GG (a:=F.uA) 0 1 Tryz.underlying140 M5 V V V (h _ _ V)) ?_);refine R3 (kk:=kk) (st:=true) CY.stop U V V V V Uc V V (JL.done ?_);exact JL.fin V V (Bz.none Tryz.func191 V) (back _ _ _ _ h)
set_option maxHeartbeats 4000000 in
theorem VQ{F:Fam}{n:Nat}{L:Env}{ds:Ld_}{k:Li_}{cs:Lf_}{s:St}{b:Frame}{ops:Ao_}{i:Nat}{rest:List Nat}{d:Option Tmp}{x:Operand}{ats:Array TypeId}{ty:TypeId}{pp:String}{af:Ae_}{g:On_}{kk:Nat}(K:s.q=false)(al:ops[i]? =some ⟨d,.call ⟨.value (.func 163),#[x],ats⟩,ty,pp,af,g⟩)(hw:AN L ops ⟨d,.call ⟨.value (.func 163),#[x],ats⟩,ty,pp,af,g⟩=some true)(am:((b.kind != .early)&&Bh n d)=true)(ap:ev L x=some (.pointer (some F.uA)))
  (h:JL (AW Tryz.prog false) (Stop Tryz.prog F .H7) b n (Ax L d (.tuple #[])) ds (.inRegion ops rest::k) cs s):
  JL (AW Tryz.prog false) (Stop Tryz.prog F (.lk kk .GO)) b n L ds (.inRegion ops (i::rest)::k) cs s:=by
 refine Hl (vs:= [.pointer (some F.uA)]) al hw am Tryz.func163 (by decide+kernel) V (by simp [evs,ap]) (Nat.le_of_ble_eq_true V) λa0 back=>C 6 V (JL.uA V V ?_);refine Ho (kk:=kk) (p:= .GO) CY.stop K V V V V V Hh dE V λm0 a1 a2=>⟨some .Kk,List.mem_singleton.2 V,?_⟩;refine C 4 V (Pu (kk:=kk) (p:= .Kk) CY.stop K V (λ_ _=>V) V V V V Tryz.underlying229 Tryz.underlying185 P9 V ?_);refine PY (kk:=kk) (p:= .Kg) (ad:=F.uA) CY.stop K V (λ_ _=>V) V V V V (by simp) dK V V (C 2 V ?_);refine Lp (kk:=kk) (p:= .J9) CY.stop K V (λ_ _=>V) V V V V (by simp) U1 (C 5 V ?_);refine JL.uA V V (Hk (kk:=kk) (p:= .H2) (dl:= -1) CY.stop K V V V V V Ht V V λm q Y=>⟨{m with l:=false},some (Q1 m),?_,List.mem_singleton.2 V,?_⟩)
 ·obtain⟨aq,O,U,w3⟩:=m;obtain⟨Z,av⟩:=Y;simp only at Z;subst Z;have a3:w3<134217728:=av;have a4:=Bool.toNat_le O;have a5:=Bool.toNat_le U;have e:(⟨true,O,U,w3⟩:M4).num+(-1)=((2*O.toNat+4*U.toNat+8*w3:Nat):Int):=by simp only [M4.num,Bool.toNat_true];omega
  rw [e,FH (by omega)];simp only [M4.num,Bool.toNat_false];omega
 ·have ac:Da m:=Y.2;have aw:Cm ({m with l:=false}:M4):=(show Da ({m with l:=false}:M4) from ac).Cm;refine C 8 V ?_;refine Gp (p:=({m with l:=false}:M4).num≠0) V (λc=>?_) (λc=>?_)
  ·refine JL.region (C 2 V ?_);refine Wa (kk:=kk) (nw:={m with l:=false}) K V V V V V V ac aw (C 2 V ?_);refine Lp (kk:=kk) (p:= .Fl) CY.stop K V (λ_ _=>V) V V V V (by simp) OG (JL.done ?_);exact JL.fin V V (Bz.none Tryz.func163 V) (back _ _ _ _ h)
  ·have ay:({m with l:=false}:M4).num=0:=Decidable.not_not.1 c;have ag:m.k=false/\m.s=false/\m.w=0:=by
    obtain⟨aq,O,U,w3⟩:=m;cases O <;> cases U <;> simp [M4.num] at ay ⊢ <;> omega
   have az:Q1 m= .Fl:=by unfold Q1;rw [if_neg (by rw [ag.2.1];exact Bool.false_ne_true),if_neg (λe=>e.2 ag.2.2)]
   rw [az];refine C 2 V (Lp (kk:=kk) (p:= .Fl) CY.stop K V (λ_ _=>V) V V V V (by simp) OG ?_);exact JL.done (JL.fin V V (Bz.none Tryz.func163 V) (back _ _ _ _ h))
theorem JO.Y9{F:Fam}{n:Nat}{M:Env}{ds:Ld_}{cs:Lf_}{s:St}{b:Frame}{kk:Nat}(K:b.roundOf=none)(O:s.q=false)(h:JO (AW Tryz.prog false) (Stop Tryz.prog F .H7) b n M ds cs s):
  JO (AW Tryz.prog false) (Stop Tryz.prog F (.lk kk .GO)) b n M (dcall 122 #[.pointer (some F.uA)]::ds) cs s:=by
 refine JO.enter (vs:= [.pointer (some F.uA)]) K Tryz.func122 (by decide+kernel) V (Nat.le_of_ble_eq_true V) λT U todo=>C 3 V (Am (v:= .pointer (some F.uA)) V (λρ h=>GG (a:=F.uA) 1 0 Tryz.underlying142 (AV Tryz.type140) V V V (h _ _ V)) ?_);refine VQ (kk:=kk) O V V V V (JL.done ?_);exact JL.out V (JO.leaveD V Tryz.func122 V (.inl V) (h T U todo))
end Pal
namespace Pal
open Go Go.Conc
open Go.ConcN (upd)
variable {ops:Ao_}{rest:List Nat}{d:Option Tmp}{f:FuncId}{z:Operand}{ats:Array TypeId}{ty t u tw:TypeId}{pp:String}{af:Ae_}{g:On_}{kk:Nat}
section
variable {P:Program}{F:Fam}{n:Nat}{L L':Env}{ds:Ld_}{k:Li_}{cs:Lf_}{s s':St}{b:Frame}
variable {i:Nat}{x y:Operand}
theorem VV{m:Nat}(h:Bp P t=some m)(w:World):(Go.sizeOf t).run P w= .ok m w:=by
 unfold Bp at h;simp only [Go.sizeOf,typeInfo,bind,Sem.bind,program,Sem.run];cases hi:P.info? t with
 | none=>rw [hi] at h;cases h
 | some j=>rw [hi] at h;simp at h;subst h;rfl
theorem Y6{w:World}{K:Nat->Value}(h:F.FD w K)(O:kk<F.n):w.cell? ⟨F.fd,kk,none⟩=some (K kk)/\w.frozen? ⟨F.fd,kk,none⟩=false:=by
 unfold Fam.FD Fam.IJ at h;constructor
 ·simp [World.cell?,h,O]
 ·simp [World.frozen?,h]
theorem Wv{w:World}{O:Nat->Value}{v:Value}(h:F.FD w O)(ac:kk<F.n):w.setCell ⟨F.fd,kk,none⟩ v=F.Hz w (upd O kk v):=by
 unfold Fam.Hz World.setCell;congr 1;apply Array.ext_getElem?;intro i;unfold Fam.FD Fam.IJ at h;rw [Array.getElem?_modify];have U:F.fd<w.heap.size:=by
  rcases Nat.lt_or_ge F.fd w.heap.size with K | K
  ·exact K
  ·simp [Array.getElem?_eq_none K] at h
 by_cases e:F.fd=i
 ·subst e;rw [Array.getElem?_setIfInBounds_self_of_lt U,h];simp only [if_true,Option.map_some,Fam.IJ,Option.some.injEq,Obj.cells.injEq,and_true];apply Array.ext
  ·simp
  ·intro j ag Y;by_cases e2:kk=j
   ·subst e2;simp [upd]
   ·have Z:¬j=kk:=λe=>e2 e.symm;simp [upd,Z];rw [Array.getElem_setIfInBounds (by simpa using Y),if_neg e2];simp
 ·rw [Array.getElem?_setIfInBounds_ne e,if_neg e]
theorem Wc{X:Ph->GP}(av:CY P F X){a:Option Addr}{l c:Nat}(aw:s.q=false)(Y:kk<F.n)
  (ay:ops[i]? =some ⟨d,.store t x y,ty,pp,af,g⟩) (Z:b.roundOf=none) (hw:AN L ops ⟨d,.store t x y,ty,pp,af,g⟩=some true) (U:((b.kind != .early)&&Bh n d)=true)
  (az:Bp P t=some 1) (a0:(P.funcs[b.fn]?).any (·.norace)=false) (a1:ev L x=some (.pointer (some ⟨F.fd,kk,none⟩))) (a2:ev L y=some (.slice a l c)) (hm:F.msg kk (.slice a l c) s.E)
  (h:JL (AW P false) (X (.lk kk .GO)) b n (Ax L d undef) ds (.inRegion ops rest::k) cs s):
  JL (AW P false) (X (.lk kk .Fj)) b n L ds (.inRegion ops (i::rest)::k) cs s:=λT K=>by
 simp only [Bool.and_eq_true] at U
 refine(AW P _).stop (av _ _ _ {
  run:=rfl,offers:=rfl,quiet:=(by simp [Fam.CL]),live:=λ_=>aw,act:=(by simp [Fam.act]),I3:=(by simp),Fo:=(by simp),go:=(by simp),lk:=λk' l e a3=>by cases e;exact absurd rfl a3
  Cv:=(by simp),store:=λk' e=>?_,fin:=(by simp)})
 cases e
 refine⟨_,hm,G (fr b (CI T d undef) ds (.inRegion ops rest::k)) cs,rfl,λw a4 ac=>?_,h _ (K.put U.2 _)⟩
 obtain⟨c1,c2⟩:=Y6 ac Y
 have ag:execOp (⟨T,ds⟩:Act).eval ⟨d,.store t x y,ty,pp,af,g⟩=(do Instr.storeAt t (.pointer (some ⟨F.fd,kk,none⟩)) (.slice a l c);pure Next.skip):=by
  rw [Lh];simp only [execOp,K.ev a1,K.ev a2]
 have al:(Value.slice a l c).cells= #[.slice a l c]:=rfl;have am:(Value.slice a l c).oneCell'=true:=rfl;have ap:(Addr.add ⟨F.fd,kk,none⟩ 0)=⟨F.fd,kk,none⟩:=by rw [Ef rfl];rfl
 have aq:=VV (P:=P) az w;have O:=run_store P w ⟨F.fd,kk,none⟩ (.slice a l c) .plain am;rw [c1] at O;simp only [c2,Bool.false_eq_true,if_false] at O;rw [BK Z,BK Z,stepG_none (a:=⟨T,ds⟩) (w':=F.Hz w (upd a4 kk (.slice a l c))) ay (B7 K hw) (by simpa using U.1) (by
  rw [ag]
  simp [Instr.storeAt,Instr.sureAddr,storeVar,al,aq,storeCells,ap,O,Wv ac Y,Result.andThen]),El]
 have e2:listed P b.fn ⟨T,ds⟩ ⟨d,.store t x y,ty,pp,af,g⟩ w= #[⟨.cell ⟨F.fd,kk,none⟩,true,false⟩]:=by
  unfold listed;rw [ag];have a5:=events_store (P:=P) (w:=w) (es:= #[]) ⟨F.fd,kk,none⟩ (.slice a l c) .plain am;have a6:(do Instr.storeAt t (.pointer (some ⟨F.fd,kk,none⟩)) (.slice a l c);pure Next.skip:Sem Next).events P w #[]= #[⟨.cell ⟨F.fd,kk,none⟩,true,false⟩]:=by
   simp [Instr.storeAt,Instr.sureAddr,storeVar,al,aq,storeCells,ap,O,c1,c2,a5,Result.evThen]
  rw [a6,seen_def];simp [seenStep,a0]
 rw [e2]
end
end Pal
namespace Pal
open Go Go.Conc Go.Proofs
open Go.Proofs.Tryz
open Go.Conc.Lib Go.ConcR.Gen
theorem dD:(Tryz.prog.funcs[117]?).any (·.norace)=false:=by rw [func117];rfl
def KZ(fu_:Nat)(K:A8)(p:Ay)(j:Nat):Option (List Int):=
 (f120 fu_ K).bind λO=>
 (f119 fu_ ([O]:List (List (AH))) ((j:Nat):Int) p ([]:List ((Nat×Bf)×Bool))).bind λU=>
 some U.1
set_option maxHeartbeats 1000000 in
theorem bG{F:Fam}{j:Nat}{E:LH}{ap a1 aq:Ao}{Z c2 av ac op ag al am oi kf off:Nat}{p:Ay}{O:A8}(a3:At E ac op [.slice ap p.length Z])(a4:An Az E ap Z p)(a5:At E ag al [sV a1 O.1 c2,sV aq O.2 av])(a6:An (rL rI) E a1 c2 O.1)(a7:An Az E aq av O.2)(hi:At E am oi [iV ((j:Nat):Int)])(a8:At E kf off [.slice (some ⟨F.fd,0,none⟩) F.n F.n]){fu_:Nat}{r:List Int}(az:KZ fu_ O p j=some r)(a0:j<F.n)(a9:∀E' a c,Le E E'->An rI E' a c r->(r= []->a=none)->F.msg j (.slice a r.length c) E'):
  Way Tryz.prog false (Stop Tryz.prog F (F.start j)) (born Tryz.prog ⟨.fn (.func 117) [.pointer (some F.sA),Ak ac op,Ak ag al,Ak am oi,.pointer (some F.uA),Ak kf off].toArray,#[]⟩) ⟨E,λ_=>none,false⟩:=by
 refine XX (fn:=Tryz.f117) (vs:= [.pointer (some F.sA),Ak ac op,Ak ag al,Ak am oi,.pointer (some F.uA),Ak kf off]) func117 (by decide+kernel) V (by simp) (Nat.le_of_ble_eq_true V) ?_;obtain⟨H,bb⟩:∃H:LH,H=λ_=>none:=⟨_,V⟩;rw [← bb];have be:Aq E H []:=trivial;refine(?_:JL (AW Tryz.prog false) (Stop Tryz.prog F (.lk j .Gg)) (baseD 117) Tryz.f117.ntmps (Gr 0 [.pointer (some F.sA),Ak ac op,Ak ag al,Ak am oi,.pointer (some F.uA),Ak kf off]) [] [.code _] [LD Tryz.prog] (Aj E H []));unfold KZ at az;refine C 2 V (JL.defer (vs:= [.pointer (some F.sA)]) V V V V V ?_);refine C 3 V (CQ 0 a3 Bx V V V ?_);refine JS.makeMap V V V be λr1 bi=>Am (v:= .agg #[sV ap p Z,.map (some r1)]) V (λρ h=>Dh [(0,1),(1,1)] h (Dv type153) underlying153 ⟨V,AV type80,V,AV type151,trivial⟩ V V) (JS.box (v:= .agg #[sV ap p Z,.map (some r1)]) V V V bi V λct bn=>?_);refine C 3 V (Du 1 bn V λcw K bo bv=>?_);refine DY 5 λaw=>Dz 0 aw V V (Jq 1 aw (a5.Ah K) FQ Dt V V V ?_);refine CP 4 aw 0 (hi.Ah K) AY V V V V ?_;obtain⟨a2,bw,bx⟩:=bs az;refine JG.call (i:=2) (vs:= [.agg #[sV a1 O.1 c2,sV aq O.2 av]]) (ab (a6.Ah K) (a7.Ah K) bw) (by decide+kernel) V V V (A6 func120 V) V bv ?_;rintro _ cy _ U ⟨bz,b0,rfl,rfl,b1⟩ b2;refine JG.one (i:=3) V (by decide+kernel) (Take.EP (pp:=(rL (rM rI false rI false))) [sV bz a2 b0] ([a2]:List (List AH)) b2 V V V underlying158 JJ M1 (by decide) V V V ⟨⟨_,_,V,b1⟩,trivial⟩ λc0 c1 b3 b4=>?_);refine C4 [5,6] (BW 3 b3 b4 V λc3 Y b5 b6=>?_);obtain⟨ca,cc,ce⟩:=bs bx;refine Db 0 (aB b5 (bo.Ah (U.Ad Y)) (a4.Ah ((K.Ad U).Ad Y)) BA.nil cc) V V (A6 func119 V) b6 V ?_;rintro _ c4 _ ay ⟨c5,c6,c7,rfl,rfl,ci,co,c8⟩ c9;refine C 3 V ?_;have cp:r=ca.1:=(Option.some.inj ce).symm;subst cp;refine JL.region (Xy (kk:=j) V V V V V ?_);refine C 3 V (JL.defer (vs:= [.pointer (some F.uA)]) V V V V V ?_);refine C 2 V (CQ 0 (a8.Ah (((K.Ad U).Ad Y).Ad ay)) GC V V V ?_);refine CQ 0 (hi.Ah (((K.Ad U).Ad Y).Ad ay)) AY V V V (C 1 V ?_);refine Am (v:= Ak F.fd j) V (λρ h=>Yl.to (FG (xs:=List.replicate F.n ()) (m:=((j:Nat):Int)) (xv:=()) (List.length_replicate) (by simp [ix,a0]) underlying22 GW (h _ _ V) (h _ _ V)) (by show Ak F.fd (j*1)=_;rw [Nat.mul_one])) (Wc (kk:=j) CY.stop V a0 V V V V GW dD V V (a9 _ _ _ (((K.Ad U).Ad Y).Ad ay) ci co) ?_);exact JL.done (JL.out V (JO.Y9 (kk:=j) V V (JO.df Tryz.KM V V (JO.leaveD V func117 V (.inr V) Ww))))
theorem OL.br{e:TypeId}{E:LH}{r c:Nat}{seg:Seg}{xs:Lv_}(h:OL e rV E (AM r) c seg xs)(hc:c=xs.length):seg= [(r,.cells xs.toArray e (0,0))]:=by
 obtain⟨wss,ac,K,Y⟩:=h;rcases ac with⟨ag,_⟩ | ⟨bk,f,al,e2,Z,am,O⟩
 ·cases ag
 cases al;have hw:wss=xs.map λx=> [x]:=by
  apply List.ext_getElem?;intro i;rw [List.getElem?_map];cases U:xs[i]? with
  | none=>rw [List.getElem?_eq_none (by rw [K];exact List.getElem?_eq_none_iff.1 U)];rfl
  | some x=>
   have hi:i<wss.length:=by rw [K];exact(List.getElem?_eq_some_iff.1 U).1
   have:=(Y i x wss[i] U (List.getElem?_eq_getElem hi)).1;rw [List.getElem?_eq_getElem hi,this];rfl
 have ap:wss.flatten=xs:=by
  rw [hw];clear hw O Y K Z am hc
  induction xs with
  | nil=>rfl
  | cons x xs aq=>simp [aq]
 rw [ap] at O;have aw:rV.n=1:=V;have av:f.toList=xs:=by
  rw [O];rw [List.take_of_length_le (by rw [Array.length_toList,Z,hc];exact Nat.le_refl _)]
 rw [e2,← av]
noncomputable def KQ:Code:=match(Tryz.f77.body).bind (Js 0) with | some (.loop c)=>c | _=> .skip
noncomputable def Vj:Code:=match(Tryz.f77.body).bind (Js 2) with | some (.loop c)=>c | _=> .skip
set_option maxHeartbeats 1000000 in
theorem Zd{F:Fam}{n:Nat}(aw:F.n=n)(bx:0<n)(bz:n<=1000){E:LH}{ap a1 al:Ao}{am c2 aq:Nat}{p:Ay}{O:A8}(ay:An Az E ap am p)(az:An (rL rI) E a1 c2 O.1)(a0:An Az E al aq O.2)(hlen:p.length=n){Y Z kf:Nat}(a2:At E Y 0 [.slice ap p.length am])(a3:At E Z 0 [sV a1 O.1 c2,sV al O.2 aq])(a4:At E kf 0 [.slice (some ⟨F.fd,0,none⟩) F.n F.n]){fu_:Nat}{xs:Nat->List Int}(a5:∀j,j<n->KZ fu_ O p j=some (xs j))(a6:∀j,j<n->∀E' a c,An rI E' a c (xs j)->(xs j= []->a=none)->F.msg j (.slice a (xs j).length c) E'){j:Nat}(ac:j<n){ag H:LH}(hle:Le E ag)(a7:Aq ag H []){k:Li_}{cs:Lf_}
  (h:∀U,Le E U->Aq U H []->JL (AW Tryz.prog true) (Stop Tryz.prog F (F.EG j)) (base 77) Tryz.f77.ntmps [(2,Ak Z 0),(3,Ak Y 0),(6,.pointer (some F.uA)),(7,.pointer (some F.sA)),(8,Ak kf 0),(19,iV (p.length:Int)),(20,iV ((j+1:Nat):Int))] [] (.inLoop KQ::k) cs (Aj U H [])):
  JL (AW Tryz.prog true) (Stop Tryz.prog F (.Gt j)) (base 77) Tryz.f77.ntmps [(2,Ak Z 0),(3,Ak Y 0),(6,.pointer (some F.uA)),(7,.pointer (some F.sA)),(8,Ak kf 0),(19,iV (p.length:Int)),(20,iV ((j:Nat):Int))] [] (.code KQ:: .inLoop KQ::k) cs (Aj ag H []):=by
 refine C 2 V (Am (v:= .bool true) V (λρ h=>Yl.to (Yl.lss (h _ _ V) (h _ _ V)) (by rw [decide_eq_true (show((j:Nat):Int)<(p.length:Int) by omega)])) ?_);refine C 9 V (B3 a7 Cq λrn a8=>?_);refine BQ 0 a8 AA λa9=>?_;refine Du 0 a9 V λU bb be bi=>Io (S':= []) (by simp) bi λbn=>?_;have K:=hle.trans bb;refine C 3 V (WW Tryz.KM V V V V V V ?_);refine C 2 V (Am (v:= .func (.func 117) #[] ([.pointer (some F.sA),Ak Y 0,Ak Z 0,Ak rn 0,.pointer (some F.uA),Ak kf 0]:Lv_).toArray) V (λρ h=>Lg (by simp) (by simp [h (.tmp 7) _ rfl,h (.tmp 3) _ rfl,h (.tmp 2) _ rfl,h (.tmp 9) _ rfl,h (.tmp 6) _ rfl,h (.tmp 8) _ rfl])) ?_);have av:=bG (F:=F) (j:=j) (a2.Ah K) (ay.Ah K) (a3.Ah K) (az.Ah K) (a0.Ah K) be (a4.Ah K) (a5 j ac) (by rw [aw];exact ac) (λE' a c _ bo bv=>a6 j ac E' a c bo bv);refine ZV (fi:= #[]) V V V V V V V (by first | exact av | (simp only [List.append_toArray,List.nil_append,Array.append_empty,Array.empty_append];exact av)) ?_
 refine C 3 V ?_;have bw:Ar (((j:Nat):Int)+1)=some (((j+1:Nat)):Int):=by unfold Ar;rw [if_pos (by omega)];simp
 refine Bl bw V V V (C 2 V ?_);exact AB (h U K bn) V
theorem Wo{F:Fam}{n:Nat}(Y:F.n=n)(aw:0<n)(ay:n<=1000){E:LH}{ap a1 ag:Ao}{al c2 am:Nat}{p:Ay}{O:A8}(az:An Az E ap al p)(a0:An (rL rI) E a1 c2 O.1)(a2:An Az E ag am O.2)(hlen:p.length=n){Z ac kf:Nat}(a3:At E Z 0 [.slice ap p.length al])(a4:At E ac 0 [sV a1 O.1 c2,sV ag O.2 am])(a5:At E kf 0 [.slice (some ⟨F.fd,0,none⟩) F.n F.n]){fu_:Nat}{xs:Nat->List Int}(a6:∀j,j<n->KZ fu_ O p j=some (xs j))(a7:∀j,j<n->∀E' a c,An rI E' a c (xs j)->(xs j= []->a=none)->F.msg j (.slice a (xs j).length c) E'){H:LH}{k:Li_}{cs:Lf_}
  (h:∀K,Le E K->Aq K H []->JL (AW Tryz.prog true) (Stop Tryz.prog F .Dl) (base 77) Tryz.f77.ntmps [(2,Ak ac 0),(3,Ak Z 0),(6,.pointer (some F.uA)),(7,.pointer (some F.sA)),(8,Ak kf 0),(19,iV (p.length:Int)),(20,iV (p.length:Int))] [] (.code KQ:: .inLoop KQ::k) cs (Aj K H [])):
  ∀(m j:Nat),j+m=n->0<m->∀U,Le E U->Aq U H []->JL (AW Tryz.prog true) (Stop Tryz.prog F (.Gt j)) (base 77) Tryz.f77.ntmps [(2,Ak ac 0),(3,Ak Z 0),(6,.pointer (some F.uA)),(7,.pointer (some F.sA)),(8,Ak kf 0),(19,iV (p.length:Int)),(20,iV ((j:Nat):Int))] [] (.code KQ:: .inLoop KQ::k) cs (Aj U H []):=by
 intro m
 induction m with
 | zero=>intro j _ a8;cases a8
 | succ m a9=>
  intro j bi _ U hle bb;refine Zd Y aw ay az a0 a2 hlen a3 a4 a5 a6 a7 (by omega) hle bb λK aq av=>JL.again ?_;by_cases hm:m=0
  ·subst hm;have be:j+1=F.n:=by rw [Y];omega
   have e:F.EG j= .Dl:=by unfold Fam.EG;rw [if_pos be]
   rw [e];have e2:((j+1:Nat):Int)=(p.length:Int):=by rw [hlen];omega
   rw [e2];exact h K aq av
  ·have e:F.EG j= .Gt (j+1):=by unfold Fam.EG;rw [if_neg (by rw [Y];omega)]
   rw [e];exact a9 (j+1) (by omega) (by omega) K aq av
def OJ(fu_:Nat)(K:A8)(p:Ay)(j:Nat):List Int:=(KZ fu_ K p j).getD []
def Mm(n:Nat)(xs:Nat->List Int):(List Int)×Bool:=match(List.range n).find? (λj=> !(xs j).isEmpty) with | some j=>(xs j,true) | none=>([],false)
def f77(fu_:Nat)(K:A8)(p:Ay):Option ((List Int)×Bool):= if p.length=0 then some ([],true) else if p.length<=1000/\(List.range p.length).all (λj=>(KZ fu_ K p j).isSome)=true then some (Mm p.length (OJ fu_ K p)) else none
theorem WR{n:Nat}{xs:Nat->List Int}{i:Nat}(hi:i<n)(K:xs i≠ [])(O:∀k,k<i->xs k= []):Mm n xs=(xs i,true):=by
 unfold Mm;have:(List.range n).find? (λj=> !(xs j).isEmpty)=some i:=by
  rw [List.find?_range_eq_some];refine⟨by simp [K],by simpa using hi,λj U=>by simp [O j U]⟩
 rw [this]
theorem Xt{n:Nat}{xs:Nat->List Int}(K:∀k,k<n->xs k= []):Mm n xs=([],false):=by
 unfold Mm;have:(List.range n).find? (λj=> !(xs j).isEmpty)=none:=by
  rw [List.find?_eq_none];intro j O;simp [K j (List.mem_range.1 O)]
 rw [this]
theorem YS{E:LH}{a:Ao}{c:Nat}{xs:List Int}(h:An rI E a c xs)(K:xs≠ []):a.isNone=false:=by
 rcases h.2 with⟨e,_⟩ | ⟨bk,off,e,_⟩
 ·exact absurd e K
 ·rw [e];rfl
set_option maxHeartbeats 1000000 in
theorem bV{J:Judge Tryz.prog}{Q:Gs_}{Y:Frame}{cs:Lf_}{fd n:Nat}{f:Nat->Value}{xs:Nat->List Int}(ay:n<=1000){E H:LH}{k:Li_}(ag:Aq E H [[(fd,.cells (Array.ofFn λi:Fin n=>f i) 28 (0,0))]])(hm:∀k,k<n->∃a c,f k= .slice a (xs k).length c/\An rI E a c (xs k)/\(xs k= []->a=none))
  (al:∀i a c L',i<n->xs i≠ []->(∀k,k<i->xs k= [])->An rI E a c (xs i)->look L' 4=some (.slice a (xs i).length c)->look L' 5=some (.bool true)->∀k',JL J Q (base 77) Tryz.f77.ntmps L' [] (.code .ret::k') (Y::cs) (Aj E H [[(fd,.cells (Array.ofFn λi:Fin n=>f i) 28 (0,0))]]))
  (am:(∀k,k<n->xs k= [])->JL J Q (base 77) Tryz.f77.ntmps [] [] k (Y::cs) (Aj E H [[(fd,.cells (Array.ofFn λi:Fin n=>f i) 28 (0,0))]])):
  ∀m i,i+m=n->(∀k,k<i->xs k= [])->JL J Q (base 77) Tryz.f77.ntmps [(27,.slice (AM fd) n n),(28,iV (n:Int)),(29,iV (i:Int))] [] (.code Vj:: .inLoop Vj:: .inBlock 2::k) (Y::cs) (Aj E H [[(fd,.cells (Array.ofFn λi:Fin n=>f i) 28 (0,0))]]):=by
 intro m
 induction m with
 | zero=>
  intro i hi K;refine C 2 V (Am (v:= .bool false) V (λρ h=>Yl.to (Yl.lss (h _ _ V) (h _ _ V)) (by rw [decide_eq_false (show ¬((i:Int)<(n:Int)) by omega)])) ?_);refine C 4 V (EA [] V ?_);exact am λk az=>K k (by omega)
 | succ m ap=>
  intro i hi K;have O:i<n:=by omega
  obtain⟨a,c,aq,ac,av⟩:=hm i O;refine C 2 V (Am (v:= .bool true) V (λρ h=>Yl.to (Yl.lss (h _ _ V) (h _ _ V)) (by rw [decide_eq_true (show(i:Int)<(n:Int) by omega)])) ?_);refine C 8 V (Am (v:= Ak fd i) V (λρ h=>Yl.to (FG (xs:=List.replicate n ()) (m:=((i:Nat):Int)) (xv:=()) (List.length_replicate) (by simp [ix,O]) underlying22 GW (h _ _ V) (h _ _ V)) (by show Ak fd (i*1)=_;rw [Nat.mul_one])) ?_);refine Am (v:= .slice a (xs i).length c) V (λρ h=>Yl.load Kr (h _ _ V) (BL (j:=0) (off:=i) ag V (by simp [O,aq]))) (C 5 V ?_);refine Am (v:= .bool (!a.isNone)) V (λρ h=>WO underlying28 (h _ _ V) (h _ _ V)) (JL.done ?_);by_cases U:xs i= []
  ·have Z:(!a.isNone)=false:=by rw [av U];rfl
   rw [Z];refine C 4 V ?_;have aw:Ar (((i:Nat):Int)+1)=some (((i+1:Nat)):Int):=by unfold Ar;rw [if_pos (by omega)];simp
   refine Bl aw V V V ?_;refine C 2 V ?_;refine JL.again ?_;refine Ff ?_ (ap (i+1) (by omega) (λk a0=>by
    by_cases e:k=i
    ·subst e;exact U
    ·exact K k (by omega)))
   exact⟨V,V,V,trivial⟩
  ·have Z:(!a.isNone)=true:=by rw [YS ac U];rfl
   rw [Z];exact C 7 V (al i a c _ O U K ac V V _)
set_option maxHeartbeats 2000000 in
theorem cz{E:LH}{a1:Ao}{c2:Nat}{a8:Ao}{a9:Nat}{ap:Ao}{bb:Nat}{O:A8}{p:Ay}(cc:An (rL rI) E a1 c2 O.1)(ce:An Az E a8 a9 O.2)(ci:An Az E ap bb p){fu_:Nat}{r:(List Int)×Bool}(U:f77 fu_ O p=some r):
  AP (G0 Tryz.prog) 77 [.agg #[sV a1 O.1 c2,sV a8 O.2 a9],sV ap p bb] E [] (λw E' B'=>∃(be:Ao) (bi:Nat),w= .tuple #[sV be r.1 bi,.bool r.2]/\B'= []/\An rI E' be bi r.1):=by
 refine Qu func77 V V λQ ey cs H co Y=>?_;unfold f77 at U;refine C 2 V (DF co λcp ez ct cw cy=>?_);refine DF cy λc0 eA bn am c1=>?_;refine Io (S':= []) (by simp) c1 λbo=>?_;have bv:=ct.Ad bn;refine C 6 V (CQ 0 am Bx V V V ?_);refine JL.ln underlying80 V V V (C 2 V ?_);refine Gp (p:=(p.length:Int)=0) V (λc3=>?_) (λc3=>?_)
 ·rw [if_pos (by omega)] at U;have Z:=(Option.some.inj U).symm;subst Z;refine C 5 V (AX func77 V V ?_);exact Y _ _ _ _ bv V ⟨none,0,V,V,An.nil⟩ bo
 rw [if_neg (by omega)] at U;split at U
 rotate_left
 ·cases U
 rename_i hb;obtain⟨bw,c4⟩:=hb;have Z:=(Option.some.inj U).symm;have ag:∀j,j<p.length->KZ fu_ O p j=some (OJ fu_ O p j):=λj az=>by
  have aq:=List.all_eq_true.1 c4 j (List.mem_range.2 az);obtain⟨x,a0⟩:=Option.isSome_iff_exists.1 aq;unfold OJ;rw [a0];rfl
 generalize eB:OJ fu_ O p=xs at ag Z;have bx:0<p.length:=by omega
 refine C 3 V (B3 bo (Dv type142) λmu c5=>?_);refine C 3 V (B3 c5 (Dv type148) λwg c6=>?_);refine JL.done (Io (S':= [[(mu,.cells #[.int .i32 0,.int .u32 0] 142 (0,0))],[(wg,.cells #[.int .u64 0,.int .u32 0] 148 (0,0))]]) (by simp [Value.cells]) c6 λc7=>?_);refine C 2 V (CQ 0 am Bx V V V ?_);refine JL.ln underlying80 V V V ?_;have c8:Jx (p.length:Int) (Value.slice none 0 0)=some (List.replicate p.length nS):=by unfold Jx;rw [if_pos (by omega)];simp
 refine JS.make (pp:=rV) c8 V V V V V underlying22 GW (DW type28) (by decide) L2 (by decide) ⟨V,V⟩ c7 λfd eC c9 bz=>?_;have dd:=OL.br c9 V;subst dd;obtain⟨K,b0⟩:∃K,K=List.replicate p.length (Value.slice none 0 0):=⟨_,V⟩;have b1:(List.replicate p.length (Value.slice none 0 0)).length=p.length:=by simp
 rw [← b0] at bz b1 ⊢;rw [b1];refine B3 bz (Dv type22) λkf dn=>?_;refine BQ 3 dn GX λea=>?_;refine Du 3 ea V λac av b2 eb=>Io (S':= [[(mu,.cells #[.int .i32 0,.int .u32 0] 142 (0,0))],[(wg,.cells #[.int .u64 0,.int .u32 0] 148 (0,0))],[(fd,.cells K.toArray 28 (0,0))]]) (by simp) eb λal=>?_;have aw:=bv.Ad av;refine C 4 V (CQ 0 (am.Ah av) Bx V V V ?_);refine JL.ln underlying80 V V V (C 3 V ?_);refine IQ (EA [(2,Ak cp 0),(3,Ak c0 0),(6,.pointer (some (⟨mu,0,none⟩:Addr))),(7,.pointer (some (⟨wg,0,none⟩:Addr))),(8,Ak kf 0),(19,iV (p.length:Int)),(20,iV ((0:Nat):Int))] V ?_);have b3:=Nd.iff.1 al;intro T ec;let F:Fam:=⟨wg,mu,fd,148,142,28,p.length,λkk v E=>kk<p.length/\∃a c,v= .slice a (xs kk).length c/\An rI E a c (xs kk)/\(xs kk= []->a=none),λg s=>(G0 Tryz.prog).ok Q g s⟩;have ay:=b3.1;simp only [List.flatten_cons,List.flatten_nil,List.append_nil,List.cons_append,List.nil_append,List.map_cons,List.map_nil,List.nodup_cons,List.mem_cons,List.not_mem_nil,not_or,or_false,not_false_eq_true,and_true,List.nodup_nil] at ay;have ed:(Aj ac H [[(mu,.cells #[.int .i32 0,.int .u32 0] 142 (0,0))],[(wg,.cells #[.int .u64 0,.int .u32 0] 148 (0,0))],[(fd,.cells K.toArray 28 (0,0))]]).H fd=some (F.IJ λ_=> nS):=by
  rw [J8 (j:=2) al rfl];have:(Array.ofFn λ_:Fin p.length=>Value.slice none 0 0)=K.toArray:=by
   rw [b0];apply Array.ext
   ·simp
   ·intro i aq b4;simp
  show some (Obj.cells K.toArray 28 (0,0))=some (Obj.cells (Array.ofFn λ_:Fin p.length=>Value.slice none 0 0) 28 (0,0));rw [this]
 refine YX F (f₀:=λ_=> .slice none 0 0) (show 1<=p.length by omega) (show p.length<134217728 by omega) ?_ ay.1.1 (λe=>ay.2 e.symm) (λe=>ay.1.2 e.symm) (J8 (j:=1) al V) (J8 (j:=0) al V) ed ?_ (λg s h=>h)
 ·rintro kk v eD eE ee ⟨aq,a,c,b4,a2,a3⟩;exact⟨aq,a,c,b4,a2.Ah ee,a3⟩
 have ef:=V6 al;show Way Tryz.prog true (Stop Tryz.prog F (.Gt 0)) _ (⟨(Aj ac H [[(mu,.cells #[.int .i32 0,.int .u32 0] 142 (0,0))],[(wg,.cells #[.int .u64 0,.int .u32 0] 148 (0,0))],[(fd,.cells K.toArray 28 (0,0))]]).E,JZ (Aj ac H [[(mu,.cells #[.int .i32 0,.int .u32 0] 142 (0,0))],[(wg,.cells #[.int .u64 0,.int .u32 0] 148 (0,0))],[(fd,.cells K.toArray 28 (0,0))]]).H wg mu fd,false⟩:St);rw [show(Aj ac H [[(mu,.cells #[.int .i32 0,.int .u32 0] 142 (0,0))],[(wg,.cells #[.int .u64 0,.int .u32 0] 148 (0,0))],[(fd,.cells K.toArray 28 (0,0))]]).E=ac from rfl,ef];have eg:Aq ac H []:=trivial;have ej:H fd=none:=(b3.2 (fd,.cells K.toArray 28 (0,0)) (by simp)).2;refine Wo (F:=F) (n:=p.length) V bx bw (ci.Ah aw) (cc.Ah aw) (ce.Ah aw) V (am.Ah av) (cw.Ah (bn.Ad av)) b2 ag (λj az E' a c ek el=>⟨az,a,c,V,ek,el⟩) (λem b5 eF=>?_) p.length 0 (by omega) bx ac Av eg T ec;refine C 2 V ?_;refine Am (v:= .bool false) V (λρ h=>Yl.to (Yl.lss (h _ _ V) (h _ _ V)) (by rw [decide_eq_false (show ¬((p.length:Int)<(p.length:Int)) by omega)])) ?_;refine C 6 V ?_;refine JL.wait Tryz.KM (F:=F) (show p.length<2147483648 by omega) V V V V V (Q:=Q) (λg s h=>h) λa4 f b6 eo eG er=>?_;have a5:Aq a4 H [[(fd,F.IJ f)]]:=Nd.iff.2 ⟨by simp,λq ag=>by
  simp at ag;subst ag;exact⟨eo,ej⟩⟩
 have es:(⟨a4,F.J1 (Aj em H []).H f,false⟩:St)=Aj a4 H [[(fd,F.IJ f)]]:=by
  unfold Aj mk;congr 1
 rw [es];have ca:=(aw.Ad b5).Ad b6;refine C 4 V (CQ 0 (b2.Ah (b5.Ad b6)) GC V V V ?_);refine JL.ln underlying22 V V V (C 3 V ?_);refine IQ (EA [(27,.slice (AM fd) p.length p.length),(28,iV (p.length:Int)),(29,iV ((0:Nat):Int))] V ?_);refine bV (n:=p.length) (f:=f) (xs:=xs) bw a5 (λk Y=>?_) (λi a c L' hi a0 a6 eu a2 a3 k'=>?_) (λa6=>?_) p.length 0 (by omega) (λk Y=>absurd Y (Nat.not_lt_zero _))
 ·obtain⟨_,a,c,ew,e2,ex⟩:=er k Y;exact⟨a,c,ew,e2,ex⟩
 ·rw [WR hi a0 a6] at Z;subst Z;exact JL.ret (v:= .tuple #[.slice a (xs i).length c,.bool true]) V V (Bz.list func77 V (vs:= [.slice a (xs i).length c,.bool true]) ⟨a2,a3,trivial⟩) (RQ a5 λa7=>Y _ _ _ _ ca V ⟨a,c,V,V,eu⟩ a7)
 ·rw [Xt a6] at Z;subst Z;refine C 5 V (AX func77 V V ?_);exact RQ a5 λa7=>Y _ _ _ _ ca V ⟨none,0,V,V,An.nil⟩ a7
end Pal
namespace Pal
open Go Go.Conc Go.Proofs
open Go.Proofs.Tryz
def TZ(fu_:Nat)(Z:A8×Int)(O:AO)(K:Int):Option (Bd Int ((Ay×(List Int)×Int)⊕(Unit))):= if K<(O.length:Int) then((ix O K).bind λU=> (f77 fu_ Z.1 U).bind λY=> if Y.2=true then(some (.done (Sum.inl (U,Y.1,0)))) else((Ar (K+1)).bind λac=> some (.more ac))) else(some (.done (Sum.inr ())))
def f27(fu_:Nat)(p0:A8):Option (Ay×(List Int)×Int):= (f70 fu_ p0 ([])).bind λK=> if K.2≠0 then(some ([],[],K.2)) else((f71 fu_ K.1 0).bind λO=> (f76 fu_ O).bind λU=> Option.bind (iter (TZ fu_ K U) fu_ 0) λY=> Sum.elim (λr=>some r) (λZ=> some ([],[],11)) Y)
theorem cW{E:LH}{a1:Ao}{c2:Nat}{al:Ao}{am:Nat}{p0:A8}(ce:An (rL rI) E a1 c2 p0.1)(ci:An Az E al am p0.2){fu_:Nat}{r:Ay×(List Int)×Int}(a8:f27 fu_ p0=some r):AP (G0 Tryz.prog) 27 [.agg #[sV a1 p0.1 c2,sV al p0.2 am]] E [] (λw E' B'=>∃(a9:Ao) (bb:Nat) (be:Ao) (bi:Nat),w= .tuple #[sV a9 r.1 bb,sV be r.2.1 bi,iV r.2.2]/\B'= []/\An Az E' a9 bb r.1/\An rI E' be bi r.2.1):=by
 refine Bn func27 λQ eS cs H co a2=>?_;unfold f27 at a8;refine C 2 V (DF co λcp eT Y ct cw=>?_);refine C 6 V (Cg ct Fu De V V ?_);obtain⟨K,cy,c0⟩:=bs a8;refine BP (J4 (ce.Ah Y) (ci.Ah Y) An.nil cy) V V JI cw ?_;rintro _ eU _ a3 ⟨ap,aq,av,aw,rfl,rfl,bn,bo⟩ c1;refine C 3 V (B3 c1 Hi λbv c3=>?_);refine BQ 3 c3 Dt λc4=>?_;refine Du 3 c4 V λeV O bw bx=>C 8 V (AL c0 (λc5 c6=>?_) (λc5 c7=>?_))
 ·refine C 7 V ?_;obtain rfl:=oi c6;exact AX func27 V V (a2 ((Y.Ad a3).Ad O) V ⟨none,0,none,0,V,V,An.nil,An.nil⟩ bx)
 ·refine C 3 V (Cg bw FQ Dt V V ?_);obtain⟨eW,c8,c9⟩:=bs c7;refine BP (OB (bn.Ah O) (bo.Ah O) c8) V V LZ bx ?_;rintro _ eX eY Z ⟨ay,az,_,rfl,rfl,dd⟩ dn;obtain⟨ac,ea,eb⟩:=bs c9;refine C 5 V (Db 4 (aG dd ea) V V (A6 func76 V) dn V ?_);rintro _ ec ed ag ⟨rfl,ee,a4⟩ ef;refine Ff (L':= [(23,.tuple #[]),(0,.agg #[.slice a1 p0.1.length c2,.slice al p0.2.length am]),(1,Ak cp 0),(2,.slice none 0 0),(3,.slice none 0 0),(4,iV 0),(13,.agg #[.slice a1 p0.1.length c2,.slice al p0.2.length am]),(14,.tuple #[.agg #[.slice ap K.1.1.length aq,.slice av K.1.2.length aw],iV K.2]),(12,.tuple #[.agg #[.slice ap K.1.1.length aq,.slice av K.1.2.length aw],iV K.2]),(15,.agg #[.slice ap K.1.1.length aq,.slice av K.1.2.length aw]),(16,iV K.2),(5,Ak bv 0),(6,iV K.2),(17,iV K.2),(18,.bool (decide (K.2≠0))),(20,.agg #[.slice ap K.1.1.length aq,.slice av K.1.2.length aw]),(21,.slice ay ac.length az),(7,.slice ay ac.length az),(22,.slice ay ac.length az)]) ⟨V,V,V,V,V,V,V,V,V,V,V,V,V,V,V,V,by rw [a4];rfl,by rw [a4];rfl,by rw [a4];rfl,trivial⟩ ?_;refine C 5 V (JL.ln underlying83 V V V ?_);obtain⟨bz,eg,b0⟩:=bs eb;refine C 2 V (Br (λL s=>∃(b1:Unit) (b2:LH),bz=Sum.inr b1/\Jm ec H b2 [] [] L s) ?_ ?_)
  ·rintro _ _ ⟨b1,b2,rfl,rfl,rfl,ej,ek⟩;have el:=elim_inr b0;refine C 6 V ?_;obtain rfl:=oi el;exact AX func27 V V (a2 (((((Y.Ad a3).Ad O).Ad Z).Ad ag).Ad ej) V ⟨none,0,none,0,V,V,An.nil,An.nil⟩ ek)
  ·intro em;refine JL.block (CO eg (λa5=> [ed]) (λa5=> [(5,Ak bv 0),(24,sV ay ac az),(25,iV (ac.length:Int)),(26,iV a5)]) Av ef ?_);rintro a5 eo U a6 b3 ⟨eZ,a0⟩ er;have b4:=a0;unfold TZ at b4;refine C 5 V (AL b4 (λeu ew=>?_) (λeu ex=>?_))
   ·obtain⟨ey,ez,eA⟩:=bs ew;refine C 5 V (Hn 0 (ee.Ah U) ez V V V V V V underlying83 Bg ?_);rintro e0 e1 f93 _ eB ⟨b5,b6,rfl,ca⟩ eC e3 e4 e5 e6;refine Am (v:= sV b5 ey b6) V (λρ h=>Yl.load Bx (h _ _ V) (BL (j:=0) a6 eB (eC 0 _ V))) (C 4 V ?_);refine Cg (bw.Ah ((Z.Ad ag).Ad U)) FQ Dt V V ?_;obtain⟨e7,eD,eE⟩:=bs eA;refine C 1 V (BP (cz (bn.Ah (((O.Ad Z).Ad ag).Ad U)) (bo.Ah (((O.Ad Z).Ad ag).Ad U)) ca eD) V V (A6 func77 V) a6 ?_);rintro _ e8 _ a7 ⟨eF,eG,rfl,rfl,eH⟩ cc;refine C 10 V (Ck eE (λeI eJ=>?_) (λeI eK=>?_))
    ·refine C 8 V (JS.drop 0 cc V λeL=>?_);obtain rfl:=oi eJ;obtain rfl:=b3 _ a0;have eM:=elim_inl b0;obtain rfl:=oi eM;exact AX func27 V V (a2 ((((((Y.Ad a3).Ad O).Ad Z).Ad ag).Ad U).Ad a7) V ⟨b5,b6,eF,eG,V,V,(ca.Ah a7),eH⟩ eL)
    ·obtain⟨eN,eO,eP⟩:=bs eK;refine C 3 V (Bl eO V V V ?_);refine C 2 V ?_;obtain rfl:=oi eP;exact er eN (U.Ad a7) cc V a0
   ·refine JL.exit V (JS.drop 0 a6 V λeQ=>?_);obtain rfl:=oi ex;have eR:bz=(Sum.inr ()):=(b3 _ a0).symm;exact AB (em _ _ ⟨(),eo,eR,V,V,U,eQ⟩) V
variable {J:Judge Tryz.prog}{E:LH}
def T6(fu_:Nat)(p0:List Int)(K:Ay×Int):Option (Bd (Ay×Int) (Ay)):= (Ar (K.2+2)).bind λO=> if O<(p0.length:Int) then((ix p0 K.2).bind λU=> (Ar (K.2+1)).bind λY=> (ix p0 Y).bind λZ=> (Ar (K.2+2)).bind λac=> (ix p0 ac).bind λag=> (DD K.1 ([(U,Z,ag)]:Ay)).bind λal=> (Ar (K.2+3)).bind λam=> some (.more (al,am))) else(some (.done K.1))
def f67(fu_:Nat)(p0:List Int):Option (Ay):= Option.bind (iter (T6 fu_ p0) fu_ ([],0)) λK=> some K
theorem Ot{a1:Ao}{c2:Nat}{p0:List Int}(aq:An rI E a1 c2 p0){fu_:Nat}{r:Ay}(a2:f67 fu_ p0=some r):AP J 67 [sV a1 p0 c2] E [] (λw E' B'=>∃(a3:Ao) (a4:Nat) (g0:Seg),w= sV a3 r a4/\B'=g0/\OL 27 Az E' a3 a4 g0 r):=by
 refine Bn func67 λQ eo cs H be bi=>?_;unfold f67 at a2;obtain⟨a5,bn,bo⟩:=bs a2;refine C 13 V (Br (λL s=>∃(av:LH) (Y:Ao) (Z:Nat) (ac:Seg),Jn E H av [ac] [(3,sV Y a5 Z)] L s (OL 27 Az av Y Z ac a5)) ?_ ?_)
 ·rintro _ _ ⟨av,Y,Z,ac,rfl,rfl,bv,bw,bx⟩;refine C 5 V ?_;obtain rfl:=oi bo;exact AX func67 V V (bi bv V ⟨Y,Z,ac,V,(by first | rfl | simp | (simp [Value.cells])),bx⟩ bw)
 ·intro bz;refine JL.block (CG bn (λL s ag=>∃(al:LH) (am:Ao) (ap:Nat) (O:Seg),Jn E H al [O] [(0,sV a1 p0 c2),(3,sV am ag.1 ap),(4,iV ag.2)] L s (OL 27 Az al am ap O ag.1)) ⟨E,none,0,[],V,V,Av,be,OL.nil⟩ ?_);rintro _ _ ag ⟨al,am,ap,O,rfl,rfl,U,a6,a7⟩ b0 ⟨er,aw⟩ b1;have a8:=aw;unfold T6 at a8;obtain⟨eu,b2,b3⟩:=bs a8;refine C 4 V (Bl b2 V V V ?_);refine C 1 V (JL.ln underlying28 V V V ?_);refine C 2 V (AL b3 (λb4 b5=>?_) (λb4 b6=>?_))
  ·refine C 3 V (DY 17 λK=>?_);refine AR K V [0,1,2] V ?_;obtain⟨ay,ca,cc⟩:=bs b5;refine Di 3 (aq.Ah U) ca K underlying28 AA ?_;rintro ew ex _ rfl ce;refine CP 4 K 0 ce AY V V V V (AR K V [5,6] V ?_);obtain⟨ey,ci,co⟩:=bs cc;refine AJ 7 K V V (λρ h s' a9=>FF (h _ _ V) (h _ _ V) ci) ?_;obtain⟨az,cp,ct⟩:=bs co;refine Di 8 (aq.Ah U) cp K underlying28 AA ?_;rintro ez eA _ rfl cw;refine CP 9 K 0 cw AY V V V V (AR K V [10,11] V ?_);obtain⟨eB,cy,c0⟩:=bs ct;refine AJ 12 K V V (λρ h s' a9=>FF (h _ _ V) (h _ _ V) cy) ?_;obtain⟨a0,c1,c3⟩:=bs c0;refine Di 13 (aq.Ah U) c1 K underlying28 AA ?_;rintro eC eD _ rfl c4;refine CP 14 K 0 c4 AY V V V V (AJ (v:= .agg #[iV ay,iV az,iV a0]) 15 K V V (λρ h s' a9=>Dh [(0,1),(1,1),(2,1)] h BF underlying27 ⟨V,AV type3,V,AV type3,V,AV type3,trivial⟩ V V) ?_);refine JG.one (i:=16) V (by decide+kernel) (Take.EP (pp:=Az) [.agg #[iV ay,iV az,iV a0]] ([(ay,az,a0)]:Ay) a6 V V V underlying23 A0 BF (by decide) V V V ⟨⟨_,_,V,V,⟨_,_,V,V,V⟩⟩,trivial⟩ λeE c5 c6 c7=>?_);refine C4 [17,18] (B2 (S':= [O,c5]) V c7 λc8=>?_);refine BW 1 c6 c8 V λc9 bb dd dn=>?_;obtain⟨ea,eb,ec⟩:=bs c3;refine Iq (pp:=Az) 0 eb V V V V V V V underlying23 underlying23 A0 (DW type27) BF V (by decide) (by decide) (a7.Ah bb) dd dn V λed ee ef eg ej=>?_;obtain⟨ek,el,em⟩:=bs ec;refine C 5 V (Bl el V V V ?_);refine C 2 V ?_;obtain rfl:=oi em;exact AB (b1 _ _ (ea,ek) ⟨c9,ed,ee,ef,V,V,(U.Ad bb),ej,eg⟩ aw) V
  ·refine JL.exit V ?_;obtain rfl:=oi b6;obtain rfl:=b0 _ aw;exact AB (bz _ _ ⟨al,am,ap,O,V,V,U,a6,a7⟩) V
def f110(fu_:Nat)(p0:List Int)(K:List Int):Option (A8):= (f67 fu_ ([0,1,5,1,2,5,2,3,2,0,3,1,3,1,1]:List Int)).bind λO=> (f67 fu_ K).bind λU=> (DD O U).bind λY=> some (([p0,[],([3]:List Int),([1]:List Int)]:Bf),Y)
theorem Qg{a1:Ao}{c2:Nat}{ay:Ao}{az:Nat}{p0:List Int}{al:List Int}(a9:An rI E a1 c2 p0)(bb:An rI E ay az al){fu_:Nat}{r:A8}(a0:f110 fu_ p0 al=some r):AP J 110 [sV a1 p0 c2,sV ay al az] E [] (λw E' B'=>∃(a2:Ao) (a3:Nat) (a4:Ao) (a5:Nat),w= .agg #[sV a2 r.1 a3,sV a4 r.2 a5]/\B'= []/\An (rL rI) E' a2 a3 r.1/\An Az E' a4 a5 r.2):=by
 refine Bn func110 λQ er cs H be bi=>?_;unfold f110 at a0;refine C 2 V (B3 be Ks λY bn=>?_);refine C 4 V (EN (pp:=rI) [iV 3] [3] V V V underlying28 AA Cq (by decide) V V V ⟨V,trivial⟩ bn λbo bv bw bx=>?_);refine EN (pp:=rI) [iV 1] [1] V V V underlying28 AA Cq (by decide) V V V ⟨V,trivial⟩ bx λbz b0 b1 b2=>B2 (S':= [[],[(Y,.cells #[nS,nS] 25 (0,0))],bv,b0]) V b2 λb3=>BW 2 bw b3 V λeu ac b4 b5=>BW 3 (b1.Ah ac) b5 V λew ag b6 ca=>EN (pp:=(rL rI)) [sV a1 p0 c2,nS,.slice (AM bo) (([3]:List Int)).length 1,.slice (AM bz) (([1]:List Int)).length 1] [p0,[],([3]:List Int),([1]:List Int)] V V V underlying22 GW L2 (by decide) V V V ⟨⟨_,_,V,(a9.Ah (ac.Ad ag))⟩,⟨_,_,V,An.nil⟩,⟨_,_,V,(b4.Ah ag)⟩,⟨_,_,V,b6⟩,trivial⟩ ca λK am cc ce=>B2 (S':= [[],[(Y,.cells #[nS,nS] 25 (0,0))],[],[],am]) V ce λci=>EN (pp:=rI) [iV 0,iV 1,iV 5,iV 1,iV 2,iV 5,iV 2,iV 3,iV 2,iV 0,iV 3,iV 1,iV 3,iV 1,iV 1] [0,1,5,1,2,5,2,3,2,0,3,1,3,1,1] V V V underlying28 AA Cq (by decide) V V V ⟨V,V,V,V,V,V,V,V,V,V,V,V,V,V,V,trivial⟩ ci λex ey co cp=>BW 5 co cp V λez ap ct cw=>?_;obtain⟨eA,cy,c0⟩:=bs a0;refine BP (Ot ct cy) V V K7 cw ?_;rintro _ eB c1 aq ⟨eC,eD,_,rfl,rfl,c3⟩ c4;refine B2 (S':= [[],[(Y,.cells #[nS,nS] 25 (0,0))],[],[],am,[],c1]) V c4 λc5=>?_;obtain⟨eE,c6,c7⟩:=bs c0;refine C 1 V (BP (Ot (bb.Ah (((ac.Ad ag).Ad ap).Ad aq)) c6) V V K7 c5 ?_);rintro _ eF eG av ⟨eH,eI,_,rfl,rfl,c8⟩ c9;refine BW 7 c8 c9 V λeJ aw dd dn=>?_;obtain⟨Z,ea,eb⟩:=bs c7;refine Iq (pp:=Az) 6 ea V V V V V V V underlying23 underlying23 A0 (DW type27) BF V (by decide) (by decide) (c3.Ah (av.Ad aw)) dd dn V λO U ec ed ee=>B2 (S':= [[],[(Y,.cells #[nS,nS] 25 (0,0))],[],[],am,[],ec,[]]) V ee λef=>Am (v:= .agg #[.slice (AM K) (([p0,[],([3]:List Int),([1]:List Int)]:Bf)).length 4,sV O Z U]) V (λρ h=>Dh [(0,1),(1,1)] h Ks underlying25 ⟨V,AV type22,V,AV type23,trivial⟩ V V) (BQ 1 ef De λeg=>?_);refine JL.done (BW 4 (cc.Ah (((ap.Ad aq).Ad av).Ad aw)) eg V λeK a6 ej ek=>?_);refine BW 6 (ed.Ah a6) ek V λeL a7 el em=>B2 (S':= [[],[(Y,.cells #[.slice (AM K) (([p0,[],([3]:List Int),([1]:List Int)]:Bf)).length 4,sV O Z U] 25 (0,0))],[],[],[],[],[],[]]) V em λa8=>?_;obtain rfl:=oi eb;refine JL.ret (v:= .agg #[.slice (AM K) (([p0,[],([3]:List Int),([1]:List Int)]:Bf)).length 4,sV O Z U]) V V (Bz.list func110 V (vs:= [.agg #[.slice (AM K) (([p0,[],([3]:List Int),([1]:List Int)]:Bf)).length 4,sV O Z U]]) ⟨⟨_,V,Ld.many (vs:= [.slice (AM K) (([p0,[],([3]:List Int),([1]:List Int)]:Bf)).length 4,sV O Z U]) Fu De (Ih (off:=0) 1 a8 V V)⟩,trivial⟩) (EM 1 a8 V λeo=>?_);exact bi (((((((ac.Ad ag).Ad ap).Ad aq).Ad av).Ad aw).Ad a6).Ad a7) V ⟨(AM K),4,O,U,V,V,(ej.Ah a7),el⟩ eo
def f63(fu_:Nat):Option (A8):= (f110 fu_ ([1,2,3]:List Int) ([])).bind λK=> some K
theorem Oo{fu_:Nat}{r:A8}(ac:f63 fu_=some r):AP J 63 [] E [] (λw E' B'=>∃(ag:Ao) (al:Nat) (am:Ao) (ap:Nat),w= .agg #[sV ag r.1 al,sV am r.2 ap]/\B'= []/\An (rL rI) E' ag al r.1/\An Az E' am ap r.2):=by
 refine Bn func63 λQ be cs H av aw=>?_;unfold f63 at ac;refine C 2 V (B3 av Ks λr1 ay=>?_);refine C 3 V (EN (pp:=rI) [iV 1,iV 2,iV 3] [1,2,3] V V V underlying28 AA Cq (by decide) V V V ⟨V,V,V,trivial⟩ ay λbi bn az a0=>?_);refine BW 2 az a0 V λbo a1 a2 a3=>?_;obtain⟨K,a4,a5⟩:=bs ac;refine BP (Qg a2 An.nil a4) V V OU a3 ?_;rintro _ bv _ a6 ⟨O,U,Y,Z,rfl,rfl,a7,a8⟩ a9;refine BQ 1 a9 De λaq=>?_;refine JL.done ?_;obtain rfl:=oi a5;refine JL.ret (v:= .agg #[sV O K.1 U,sV Y K.2 Z]) V V (Bz.list func63 V (vs:= [.agg #[sV O K.1 U,sV Y K.2 Z]]) ⟨⟨_,V,Ld.many (vs:= [sV O K.1 U,sV Y K.2 Z]) Fu De (Ih (off:=0) 1 aq V V)⟩,trivial⟩) (EM 1 aq V λbb=>?_);exact aw (a1.Ad a6) V ⟨O,U,Y,Z,V,V,a7,a8⟩ bb
def f64(fu_:Nat):Option (A8):= (f110 fu_ ([]) ([])).bind λK=> some K
theorem cY{fu_:Nat}{r:A8}(ac:f64 fu_=some r):AP J 64 [] E [] (λw E' B'=>∃(ag:Ao) (al:Nat) (am:Ao) (ap:Nat),w= .agg #[sV ag r.1 al,sV am r.2 ap]/\B'= []/\An (rL rI) E' ag al r.1/\An Az E' am ap r.2):=by
 refine Bn func64 λQ a6 cs H av aw=>?_;unfold f64 at ac;refine C 2 V (B3 av Ks λr1 ay=>?_);obtain⟨K,az,a0⟩:=bs ac;refine C 3 V (BP (Qg An.nil An.nil az) V V OU ay ?_);rintro _ a7 _ a1 ⟨O,U,Y,Z,rfl,rfl,a2,a3⟩ a4;refine BQ 1 a4 De λaq=>?_;refine JL.done ?_;obtain rfl:=oi a0;refine JL.ret (v:= .agg #[sV O K.1 U,sV Y K.2 Z]) V V (Bz.list func64 V (vs:= [.agg #[sV O K.1 U,sV Y K.2 Z]]) ⟨⟨_,V,Ld.many (vs:= [sV O K.1 U,sV Y K.2 Z]) Fu De (Ih (off:=0) 1 aq V V)⟩,trivial⟩) (EM 1 aq V λa5=>?_);exact aw a1 V ⟨O,U,Y,Z,V,V,a2,a3⟩ a5
def f65(fu_:Nat):Option (A8):= (f110 fu_ ([5,1]:List Int) ([])).bind λK=> some K
theorem cP{fu_:Nat}{r:A8}(ac:f65 fu_=some r):AP J 65 [] E [] (λw E' B'=>∃(ag:Ao) (al:Nat) (am:Ao) (ap:Nat),w= .agg #[sV ag r.1 al,sV am r.2 ap]/\B'= []/\An (rL rI) E' ag al r.1/\An Az E' am ap r.2):=by
 refine Bn func65 λQ be cs H av aw=>?_;unfold f65 at ac;refine C 2 V (B3 av Ks λr1 ay=>?_);refine C 3 V (EN (pp:=rI) [iV 5,iV 1] [5,1] V V V underlying28 AA Cq (by decide) V V V ⟨V,V,trivial⟩ ay λbi bn az a0=>?_);refine BW 2 az a0 V λbo a1 a2 a3=>?_;obtain⟨K,a4,a5⟩:=bs ac;refine BP (Qg a2 An.nil a4) V V OU a3 ?_;rintro _ bv _ a6 ⟨O,U,Y,Z,rfl,rfl,a7,a8⟩ a9;refine BQ 1 a9 De λaq=>?_;refine JL.done ?_;obtain rfl:=oi a5;refine JL.ret (v:= .agg #[sV O K.1 U,sV Y K.2 Z]) V V (Bz.list func65 V (vs:= [.agg #[sV O K.1 U,sV Y K.2 Z]]) ⟨⟨_,V,Ld.many (vs:= [sV O K.1 U,sV Y K.2 Z]) Fu De (Ih (off:=0) 1 aq V V)⟩,trivial⟩) (EM 1 aq V λbb=>?_);exact aw (a1.Ad a6) V ⟨O,U,Y,Z,V,V,a7,a8⟩ bb
def f66(fu_:Nat):Option (Ay):= (f67 fu_ ([0,1,1,0,2,3,0,3,2]:List Int)).bind λK=> some K
theorem da{fu_:Nat}{r:Ay}(K:f66 fu_=some r):AP J 66 [] E [] (λw E' B'=>∃(O:Ao) (U:Nat),w= sV O r U/\B'= []/\An Az E' O U r):=by
 refine Bn func66 λQ a5 cs H Y Z=>?_;unfold f66 at K;refine C 6 V (EN (pp:=rI) [iV 0,iV 1,iV 1,iV 0,iV 2,iV 3,iV 0,iV 3,iV 2] [0,1,1,0,2,3,0,3,2] V V V underlying28 AA Cq (by decide) V V V ⟨V,V,V,V,V,V,V,V,V,trivial⟩ Y λr1 g2 ac ag=>?_);refine BW 1 ac ag V λa6 al am ap=>?_;obtain⟨a7,aq,av⟩:=bs K;refine BP (Ot am aq) V V K7 ap ?_;rintro _ a8 a9 aw ⟨ay,az,_,rfl,rfl,a0⟩ a1;refine C 2 V (BW 2 a0 a1 V λbb a2 a3 a4=>?_);obtain rfl:=oi av;exact AX func66 V V (Z ((al.Ad aw).Ad a2) V ⟨ay,az,V,V,a3⟩ a4)
def T1(fu_:Nat)(p0:List Int)(O:List Int)(K:Int):Option (Bd Int ((Bool)⊕(Unit))):= Option.bind (if K<(p0.length:Int) then(some (decide (K<(O.length:Int)))) else(some false)) λU=> if U=true then((ix p0 K).bind λY=> (ix O K).bind λZ=> if Y≠Z then(some (.done (Sum.inl false))) else((Ar (K+1)).bind λac=> some (.more ac))) else(some (.done (Sum.inr ())))
def f29(fu_:Nat)(p0:List Int)(K:List Int):Option Bool:= Option.bind (iter (T1 fu_ p0 K) fu_ 0) λO=> Sum.elim (λr=>some r) (λU=> some (decide ((p0.length:Int)=(K.length:Int)))) O
theorem Ok{a1:Ao}{c2:Nat}{U:Ao}{Y:Nat}{p0:List Int}{K:List Int}(a7:An rI E a1 c2 p0)(a8:An rI E U Y K){fu_:Nat}{r:Bool}(av:f29 fu_ p0 K=some r):AP J 29 [sV a1 p0 c2,sV U K Y] E [] (λw E' B'=>w= .bool r/\B'= []):=by
 refine Bn func29 λQ c5 cs H a9 aw=>?_;unfold f29 at av;obtain⟨ay,bb,az⟩:=bs av;refine C 9 V (Br (λL s=>∃(a0:Unit) (a2:LH),ay=Sum.inr a0/\Jm E H a2 [] [(0,sV a1 p0 c2),(1,sV U K Y)] L s) ?_ ?_)
 ·rintro _ _ ⟨a0,a2,rfl,rfl,rfl,be,bi⟩;have bn:=elim_inr az;refine C 3 V (JL.ln underlying28 V V V ?_);refine C 1 V (JL.ln underlying28 V V V ?_);refine C 3 V ?_;obtain rfl:=oi bn;exact AX func29 V V (aw be V ⟨V,V⟩ bi)
 ·intro bo;refine JL.block (CO bb (λag=> []) (λag=> [(0,sV a1 p0 c2),(1,sV U K Y),(5,iV ag)]) Av a9 ?_);rintro ag am Z a3 a4 ⟨c6,al⟩ bv;have a5:=al;unfold T1 at a5;refine C 5 V (JL.ln underlying28 V V V ?_);obtain⟨bw,bx,bz⟩:=bs a5;refine C 2 V (Gl [] (λL s=>∃(ap:LH),Jm am H ap [] [(0,sV a1 p0 c2),(1,sV U K Y),(5,iV ag),(15,.bool bw)] L s) ?_ ?_)
  ·rintro _ _ ⟨ap,rfl,rfl,ac,aq⟩;refine JL.done (Ck bz (λb0 b1=>?_) (λb0 b2=>?_))
   ·refine C 4 V (DY 8 λO=>?_);refine AR O V [0,1] V ?_;obtain⟨c7,b3,b4⟩:=bs b1;refine Di 2 (a7.Ah (Z.Ad ac)) b3 O underlying28 AA ?_;rintro c8 c9 _ rfl b5;refine CP 3 O 0 b5 AY V V V V (AR O V [4,5] V ?_);obtain⟨dd,b6,ca⟩:=bs b4;refine Di 6 (a8.Ah (Z.Ad ac)) b6 O underlying28 AA ?_;rintro dn ea _ rfl cc;refine CP 7 O 0 cc AY V V V V (C4 [8] ?_);refine C 2 V (AL ca (λce ci=>?_) (λce co=>?_))
    ·refine C 4 V ?_;obtain rfl:=oi ci;obtain rfl:=a4 _ al;have cp:=elim_inl az;obtain rfl:=oi cp;exact AX func29 V V (aw (Z.Ad ac) V ⟨V,V⟩ aq)
    ·obtain⟨ct,cw,cy⟩:=bs co;refine C 4 V (Bl cw V V V ?_);refine C 2 V ?_;obtain rfl:=oi cy;exact bv ct (Z.Ad ac) aq V al
   ·refine JL.exit V ?_;obtain rfl:=oi b2;have c0:ay=(Sum.inr ()):=(a4 _ al).symm;exact AB (bo _ _ ⟨(),ap,c0,V,V,(Z.Ad ac),aq⟩) V
  ·intro a6;refine FJ 10 bx (λc1 c3=>?_) (λc1 c4=>?_)
   ·refine C 2 V (JL.ln underlying28 V V V ?_);refine C 2 V ?_;obtain rfl:=oi c3;exact AB (a6 _ _ ⟨am,V,V,Av,a3⟩) V
   ·refine C 5 V ?_;obtain rfl:=oi c4;exact AB (a6 _ _ ⟨am,V,V,Av,a3⟩) V
def N3(fu_:Nat)(p0:Ay)(O:Ay)(K:Int):Option (Bd Int ((Bool)⊕(Unit))):= Option.bind (if K<(p0.length:Int) then(some (decide (K<(O.length:Int)))) else(some false)) λU=> if U=true then((ix p0 K).bind λY=> (ix O K).bind λZ=> if Y≠Z then(some (.done (Sum.inl false))) else((Ar (K+1)).bind λac=> some (.more ac))) else(some (.done (Sum.inr ())))
def f26(fu_:Nat)(p0:Ay)(K:Ay):Option Bool:= Option.bind (iter (N3 fu_ p0 K) fu_ 0) λO=> Sum.elim (λr=>some r) (λU=> some (decide ((p0.length:Int)=(K.length:Int)))) O
theorem QG{a1:Ao}{c2:Nat}{U:Ao}{Y:Nat}{p0:Ay}{K:Ay}(a9:An Az E a1 c2 p0)(bb:An Az E U Y K){fu_:Nat}{r:Bool}(ay:f26 fu_ p0 K=some r):AP J 26 [sV a1 p0 c2,sV U K Y] E [] (λw E' B'=>w= .bool r/\B'= []):=by
 refine Bn func26 λQ c7 cs H be az=>?_;unfold f26 at ay;obtain⟨a0,bi,a2⟩:=bs ay;refine C 9 V (Br (λL s=>∃(a3:Unit) (a4:LH),a0=Sum.inr a3/\Jm E H a4 [] [(0,sV a1 p0 c2),(1,sV U K Y)] L s) ?_ ?_)
 ·rintro _ _ ⟨a3,a4,rfl,rfl,rfl,bn,bo⟩;have bv:=elim_inr a2;refine C 3 V (JL.ln underlying23 V V V ?_);refine C 1 V (JL.ln underlying23 V V V ?_);refine C 3 V ?_;obtain rfl:=oi bv;exact AX func26 V V (az bn V ⟨V,V⟩ bo)
 ·intro bw;refine JL.block (CO bi (λap=> []) (λap=> [(0,sV a1 p0 c2),(1,sV U K Y),(5,iV ap)]) Av be ?_);rintro ap av Z a5 a6 ⟨c8,aq⟩ bx;have a7:=aq;unfold N3 at a7;refine C 5 V (JL.ln underlying23 V V V ?_);obtain⟨bz,b0,b1⟩:=bs a7;refine C 2 V (Gl [] (λL s=>∃(ac:LH),Jm av H ac [] [(0,sV a1 p0 c2),(1,sV U K Y),(5,iV ap),(15,.bool bz)] L s) ?_ ?_)
  ·rintro _ _ ⟨ac,rfl,rfl,ag,aw⟩;refine JL.done (Ck b1 (λb2 b3=>?_) (λb2 b4=>?_))
   ·refine C 4 V (DY 8 λO=>?_);refine AR O V [0,1] V ?_;obtain⟨al,b5,b6⟩:=bs b3;refine Di 2 (a9.Ah (Z.Ad ag)) b5 O underlying23 A0 ?_;rintro c9 dd _ ⟨_,_,rfl,rfl,⟨_,_,rfl,rfl,rfl⟩⟩ ca;refine Jq 3 O ca DU A0 V V V (AR O V [4,5] V ?_);obtain⟨am,cc,ce⟩:=bs b6;refine Di 6 (bb.Ah (Z.Ad ag)) cc O underlying23 A0 ?_;rintro dn ea _ ⟨_,_,rfl,rfl,⟨_,_,rfl,rfl,rfl⟩⟩ ci;refine Jq 7 O ci DU A0 V V V (C4 [8] ?_);refine Am (v:= .bool (decide (al≠am))) V (λρ h=>Ti (E:=ac) (E':=ac) (ws:= [iV al.1,iV al.2.1,iV al.2.2]) (ws':= [iV am.1,iV am.2.1,iV am.2.2]) (a:=al) (b:=am) cN (by decide) (by decide+kernel) ⟨_,_,V,V,⟨_,_,V,V,V⟩⟩ ⟨_,_,V,V,⟨_,_,V,V,V⟩⟩ (h _ _ V) (h _ _ V)) (JL.done ?_);refine AL ce (λco cp=>?_) (λco ct=>?_)
    ·refine C 4 V ?_;obtain rfl:=oi cp;obtain rfl:=a6 _ aq;have cw:=elim_inl a2;obtain rfl:=oi cw;exact AX func26 V V (az (Z.Ad ag) V ⟨V,V⟩ aw)
    ·obtain⟨cy,c0,c1⟩:=bs ct;refine C 4 V (Bl c0 V V V ?_);refine C 2 V ?_;obtain rfl:=oi c1;exact bx cy (Z.Ad ag) aw V aq
   ·refine JL.exit V ?_;obtain rfl:=oi b4;have c3:a0=(Sum.inr ()):=(a6 _ aq).symm;exact AB (bw _ _ ⟨(),ac,c3,V,V,(Z.Ad ag),aw⟩) V
  ·intro a8;refine FJ 10 b0 (λc4 c5=>?_) (λc4 c6=>?_)
   ·refine C 2 V (JL.ln underlying23 V V V ?_);refine C 2 V ?_;obtain rfl:=oi c5;exact AB (a8 _ _ ⟨av,V,V,Av,a5⟩) V
   ·refine C 5 V ?_;obtain rfl:=oi c6;exact AB (a8 _ _ ⟨av,V,V,Av,a5⟩) V
def f18(fu_:Nat):Option Bool:= (f63 fu_).bind λag=> (f43 fu_ ag).bind λO=> (f63 fu_).bind λal=> (f33 fu_ al).bind λU=> (f63 fu_).bind λam=> (f22 fu_ am).bind λY=> (f63 fu_).bind λap=> (f24 fu_ ap).bind λZ=> (f64 fu_).bind λaq=> (f39 fu_ aq).bind λac=> (f65 fu_).bind λav=> (f27 fu_ av).bind λK=> Option.bind (if O.2=0 then(some (decide (U.2=0))) else(some false)) λaw=> Option.bind (if aw=true then(some (decide (Y.2=0))) else(some false)) λay=> Option.bind (if ay=true then(some (decide (Z.2=0))) else(some false)) λaz=> Option.bind (if az=true then(some (decide (ac.2=0))) else(some false)) λa0=> Option.bind (if a0=true then(some (decide (K.2.2=0))) else(some false)) λa1=> Option.bind (if a1=true then(some (decide (Z.1=16))) else(some false)) λa2=> Option.bind (if a2=true then((f29 fu_ O.1 ([(-6),1,3,2]:List Int)).bind λa3=> some a3) else(some false)) λa4=> Option.bind (if a4=true then((f29 fu_ U.1 ([1,2,3]:List Int)).bind λa5=> some a5) else(some false)) λa6=> Option.bind (if a6=true then((f66 fu_).bind λa7=> (f26 fu_ Y.1 a7).bind λa8=> some a8) else(some false)) λa9=> Option.bind (if a9=true then((f29 fu_ ac.1 ([0]:List Int)).bind λbb=> some bb) else(some false)) λbe=> Option.bind (if be=true then((f67 fu_ ([0,2,6,2,3,3,3,1,1]:List Int)).bind λbi=> (f26 fu_ K.1 bi).bind λbn=> some bn) else(some false)) λbo=> Option.bind (if bo=true then((f29 fu_ K.2.1 ([0,1,2]:List Int)).bind λbv=> some bv) else(some false)) λbw=> some bw
theorem cT{E:LH}{fu_:Nat}{r:Bool}(b2:f18 fu_=some r):AP (G0 Tryz.prog) 18 [] E [] (λw E' B'=>w= .bool r/\B'= []):=by
 refine Bn func18 λQ hZ cs H em eo=>?_;unfold f18 at b2;obtain⟨h0,er,eu⟩:=bs b2;refine C 6 V (BP (Oo er) V V M0 em ?_);rintro _ h1 _ ew ⟨h2,h3,h4,h5,rfl,rfl,ex,ey⟩ ez;obtain⟨a6,eA,eB⟩:=bs eu;refine BP (dF ex ey eA) V V (A6 func43 V) ez ?_;rintro _ h6 _ eC ⟨a7,a8,rfl,rfl,eD⟩ eE;obtain⟨h7,eF,eG⟩:=bs eB;refine C 8 V (BP (Oo eF) V V M0 eE ?_);rintro _ h8 _ b3 ⟨h9,ia,ic,ie,rfl,rfl,eH,eI⟩ eJ;refine B2 (S':= [[],[],[],[]]) V eJ λeK=>?_;obtain⟨av,eL,eM⟩:=bs eG;refine BP (cX eH eI eL) V V (A6 func33 V) eK ?_;rintro _ ig _ b4 ⟨aw,ay,rfl,rfl,eN⟩ eO;obtain⟨ih,eP,eQ⟩:=bs eM;refine C 8 V (BP (Oo eP) V V M0 eO ?_);rintro _ ii _ bz ⟨ij,ik,il,io,rfl,rfl,eR,eS⟩ eT;obtain⟨ag,eU,eV⟩:=bs eQ;refine BP (U6 eR eS eU) V V (A6 func22 V) eT ?_;rintro _ iq _ b0 ⟨ap,aq,rfl,rfl,eW⟩ eX;refine B2 (S':= [[],[],[],[],[],[],[]]) V eX λeY=>?_;obtain⟨ir,eZ,e0⟩:=bs eV;refine C 8 V (BP (Oo eZ) V V M0 eY ?_);rintro _ iu _ bn ⟨iv,iw,iy,iz,rfl,rfl,e1,e3⟩ e4;obtain⟨az,e5,e6⟩:=bs e0;refine CH (US e1 e3 e5) V V (A6 func24 V) e4 λiA bo e7=>?_;obtain⟨iB,e8,e9⟩:=bs e6;refine C 8 V (BP (cY e8) V V (A6 func64 V) e7 ?_);rintro _ iC _ bv ⟨iD,iE,iF,iG,rfl,rfl,fa,fb⟩ fc;refine B2 (S':= [[],[],[],[],[],[],[],[],[],[]]) V fc λfe=>?_;obtain⟨O,ff,fg⟩:=bs e9;refine BP (dz fa fb ff) V V (A6 func39 V) fe ?_;rintro _ iH _ bw ⟨al,am,rfl,rfl,fh⟩ fj;obtain⟨iI,fk,fl⟩:=bs fg;refine C 8 V (BP (cP fk) V V (A6 func65 V) fj ?_);rintro _ iJ _ bb ⟨iK,iL,iM,iN,rfl,rfl,fm,fo⟩ fp;obtain⟨K,fq,fs⟩:=bs fl;refine BP (cW fm fo fq) V V (A6 func27 V) fp ?_;rintro _ iO _ be ⟨Z,ac,U,Y,rfl,rfl,fu,fv⟩ fw;refine B2 (S':= [[],[],[],[],[],[],[],[],[],[],[],[],[]]) V fw λb5=>?_;obtain⟨fx,fy,fz⟩:=bs fs;refine C 13 V (Fy 6 52 [] [(1,sV a7 a6.1 a8),(3,sV aw av.1 ay),(5,sV ap ag.1 aq),(6,iV ag.2),(7,iV az.1),(8,iV az.2),(9,sV al O.1 am),(10,iV O.2),(11,sV Z K.1 ac),(12,sV U K.2.1 Y),(13,iV K.2.2),(50,.bool fx)] (λiP a0 b6=>?_) (λca=>?_))
 ·obtain⟨fA,fB,fC⟩:=bs fz;refine C 1 V (Fy 10 48 [] [(1,sV a7 a6.1 a8),(3,sV aw av.1 ay),(5,sV ap ag.1 aq),(7,iV az.1),(8,iV az.2),(9,sV al O.1 am),(10,iV O.2),(11,sV Z K.1 ac),(12,sV U K.2.1 Y),(13,iV K.2.2),(54,.bool fA)] (λiQ a1 cc=>?_) (λce=>?_))
  ·obtain⟨fD,fE,fF⟩:=bs fC;refine C 1 V (Fy 14 44 [] [(1,sV a7 a6.1 a8),(3,sV aw av.1 ay),(5,sV ap ag.1 aq),(7,iV az.1),(9,sV al O.1 am),(10,iV O.2),(11,sV Z K.1 ac),(12,sV U K.2.1 Y),(13,iV K.2.2),(58,.bool fD)] (λiR a2 ci=>?_) (λco=>?_))
   ·obtain⟨fG,fH,fI⟩:=bs fF;refine C 1 V (Fy 18 40 [] [(1,sV a7 a6.1 a8),(3,sV aw av.1 ay),(5,sV ap ag.1 aq),(7,iV az.1),(9,sV al O.1 am),(11,sV Z K.1 ac),(12,sV U K.2.1 Y),(13,iV K.2.2),(62,.bool fG)] (λiS a3 cp=>?_) (λct=>?_))
    ·obtain⟨fJ,fK,fL⟩:=bs fI;refine C 1 V (Fy 22 36 [] [(1,sV a7 a6.1 a8),(3,sV aw av.1 ay),(5,sV ap ag.1 aq),(7,iV az.1),(9,sV al O.1 am),(11,sV Z K.1 ac),(12,sV U K.2.1 Y),(66,.bool fJ)] (λiT a4 cw=>?_) (λcy=>?_))
     ·obtain⟨fM,fN,fO⟩:=bs fL;refine C 1 V (Fy 26 32 [] [(1,sV a7 a6.1 a8),(3,sV aw av.1 ay),(5,sV ap ag.1 aq),(9,sV al O.1 am),(11,sV Z K.1 ac),(12,sV U K.2.1 Y),(70,.bool fM)] (λiU a5 c0=>?_) (λc1=>?_))
      ·obtain⟨fP,fQ,fR⟩:=bs fO;refine C 1 V (Fy 31 27 [] [(3,sV aw av.1 ay),(5,sV ap ag.1 aq),(9,sV al O.1 am),(11,sV Z K.1 ac),(12,sV U K.2.1 Y),(75,.bool fP)] (λiW a9 c2=>?_) (λc3=>?_))
       ·obtain⟨fS,fT,fU⟩:=bs fR;refine C 1 V (Fy 36 22 [] [(5,sV ap ag.1 aq),(9,sV al O.1 am),(11,sV Z K.1 ac),(12,sV U K.2.1 Y),(80,.bool fS)] (λiX bi c4=>?_) (λc5=>?_))
        ·obtain⟨fW,fX,fY⟩:=bs fU;refine C 1 V (Fy 41 17 [] [(9,sV al O.1 am),(11,sV Z K.1 ac),(12,sV U K.2.1 Y),(85,.bool fW)] (λiY bx c6=>?_) (λc7=>?_))
         ·obtain⟨fZ,ga,gb⟩:=bs fY;refine C 1 V (Fy 46 12 [] [(11,sV Z K.1 ac),(12,sV U K.2.1 Y),(90,.bool fZ)] (λiZ b1 c8=>?_) (λc9=>?_))
          ·obtain⟨gc,gd,ge⟩:=bs gb;refine C 1 V (Fy 52 6 [] [(12,sV U K.2.1 Y),(96,.bool gc)] (λi0 dd dn=>?_) (λea=>?_))
           ·obtain⟨gf,gg,gh⟩:=bs ge;refine C 1 V (Fy 57 1 [] [(101,.bool gf)] (λi1 gi gj=>?_) (λeb=>?_))
            ·refine C 2 V ?_;obtain rfl:=oi gh;exact AX func18 V V (eo (((((((((((((((((((((((ew.Ad eC).Ad b3).Ad b4).Ad bz).Ad b0).Ad bn).Ad bo).Ad bv).Ad bw).Ad bb).Ad be).Ad a0).Ad a1).Ad a2).Ad a3).Ad a4).Ad a5).Ad a9).Ad bi).Ad bx).Ad b1).Ad dd).Ad gi) V ⟨V,V⟩ gj)
            ·refine EB 97 gg (λgk gl=>?_) (λgk gm=>?_)
             ·refine C 1 V (EN (pp:=rI) [iV 0,iV 1,iV 2] [0,1,2] V V V underlying28 AA Cq (by decide) V V V ⟨V,V,V,trivial⟩ dn λi3 i4 gn gp=>?_);refine BW 0 gn gp V λi5 ec gq gr=>?_;obtain⟨i6,gt,gu⟩:=bs gl;refine CH (Ok (fv.Ah (((((((((((a0.Ad a1).Ad a2).Ad a3).Ad a4).Ad a5).Ad a9).Ad bi).Ad bx).Ad b1).Ad dd).Ad ec)) gq gt) V V MZ gr λi7 gv gw=>B2 (S':= [[],[]]) V gw λgx=>C 1 V ?_;obtain rfl:=oi gu;exact eb (ec.Ad gv) gx V
             ·refine C 4 V ?_;obtain rfl:=oi gm;exact eb Av dn V
           ·refine EB 91 gd (λgy gz=>?_) (λgy gA=>?_)
            ·refine C 1 V (EN (pp:=rI) [iV 0,iV 2,iV 6,iV 2,iV 3,iV 3,iV 3,iV 1,iV 1] [0,2,6,2,3,3,3,1,1] V V V underlying28 AA Cq (by decide) V V V ⟨V,V,V,V,V,V,V,V,V,trivial⟩ c8 λi8 i9 gB gC=>?_);refine BW 0 gB gC V λja ed gD gE=>?_;obtain⟨jb,gF,gG⟩:=bs gz;refine BP (Ot gD gF) V V K7 gE ?_;rintro _ jc gH ee ⟨jd,je,_,rfl,rfl,gI⟩ gJ;refine B2 (S':= [[],gH]) V gJ λgK=>BW 1 gI gK V λjf ef gL gM=>?_;obtain⟨jg,gO,gP⟩:=bs gG;refine CH (QG (fu.Ah ((((((((((((a0.Ad a1).Ad a2).Ad a3).Ad a4).Ad a5).Ad a9).Ad bi).Ad bx).Ad b1).Ad ed).Ad ee).Ad ef)) gL gO) V V O2 gM λjh gQ gR=>C 1 V ?_;obtain rfl:=oi gP;exact ea (((ed.Ad ee).Ad ef).Ad gQ) gR V
            ·refine C 5 V ?_;obtain rfl:=oi gA;exact ea Av c8 V
          ·refine EB 86 ga (λgS gT=>?_) (λgS gU=>?_)
           ·refine C 1 V (EN (pp:=rI) [iV 0] [0] V V V underlying28 AA Cq (by decide) V V V ⟨V,trivial⟩ c6 λji jj gV gW=>?_);refine BW 0 gV gW V λjk eg gX gY=>?_;obtain⟨jl,gZ,g0⟩:=bs gT;refine CH (Ok (fh.Ah (((((((((((bb.Ad be).Ad a0).Ad a1).Ad a2).Ad a3).Ad a4).Ad a5).Ad a9).Ad bi).Ad bx).Ad eg)) gX gZ) V V MZ gY λjm g1 g3=>B2 (S':= [[],[]]) V g3 λg4=>C 1 V ?_;obtain rfl:=oi g0;exact c9 (eg.Ad g1) g4 V
           ·refine C 4 V ?_;obtain rfl:=oi gU;exact c9 Av c6 V
         ·refine EB 81 fX (λg5 g6=>?_) (λg5 g7=>?_)
          ·obtain⟨jo,g8,g9⟩:=bs g6;refine C 1 V (BP (da g8) V V (A6 func66 V) c4 ?_);rintro _ jp _ ej ⟨jq,jr,rfl,rfl,ha⟩ hb;obtain⟨js,hd,he⟩:=bs g9;refine CH (QG (eW.Ah ((((((((((((((bn.Ad bo).Ad bv).Ad bw).Ad bb).Ad be).Ad a0).Ad a1).Ad a2).Ad a3).Ad a4).Ad a5).Ad a9).Ad bi).Ad ej)) ha hd) V V O2 hb λjt hf hg=>C 1 V ?_;obtain rfl:=oi he;exact c7 (ej.Ad hf) hg V
          ·refine C 4 V ?_;obtain rfl:=oi g7;exact c7 Av c4 V
        ·refine EB 76 fT (λhj hk=>?_) (λhj hl=>?_)
         ·refine C 1 V (EN (pp:=rI) [iV 1,iV 2,iV 3] [1,2,3] V V V underlying28 AA Cq (by decide) V V V ⟨V,V,V,trivial⟩ c2 λju jv hm hn=>?_);refine BW 0 hm hn V λjw ek ho hp=>?_;obtain⟨jx,hq,hr⟩:=bs hk;refine CH (Ok (eN.Ah (((((((((((((((bz.Ad b0).Ad bn).Ad bo).Ad bv).Ad bw).Ad bb).Ad be).Ad a0).Ad a1).Ad a2).Ad a3).Ad a4).Ad a5).Ad a9).Ad ek)) ho hq) V V MZ hp λjy hs ht=>B2 (S':= [[],[]]) V ht λhu=>C 1 V ?_;obtain rfl:=oi hr;exact c5 (ek.Ad hs) hu V
         ·refine C 4 V ?_;obtain rfl:=oi hl;exact c5 Av c2 V
       ·refine EB 71 fQ (λhv hw=>?_) (λhv hx=>?_)
        ·refine C 1 V (EN (pp:=rI) [iV (-6),iV 1,iV 3,iV 2] [(-6),1,3,2] V V V underlying28 AA Cq (by decide) V V V ⟨V,V,V,V,trivial⟩ c0 λjz jA hy hz=>?_);refine BW 0 hy hz V λjB el hA hB=>?_;obtain⟨jC,hC,hD⟩:=bs hw;refine CH (Ok (eD.Ah ((((((((((((((((b3.Ad b4).Ad bz).Ad b0).Ad bn).Ad bo).Ad bv).Ad bw).Ad bb).Ad be).Ad a0).Ad a1).Ad a2).Ad a3).Ad a4).Ad a5).Ad el)) hA hC) V V MZ hB λjD hE hF=>B2 (S':= [[],[]]) V hF λhG=>C 1 V ?_;obtain rfl:=oi hD;exact c3 (el.Ad hE) hG V
        ·refine C 4 V ?_;obtain rfl:=oi hx;exact c3 Av c0 V
      ·refine EB 67 fN (λhH hI=>?_) (λhH hJ=>?_)
       ·refine C 3 V ?_;obtain rfl:=oi hI;exact c1 Av cw V
       ·refine C 3 V ?_;obtain rfl:=oi hJ;exact c1 Av cw V
     ·refine EB 63 fK (λhK hL=>?_) (λhK hM=>?_)
      ·refine C 3 V ?_;obtain rfl:=oi hL;exact cy Av cp V
      ·refine C 3 V ?_;obtain rfl:=oi hM;exact cy Av cp V
    ·refine EB 59 fH (λhN hO=>?_) (λhN hP=>?_)
     ·refine C 3 V ?_;obtain rfl:=oi hO;exact ct Av ci V
     ·refine C 3 V ?_;obtain rfl:=oi hP;exact ct Av ci V
   ·refine EB 55 fE (λhQ hR=>?_) (λhQ hS=>?_)
    ·refine C 3 V ?_;obtain rfl:=oi hR;exact co Av cc V
    ·refine C 3 V ?_;obtain rfl:=oi hS;exact co Av cc V
  ·refine EB 51 fB (λhT hU=>?_) (λhT hV=>?_)
   ·refine C 3 V ?_;obtain rfl:=oi hU;exact ce Av b6 V
   ·refine C 3 V ?_;obtain rfl:=oi hV;exact ce Av b6 V
 ·refine FJ 47 fy (λhW hX=>?_) (λhW hY=>?_)
  ·refine C 3 V ?_;obtain rfl:=oi hX;exact ca Av b5 V
  ·refine C 3 V ?_;obtain rfl:=oi hY;exact ca Av b5 V
def f20(fu_:Nat)(p0:List Int):Option ((Fa)):= some (p0,0,2685821657736338717)
theorem cV{a1:Ao}{c2:Nat}{p0:List Int}(Z:An rI E a1 c2 p0){fu_:Nat}{r:(Fa)}(K:f20 fu_ p0=some r):AP J 20 [sV a1 p0 c2] E [] (λw E' B'=>∃(O:Nat) (U:Ao) (Y:Nat),w= Ak O 0/\B'= [(O,.cells #[sV U r.1 Y,iV r.2.1,.int .u64 ((r.2.2:Nat):Int)] 74 (0,0))]/\An rI E' U Y r.1):=by
 refine Bn func20 λQ ap cs H ac ag=>?_;unfold f20 at K;refine C 7 V (Am (v:= .agg #[sV a1 p0 c2,iV 0,.int .u64 ((2685821657736338717:Nat):Int)]) V (λρ h=>Dh [(0,1),(1,1),(2,1)] h (Dv type74) underlying74 ⟨V,AV type28,V,AV type3,V,AV type72,trivial⟩ V V) ?_);refine JS.box (v:= .agg #[sV a1 p0 c2,iV 0,.int .u64 ((2685821657736338717:Nat):Int)]) V V V ac V λal am=>C 2 V ?_;obtain rfl:=oi K;exact AX func20 V V (ag Av V ⟨al,a1,c2,V,(by first | rfl | simp | (simp [Value.cells])),Z⟩ am)
def f92(fu_:Nat)(p0:Int)(K:Int)(p2:Int):Option Bool:= Option.bind (if K<=p0 then(some (decide (p0<=p2))) else(some false)) λO=> some O
def f88(fu_:Nat)(p0:Int)(K:Int×Int×Int)(p2:Int):Option Int:= (Ar (p0 - 1)).bind λO=> (f92 fu_ K.1 0 O).bind λU=> Option.bind (if(!U)=true then(some true) else((Ar (p0 - 1)).bind λY=> (f92 fu_ K.2.1 0 Y).bind λZ=> some (!Z))) λac=> if ac=true then(some 3) else(if K.1=K.2.1 then(some 8) else((f92 fu_ K.2.2 1 p2).bind λag=> if(!ag)=true then(some 1) else(some 0)))
def Mq(fu_:Nat)(p0:A8)(O:Int)(K:Int):Option (Bd Int ((Int)⊕(Unit))):= (ix p0.1 O).bind λU=> if K<(U.length:Int) then((ix p0.1 O).bind λY=> (ix Y K).bind λZ=> (f92 fu_ Z 1 9).bind λac=> if(!ac)=true then(some (.done (Sum.inl 1))) else((Ar (K+1)).bind λag=> some (.more ag))) else(some (.done (Sum.inr ())))
def Mx(fu_:Nat)(p0:A8)(K:Int):Option (Bd Int ((Int)⊕(Unit))):= if K<(p0.1.length:Int) then((ix p0.1 K).bind λO=> if 3<(O.length:Int) then(some (.done (Sum.inl 6))) else(Option.bind (iter (Mq fu_ p0 K) fu_ 0) λU=> Sum.elim (λr=>some (.done (Sum.inl r))) (λZ=> (Ar (K+1)).bind λY=> some (.more Y)) U)) else(some (.done (Sum.inr ())))
def Qw(fu_:Nat)(p0:A8)(K:Int):Option (Bd Int ((Int)⊕(Unit))):= if K<(p0.2.length:Int) then((ix p0.2 K).bind λU=> (f88 fu_ (p0.1.length:Int) U 9).bind λO=> if O≠0 then(some (.done (Sum.inl O))) else((Ar (K+1)).bind λY=> some (.more Y))) else(some (.done (Sum.inr ())))
def f48(fu_:Nat)(p0:A8):Option Int:= if(p0.1.length:Int)<2 then(some 7) else(if 5<(p0.1.length:Int) then(some 6) else(Option.bind (iter (Mx fu_ p0) fu_ 0) λK=> Sum.elim (λr=>some r) (λU=> if 8<(p0.2.length:Int) then(some 6) else(Option.bind (iter (Qw fu_ p0) fu_ 0) λO=> Sum.elim (λr=>some r) (λY=> some 0) O)) K))
def f83(fu_:Nat)(p0:Fa):Option (Nat×(Fa)):= (Ar (p0.2.1+1)).bind λO=> Option.bind (if O<=(p0.1.length:Int) then((Ar (O - 1)).bind λU=> (ix p0.1 U).bind λY=> some (((((C6 O)*11400714819323198485) % 2 ^ 64) ^^^ (((C6 Y)*14029467366897019727) % 2 ^ 64)) % 2 ^ 64)) else(some (((C6 O)*11400714819323198485) % 2 ^ 64))) λK=> some (((((((((((p0.2.2 ^^^ K) % 2 ^ 64)*18397679294719823053) % 2 ^ 64) ^^^ (((((p0.2.2 ^^^ K) % 2 ^ 64)*18397679294719823053) % 2 ^ 64)>>>33)) % 2 ^ 64)*14181476777654086739) % 2 ^ 64) ^^^ (((((((((p0.2.2 ^^^ K) % 2 ^ 64)*18397679294719823053) % 2 ^ 64) ^^^ (((((p0.2.2 ^^^ K) % 2 ^ 64)*18397679294719823053) % 2 ^ 64)>>>33)) % 2 ^ 64)*14181476777654086739) % 2 ^ 64)>>>29)) % 2 ^ 64)>>>11,(p0.1,O,(((((p0.2.2 ^^^ K) % 2 ^ 64)*18397679294719823053) % 2 ^ 64) ^^^ (((((p0.2.2 ^^^ K) % 2 ^ 64)*18397679294719823053) % 2 ^ 64)>>>33)) % 2 ^ 64))
theorem cM{bk:Nat}{a1:Ao}{c2:Nat}{p0:Fa}(al:An rI E a1 c2 p0.1){fu_:Nat}{r:Nat×(Fa)}(am:f83 fu_ p0=some r):AP J 83 [Ak bk 0] E [(bk,.cells #[sV a1 p0.1 c2,iV p0.2.1,.int .u64 ((p0.2.2:Nat):Int)] 74 (0,0))] (λw E' B'=>∃(ap:Ao) (aq:Nat),w= .int .u64 ((r.1:Nat):Int)/\B'= [(bk,.cells #[sV ap r.2.1 aq,iV r.2.2.1,.int .u64 ((r.2.2.2:Nat):Int)] 74 (0,0))]/\An rI E' ap aq r.2.1):=by
 refine Bn func83 λQ bv cs H av a2=>?_;unfold f83 at am;refine C 8 V (JL.fd underlying74 AA V V V ?_);refine Am (v:=iV p0.2.1) V (λρ h=>Yl.load AY (h _ _ V) (BL (j:=0) (off:=1) av V V)) ?_;obtain⟨Y,a3,a4⟩:=bs am;refine Bl a3 V V V (C 1 V ?_);refine JL.fd underlying74 AA V V V (BQ 0 av AA λU=>?_);refine C 5 V (JL.fd underlying74 AA V V V ?_);refine Am (v:=iV Y) V (λρ h=>Yl.load AY (h _ _ V) (BL (j:=0) (off:=1) U V V)) (Am (v:= .int .u64 ((C6 Y:Nat):Int)) V (λρ h=>Yl.C6 underlying3 underlying72 (h _ _ V)) ?_);refine Am (v:= .int .u64 ((((C6 Y)*11400714819323198485) % 2 ^ 64:Nat):Int)) V (λρ h=>NT (h _ _ V) (h _ _ V)) (C 4 V ?_);refine Fz 9 [bk] ⟨⟨0,_,V⟩,trivial⟩ U λK=>AR K V [0,1] V (JG.fd 2 K underlying74 AA V V V V ?_);refine KL 3 K 1 0 U AY ?_;refine AR K V [4,5] V (JG.fd 6 K underlying74 GW V V V V ?_);refine KL 7 K 0 0 U Kr ?_;refine AJ 8 K V V (λρ h s' Z=>Yl.len V underlying28 (h _ _ V)) (C4 [9] ?_);obtain⟨O,a5,a6⟩:=bs a4;refine C 2 V (CN [bX bk #[sV a1 p0.1 c2,iV Y,.int .u64 ((p0.2.2:Nat):Int)] 74] [(0,Ak bk 0),(3,.int .u64 ((O:Nat):Int))] (λbw aw ay=>?_) (λaz=>?_))
 ·refine C 5 V (JL.fd underlying74 JK V V V ?_);refine Am (v:= .int .u64 ((p0.2.2:Nat):Int)) V (λρ h=>Yl.load MV (h _ _ V) (BL (j:=0) (off:=2) ay V V)) (C 1 V ?_);refine Am (v:= .int .u64 (((p0.2.2 ^^^ O) % 2 ^ 64:Nat):Int)) V (λρ h=>NU (h _ _ V) (h _ _ V)) (Am (v:= .int .u64 (((((p0.2.2 ^^^ O) % 2 ^ 64)*18397679294719823053) % 2 ^ 64:Nat):Int)) V (λρ h=>NT (h _ _ V) (h _ _ V)) ?_);refine C 1 V (JL.fd underlying74 JK V V V ?_);refine BQ 0 ay JK λac=>?_;refine C 2 V (Fz 11 [bk] ⟨⟨0,_,V⟩,trivial⟩ ac λK=>?_);refine AR K V [0,1,2] V (JG.fd 3 K underlying74 JK V V V V ?_);refine KL 4 K 2 0 ac MV ?_;refine AR K V [5,6] V (JG.fd 7 K underlying74 JK V V V V ?_);refine KL 8 K 2 0 ac MV ?_;refine AJ (v:= .int .u64 ((((((p0.2.2 ^^^ O) % 2 ^ 64)*18397679294719823053) % 2 ^ 64)>>>33:Nat):Int)) 9 K V V (λρ h s' Z=>Lq 33 (h _ _ V) (h _ _ V) (by decide)) (AJ (v:= .int .u64 (((((((p0.2.2 ^^^ O) % 2 ^ 64)*18397679294719823053) % 2 ^ 64) ^^^ (((((p0.2.2 ^^^ O) % 2 ^ 64)*18397679294719823053) % 2 ^ 64)>>>33)) % 2 ^ 64:Nat):Int)) 10 K V V (λρ h s' Z=>NU (h _ _ V) (h _ _ V)) ?_);refine C4 [11,12,13] (C 1 V ?_);refine JL.fd underlying74 JK V V V (BQ 0 ac JK λa0=>?_);refine C 5 V (JL.fd underlying74 JK V V V ?_);refine Am (v:= .int .u64 (((((((p0.2.2 ^^^ O) % 2 ^ 64)*18397679294719823053) % 2 ^ 64) ^^^ (((((p0.2.2 ^^^ O) % 2 ^ 64)*18397679294719823053) % 2 ^ 64)>>>33)) % 2 ^ 64:Nat):Int)) V (λρ h=>Yl.load MV (h _ _ V) (BL (j:=0) (off:=2) a0 V V)) (Am (v:= .int .u64 (((((((((p0.2.2 ^^^ O) % 2 ^ 64)*18397679294719823053) % 2 ^ 64) ^^^ (((((p0.2.2 ^^^ O) % 2 ^ 64)*18397679294719823053) % 2 ^ 64)>>>33)) % 2 ^ 64)*14181476777654086739) % 2 ^ 64:Nat):Int)) V (λρ h=>NT (h _ _ V) (h _ _ V)) ?_);refine C 6 V (Am (v:= .int .u64 ((((((((((p0.2.2 ^^^ O) % 2 ^ 64)*18397679294719823053) % 2 ^ 64) ^^^ (((((p0.2.2 ^^^ O) % 2 ^ 64)*18397679294719823053) % 2 ^ 64)>>>33)) % 2 ^ 64)*14181476777654086739) % 2 ^ 64)>>>29:Nat):Int)) V (λρ h=>Lq 29 (h _ _ V) (h _ _ V) (by decide)) ?_);refine Am (v:= .int .u64 (((((((((((p0.2.2 ^^^ O) % 2 ^ 64)*18397679294719823053) % 2 ^ 64) ^^^ (((((p0.2.2 ^^^ O) % 2 ^ 64)*18397679294719823053) % 2 ^ 64)>>>33)) % 2 ^ 64)*14181476777654086739) % 2 ^ 64) ^^^ (((((((((p0.2.2 ^^^ O) % 2 ^ 64)*18397679294719823053) % 2 ^ 64) ^^^ (((((p0.2.2 ^^^ O) % 2 ^ 64)*18397679294719823053) % 2 ^ 64)>>>33)) % 2 ^ 64)*14181476777654086739) % 2 ^ 64)>>>29)) % 2 ^ 64:Nat):Int)) V (λρ h=>NU (h _ _ V) (h _ _ V)) (Am (v:= .int .u64 ((((((((((((p0.2.2 ^^^ O) % 2 ^ 64)*18397679294719823053) % 2 ^ 64) ^^^ (((((p0.2.2 ^^^ O) % 2 ^ 64)*18397679294719823053) % 2 ^ 64)>>>33)) % 2 ^ 64)*14181476777654086739) % 2 ^ 64) ^^^ (((((((((p0.2.2 ^^^ O) % 2 ^ 64)*18397679294719823053) % 2 ^ 64) ^^^ (((((p0.2.2 ^^^ O) % 2 ^ 64)*18397679294719823053) % 2 ^ 64)>>>33)) % 2 ^ 64)*14181476777654086739) % 2 ^ 64)>>>29)) % 2 ^ 64)>>>11:Nat):Int)) V (λρ h=>Lq 11 (h _ _ V) (h _ _ V) (by decide)) ?_);refine C 2 V ?_;obtain rfl:=oi a6;exact AX func83 V V (a2 aw V ⟨a1,c2,V,V,(al.Ah aw)⟩ a0)
 ·refine AL a5 (λa7 a8=>?_) (λa7 a9=>?_)
  ·refine Fz 14 [bk] ⟨⟨0,_,V⟩,trivial⟩ U λK=>AR K V [0,1,2] V (JG.fd 3 K underlying74 GW V V V V ?_);refine KL 4 K 0 0 U Kr ?_;refine AR K V [5,6] V (JG.fd 7 K underlying74 AA V V V V ?_);refine KL 8 K 1 0 U AY ?_;obtain⟨bx,bb,be⟩:=bs a8;refine AJ 9 K V V (λρ h s' Z=>C3 (h _ _ V) (h _ _ V) bb) ?_;obtain⟨ag,bi,bn⟩:=bs be;refine Di 10 al bi K underlying28 AA ?_;rintro bz b0 _ rfl bo;refine JG.lp 11 K 0 bo U ⟨⟨0,_,V⟩,trivial⟩ AY ?_;refine AJ (v:= .int .u64 ((C6 ag:Nat):Int)) 12 K V V (λρ h s' Z=>Yl.C6 underlying3 underlying72 (h _ _ V)) (AJ (v:= .int .u64 ((((C6 ag)*14029467366897019727) % 2 ^ 64:Nat):Int)) 13 K V V (λρ h s' Z=>NT (h _ _ V) (h _ _ V)) ?_);refine C4 [14,15] (Am (v:= .int .u64 ((((((C6 Y)*11400714819323198485) % 2 ^ 64) ^^^ (((C6 ag)*14029467366897019727) % 2 ^ 64)) % 2 ^ 64:Nat):Int)) V (λρ h=>NU (h _ _ V) (h _ _ V)) ?_);refine C 2 V ?_;obtain rfl:=oi bn;exact az Av U V
  ·refine JL.skip ?_;obtain rfl:=oi a9;exact az Av U V
def f36(fu_:Nat)(p0:Fa)(O:Int):Option (Int×(Fa)):= (f83 fu_ p0).bind λK=> if O<1 then(some (0,K.2)) else((OA K.1 ((C6 O+1) % 2 ^ 64)).bind λU=> some (MK U,K.2))
theorem Ou{bk:Nat}{a1:Ao}{c2:Nat}{p0:Fa}{K:Int}(av:An rI E a1 c2 p0.1){fu_:Nat}{r:Int×(Fa)}(O:f36 fu_ p0 K=some r):AP J 36 [Ak bk 0,iV K] E [(bk,.cells #[sV a1 p0.1 c2,iV p0.2.1,.int .u64 ((p0.2.2:Nat):Int)] 74 (0,0))] (λw E' B'=>∃(U:Ao) (Y:Nat),w=iV r.1/\B'= [(bk,.cells #[sV U r.2.1 Y,iV r.2.2.1,.int .u64 ((r.2.2.2:Nat):Int)] 74 (0,0))]/\An rI E' U Y r.2.1):=by
 refine Bn func36 λQ a6 cs H aw Z=>?_;unfold f36 at O;obtain⟨a7,ay,az⟩:=bs O;refine C 7 V (Db 0 (cM av ay) V V (A6 func83 V) aw V ?_);rintro _ a8 _ ac ⟨ag,al,rfl,rfl,am⟩ ap;refine C 8 V (AL az (λa0 a2=>?_) (λa0 a3=>?_))
 ·refine C 4 V ?_;obtain rfl:=oi a2;exact AX func36 V V (Z ac V ⟨ag,al,V,V,am⟩ ap)
 ·refine C 5 V (Am (v:= .int .u64 ((C6 K:Nat):Int)) V (λρ h=>Yl.C6 underlying3 underlying72 (h _ _ V)) ?_);refine Am (v:= .int .u64 (((C6 K+1) % 2 ^ 64:Nat):Int)) V (λρ h=>YP (h _ _ V) (h _ _ V)) ?_;obtain⟨aq,a4,a5⟩:=bs a3;refine Am (v:= .int .u64 ((aq:Nat):Int)) V (λρ h=>Ye (h _ _ V) (h _ _ V) a4) (Am (v:=iV (MK aq)) V (λρ h=>aI underlying72 underlying3 (h _ _ V)) ?_);refine C 2 V ?_;obtain rfl:=oi a5;exact AX func36 V V (Z ac V ⟨ag,al,V,V,am⟩ ap)
def f37(fu_:Nat)(p0:Fa)(K:Int)(p2:Int):Option (Int×(Fa)):= (Ar (p2 - K)).bind λU=> (f36 fu_ p0 U).bind λO=> (Ar (K+O.1)).bind λY=> some (Y,O.2)
theorem UP{bk:Nat}{a1:Ao}{c2:Nat}{p0:Fa}{K:Int}{p2:Int}(Z:An rI E a1 c2 p0.1){fu_:Nat}{r:Int×(Fa)}(O:f37 fu_ p0 K p2=some r):AP J 37 [Ak bk 0,iV K,iV p2] E [(bk,.cells #[sV a1 p0.1 c2,iV p0.2.1,.int .u64 ((p0.2.2:Nat):Int)] 74 (0,0))] (λw E' B'=>∃(U:Ao) (Y:Nat),w=iV r.1/\B'= [(bk,.cells #[sV U r.2.1 Y,iV r.2.2.1,.int .u64 ((r.2.2.2:Nat):Int)] 74 (0,0))]/\An rI E' U Y r.2.1):=by
 refine Bn func37 λQ a4 cs H ac ag=>?_;unfold f37 at O;obtain⟨a5,al,am⟩:=bs O;refine C 10 V (Cu al V V V ?_);obtain⟨a6,ap,aq⟩:=bs am;refine Db 0 (Ou Z ap) V V MY ac V ?_;rintro _ a7 _ av ⟨aw,ay,rfl,rfl,az⟩ a0;obtain⟨a8,a2,a3⟩:=bs aq;refine Bl a2 V V V (C 2 V ?_);obtain rfl:=oi a3;exact AX func37 V V (ag av V ⟨aw,ay,V,V,az⟩ a0)
def f81(fu_:Nat)(p0:Fa)(K:List Int):Option (Int×(Fa)):= (Ar ((K.length:Int) - 1)).bind λU=> (f36 fu_ p0 U).bind λO=> (ix K O.1).bind λY=> some (Y,O.2)
theorem cr{bk:Nat}{a1:Ao}{c2:Nat}{O:Ao}{U:Nat}{p0:Fa}{K:List Int}(al:An rI E a1 c2 p0.1)(am:An rI E O U K){fu_:Nat}{r:Int×(Fa)}(Y:f81 fu_ p0 K=some r):AP J 81 [Ak bk 0,sV O K U] E [(bk,.cells #[sV a1 p0.1 c2,iV p0.2.1,.int .u64 ((p0.2.2:Nat):Int)] 74 (0,0))] (λw E' B'=>∃(Z:Ao) (ac:Nat),w=iV r.1/\B'= [(bk,.cells #[sV Z r.2.1 ac,iV r.2.2.1,.int .u64 ((r.2.2.2:Nat):Int)] 74 (0,0))]/\An rI E' Z ac r.2.1):=by
 refine Bn func81 λQ a8 cs H ap aq=>?_;unfold f81 at Y;refine C 9 V (JL.ln underlying28 V V V ?_);obtain⟨a9,av,aw⟩:=bs Y;refine Cu av V V V ?_;obtain⟨bb,ay,az⟩:=bs aw;refine Db 0 (Ou al ay) V V MY ap V ?_;rintro _ be _ ag ⟨a0,a2,rfl,rfl,a3⟩ a4;obtain⟨bi,a5,a6⟩:=bs az;refine JS.ix (am.Ah ag) a5 underlying28 AA ?_;rintro bn bo _ rfl a7;refine CQ 0 a7 AY V V V (C 2 V ?_);obtain rfl:=oi a6;exact AX func81 V V (aq ag V ⟨a0,a2,V,V,a3⟩ a4)
def f40(fu_:Nat)(p0:Fa)(K:Int):Option (Dq×(Fa)):= (Ar (K - 1)).bind λac=> (f36 fu_ p0 ac).bind λO=> (f37 fu_ O.2 1 9).bind λU=> (f81 fu_ U.2 ([1,2,2,3,U.1]:List Int)).bind λY=> (Ar (K - 1)).bind λag=> (f37 fu_ Y.2 1 ag).bind λZ=> (Ar (O.1+Z.1)).bind λal=> (OE al K).bind λam=> some ((O.1,am,Y.1),Z.2)
theorem UO{bk:Nat}{a1:Ao}{c2:Nat}{p0:Fa}{ac:Int}(az:An rI E a1 c2 p0.1){fu_:Nat}{r:Dq×(Fa)}(ag:f40 fu_ p0 ac=some r):AP J 40 [Ak bk 0,iV ac] E [(bk,.cells #[sV a1 p0.1 c2,iV p0.2.1,.int .u64 ((p0.2.2:Nat):Int)] 74 (0,0))] (λw E' B'=>∃(al:Ao) (am:Nat),w= .agg #[iV r.1.1,iV r.1.2.1,iV r.1.2.2]/\B'= [(bk,.cells #[sV al r.2.1 am,iV r.2.2.1,.int .u64 ((r.2.2.2:Nat):Int)] 74 (0,0))]/\An rI E' al am r.2.1):=by
 refine Bn func40 λQ dd cs H a0 a2=>?_;unfold f40 at ag;refine C 2 V (B3 a0 BF λdn a3=>?_);obtain⟨ea,a4,a5⟩:=bs ag;refine C 5 V (Cu a4 V V V ?_);obtain⟨O,a6,a7⟩:=bs a5;refine Db 0 (Ou az a6) V V MY a3 V ?_;rintro _ eb _ a8 ⟨ec,ed,rfl,rfl,a9⟩ bb;obtain⟨ap,be,bi⟩:=bs a7;refine C 2 V (Db 0 (UP a9 be) V V (A6 func37 V) bb V ?_);rintro _ ee _ bn ⟨ef,eg,rfl,rfl,bo⟩ bv;refine EN (pp:=rI) [iV 1,iV 2,iV 2,iV 3,iV ap.1] [1,2,2,3,ap.1] V V V underlying28 AA Cq (by decide) V V V ⟨V,V,V,V,V,trivial⟩ bv λej ek bw bx=>BW 2 bw bx V λel aq bz b0=>?_;obtain⟨U,b1,b2⟩:=bs bi;refine Db 0 (cr (bo.Ah aq) bz b1) V V (A6 func81 V) b0 V ?_;rintro _ em _ b3 ⟨eo,er,rfl,rfl,b4⟩ b5;refine Am (v:= .agg #[iV O.1,iV 0,iV U.1]) V (λρ h=>Dh [(0,1),(1,1),(2,1)] h BF underlying27 ⟨V,AV type3,V,AV type3,V,AV type3,trivial⟩ V V) (B3 b5 BF λav b6=>?_);refine BQ 3 b6 A0 λZ=>?_;refine C 2 V (Fz 8 [av] ⟨⟨3,_,V⟩,trivial⟩ Z λK=>?_);refine JG.fd 0 K underlying27 AA V V V V (KL 1 K 0 3 Z AY ?_);refine AR K V [2,3] V ?_;obtain⟨ca,cc,ce⟩:=bs b2;refine AJ 4 K V V (λρ h s' ci=>C3 (h _ _ V) (h _ _ V) cc) (Dz 7 K V V ?_);obtain⟨eu,co,cp⟩:=bs ce;refine Sa (i:=5) (vs:= [Ak bk 0,iV 1,iV ca]) 0 (by exact λx ct=>HS.mem (bks:= [av]) (by exact⟨⟨3,_,rfl⟩,trivial⟩) x (by simpa [AD] using ct)) (UP b4 co) (by decide+kernel) V V V (A6 func37 V) V Z V ?_;rintro _ ew _ cw ⟨cy,c0,rfl,rfl,c1⟩ c3;obtain⟨ex,c4,c5⟩:=bs cp;refine AJ 6 K V V (λρ h s' ci=>FF (h _ _ V) (h _ _ V) c4) (C4 [8,9,10] ?_);obtain⟨Y,c6,c7⟩:=bs c5;refine Am (v:=iV Y) V (λρ h=>Za (h _ _ V) (h _ _ V) c6) (JL.fd underlying27 AA V V V ?_);refine BQ 3 c3 AA λaw=>?_;refine C 3 V (Am V (λρ h=>JV (vs:= [iV O.1,iV Y,iV U.1]) DU A0 (h _ _ V) (Ih (off:=0) 3 aw V V)) ?_);refine BQ 1 aw A0 λc8=>?_;refine JL.done (JS.drop 3 c8 V λay=>?_);obtain rfl:=oi c7;refine JL.ret (v:= .agg #[iV O.1,iV Y,iV U.1]) V V (Bz.list func40 V (vs:= [.agg #[iV O.1,iV Y,iV U.1]]) ⟨⟨_,V,Ld.many (vs:= [iV O.1,iV Y,iV U.1]) DU A0 (Ih (off:=0) 1 ay V V)⟩,trivial⟩) (EM 1 ay V λc9=>?_);exact a2 ((((a8.Ad bn).Ad aq).Ad b3).Ad cw) V ⟨cy,c0,V,V,c1⟩ c9
end Pal
namespace Pal
open Go Go.Conc
variable {P:Program}{J:Judge P}{Q:Gs_}{b:Frame}{n:Nat}{ds:Ld_}{ops:Ao_}{cs:Lf_}{fuel:Nat}{D:Nat->Bool}{listed:Array Bool}{L:Env}{E E' H:LH}{S:List Seg}
variable {d:Option Tmp}{t u ty e:TypeId}{p:String}{af:Ae_}{g:On_}{v:Value}{kd:IntKind}
section
variable {k:Li_}{m:Nat}{s:St}
variable {x y:Operand}{i:Nat}
theorem Take.T8{f:FuncId}{args:Array Operand}{ats:Array TypeId}{vs:Lv_}{seg:Seg}{R:Value->LH->Seg->Prop}(j:Nat)(O:Aq E H S)(ap:AP J f vs E seg R)
  (aq:ops[i]? =some ⟨d,.call ⟨.value (.func f),args,ats⟩,ty,p,af,g⟩) (hw:AN L ops ⟨d,.call ⟨.value (.func f),args,ats⟩,ty,p,af,g⟩=some true) (av:Bh n d=true) (hb:DX P f=true) (aw:evs L args.toList=some vs) (U:S[j]? =some seg)
  (ay:∀v E' seg',Le E E'->R v E' seg'->Aq E' H (S.set j seg')->AQ J Q b n ds ops k cs m Dp fuel (A5 listed i) (Ax L d v) (Aj E' H (S.set j seg'))):
  Take J Q b n ds ops k cs m Dp fuel listed L (Aj E H S) i:=by
 have Y:S.flatten.Perm (seg++(S.set j []).flatten):=(Es (seg':=seg) U).1.trans List.perm_append_comm;have Z:Nd E H (seg++(S.set j []).flatten):=Nd.perm O Y;have az:Aj E H S=mk E (Bm (S.set j []).flatten H) seg:=by
  rw [show Aj E H S=mk E H S.flatten from rfl,Fv O Y];unfold mk;rw [Ga]
 have ac:=EU.LJ (ap (Bm (S.set j []).flatten H) (Nd.front Z)) (by rintro v s' ⟨E',B',_,_,_,rfl⟩;rfl);rw [← az] at ac;refine⟨_,aq,by simp [Em],av,hw,λρ ag=>?_⟩;have a0:args.map ρ=vs.toArray:=by
  rw [← GD ag aw];apply Array.ext';simp
 have a1:ρ (.func f)= .func (.func f) #[] #[]:=ag _ _ V;simp only [execOp,resolve,bind,Sem.bind,Deferred.ofValue,a1,pure,invoke];have e: #[]++args.map ρ++ #[]=vs.toArray:=by rw [a0];simp
 rw [e];refine Ja hb ?_;rw [Lb];refine⟨_,ac,?_⟩;rintro v be ⟨⟨E',B',hle,a2,a3,rfl⟩,w,a4⟩;have e2:mk E' (Bm (S.set j []).flatten H) B'=mk E' H (B'++(S.set j []).flatten):=by unfold mk;rw [Ga]
 have a5:Nd E H (S.set j []).flatten:=by
  have:=Z;rw [Nd.iff] at this ⊢;rw [List.map_append,List.nodup_append] at this;exact⟨this.1.2.1,λq a6=>this.2 q (List.mem_append_right _ a6)⟩
 have a7:Nd E' H (S.set j []).flatten:=a5.grow λx K=>by
  have a8:=a4.d x K;have a9:Bm B' (Bm (S.set j []).flatten H) x=none:=a8;exact(Ie a9).1
 have al:Nd E' H (B'++(S.set j []).flatten):=Nd.glue a3 a7;have am:(B'++(S.set j []).flatten).Perm (S.set j B').flatten:=List.perm_append_comm.trans (Es U).2.symm;have bb:Aq E' H (S.set j B'):=Nd.perm al am;rw [e2,Fv al am];exact⟨V,λx o K=>hle _ _ K,ay v E' B' hle a2 bb⟩
end
open Go.Proofs Go.Proofs.Tryz
variable {J:Judge Tryz.prog}
variable {J:Judge Tryz.prog}
variable {J:Judge Tryz.prog}
variable {J:Judge Tryz.prog}
def N5(fu_:Nat)(p0:A8)(K:(List Int)×Int):Option (Bd ((List Int)×Int) ((List Int))):= if K.2<(p0.2.length:Int) then((ix p0.2 K.2).bind λO=> (ix K.1 O.1).bind λal=> (ix K.1 O.1).bind λU=> (Ar (U - O.2.2)).bind λY=> (ix K.1 O.2.1).bind λZ=> (Ar (Z+O.2.2)).bind λac=> (Ar (K.2+1)).bind λag=> some (.more (((K.1.set (Int.toNat O.1) Y).set (Int.toNat O.2.1) ac),ag))) else(some (.done K.1))
def f89(fu_:Nat)(p0:A8):Option ((List Int)):= (Jx (p0.1.length:Int) (0:Int)).bind λK=> Option.bind (iter (N5 fu_ p0) fu_ (K,0)) λO=> some O
def Qt(fu_:Nat)(p0:A8)(K:(List Int)×Int):Option (Bd ((List Int)×Int) ((List Int))):= if K.2<(p0.2.length:Int) then((ix p0.2 K.2).bind λO=> (ix K.1 O.1).bind λal=> (ix K.1 O.1).bind λU=> (Ar (U - O.2.2)).bind λY=> (ix K.1 O.2.1).bind λZ=> (Ar (Z+O.2.2)).bind λac=> (Ar (K.2+1)).bind λag=> some (.more (((K.1.set (Int.toNat O.1) Y).set (Int.toNat O.2.1) ac),ag))) else(some (.done K.1))
def f55(fu_:Nat)(p0:A8):Option ((List Int)):= (Jx (p0.1.length:Int) (0:Int)).bind λK=> Option.bind (iter (Qt fu_ p0) fu_ (K,0)) λO=> some O
theorem U0{a1:Ao}{c2:Nat}{be:Ao}{bi:Nat}{p0:A8}(eL:An (rL rI) E a1 c2 p0.1)(b5:An Az E be bi p0.2){fu_:Nat}{r:(List Int)}(bn:f55 fu_ p0=some r):AP J 55 [.agg #[sV a1 p0.1 c2,sV be p0.2 bi]] E [] (λw E' B'=>∃(bo:Ao) (bv:Nat),w= sV bo r bv/\B'= []/\An rI E' bo bv r):=by
 refine Bn func55 λQ eM cs H b6 ca=>?_;unfold f55 at bn;refine C 2 V (DF b6 λbw a4 bx a5 cc=>?_);refine C 4 V (B5 0 a5 underlying25 GX GC ?_);refine JL.ln underlying22 V V V ?_;obtain⟨ce,ci,co⟩:=bs bn;refine JS.make (pp:=rI) ci V V V V V underlying28 AA (DW type3) (by decide) Cq (by decide) V cc λcp ct cw cy=>?_;obtain⟨bz,c0,c1⟩:=bs co;refine C 7 V (Br (λL s=>∃(a6:LH) (aq:Ao) (av:Nat) (a7:Seg),Jn a4 H a6 [a7] [(3,sV aq bz av)] L s (OL 3 rI a6 aq av a7 bz)) ?_ ?_)
 ·rintro _ _ ⟨a6,aq,av,a7,rfl,rfl,c3,c4,c5⟩;refine C 5 V (BW 0 c5 c4 V λeN c6 c7 c8=>?_);obtain rfl:=oi c1;exact AX func55 V V (ca ((bx.Ad c3).Ad c6) V ⟨aq,av,V,V,c7⟩ c8)
 ·intro c9;refine JL.block (CG c0 (λL s Y=>∃(aw:LH) (ay:Ao) (ac:Nat) (az:Seg),Jn a4 H aw [az] [(1,Ak bw 0),(3,sV ay Y.1 ac),(4,iV Y.2)] L s (OL 3 rI aw ay ac az Y.1)) ⟨a4,(AM cp),ce.length,ct,V,V,Av,cy,cw⟩ ?_);rintro _ _ Y ⟨aw,ay,ac,az,rfl,rfl,ap,b0,b1⟩ dd ⟨eO,a8⟩ dn;have b2:=a8;unfold Qt at b2;refine C 4 V (B5 1 (a5.Ah ap) underlying25 EK FR ?_);refine JL.ln underlying23 V V V (C 2 V ?_);refine AL b2 (λea eb=>?_) (λea ec=>?_)
  ·refine C 5 V (B5 1 (a5.Ah ap) underlying25 EK FR ?_);obtain⟨O,ed,ee⟩:=bs eb;refine C 1 V (JS.ix (b5.Ah (bx.Ad ap)) ed underlying23 A0 ?_);rintro eP eQ _ ⟨_,_,rfl,rfl,⟨_,_,rfl,rfl,rfl⟩⟩ ef;refine Cg ef DU A0 V V (B3 b0 BF λU eg=>?_);refine BQ 1 eg A0 λej=>?_;refine Du 1 ej V λek b3 ag a9=>?_;obtain⟨eR,el,em⟩:=bs ee;refine JL.done ?_;obtain⟨a0,f82,eo,Z⟩:=WL.of (b1.Ah b3) el;obtain⟨rfl,rfl⟩:=eo;refine HM [23,25] [a0] [] mixed V (Be 0 V V ?_);refine Fb (v:= Ak U 0) 1 true V V (λρ h s' K=>GG (a:=⟨U,0,none⟩) 0 0 underlying27 AA V V V (h _ _ V)) (Lr (v:=iV O.1) 2 V (by decide+kernel) V V V (λρ h s' K=>Yl.load AY (h _ _ V) (At.Ju (j:=0) ag K V)) ?_);refine Be 3 V V (Fb (v:= Ak U 1) 4 true V V (λρ h s' K=>GG (a:=⟨U,0,none⟩) 0 1 underlying27 AA V V V (h _ _ V)) ?_);refine Lr (v:=iV O.2.1) 5 V (by decide+kernel) V V V (λρ h s' K=>Yl.load AY (h _ _ V) (At.Ju (j:=1) ag K V)) (Be 6 V V ?_);refine Fb (v:= Ak U 0) 7 true V V (λρ h s' K=>GG (a:=⟨U,0,none⟩) 0 0 underlying27 AA V V V (h _ _ V)) (Lr (v:=iV O.1) 8 V (by decide+kernel) V V V (λρ h s' K=>Yl.load AY (h _ _ V) (At.Ju (j:=0) ag K V)) ?_);obtain⟨er,a2,eu⟩:=bs em;obtain⟨_,rfl,ew⟩:=WL.at Z a2;refine JB.ix 9 Z.2 a2 underlying28 AA ?_;refine JB.val (v:=iV er) 10 false V (by decide+kernel) V V V (λρ h s' K=>have K:=K V;Yl.load AY (h _ _ V) (BZ 0 a9 V (by simp [AD]) K (ew 0 _ V))) (Fb (v:= Ak U 2) 11 true V V (λρ h s' K=>GG (a:=⟨U,0,none⟩) 0 2 underlying27 AA V V V (h _ _ V)) ?_);refine Lr (v:=iV O.2.2) 12 V (by decide+kernel) V V V (λρ h s' K=>Yl.load AY (h _ _ V) (At.Ju (j:=2) ag K V)) ?_;obtain⟨al,ex,ey⟩:=bs eu;refine Fb 13 true V V (λρ h s' K=>C3 (h _ _ V) (h _ _ V) ex) (Be 14 V V ?_);refine Fb (v:= Ak U 1) 15 true V V (λρ h s' K=>GG (a:=⟨U,0,none⟩) 0 1 underlying27 AA V V V (h _ _ V)) (Lr (v:=iV O.2.1) 16 V (by decide+kernel) V V V (λρ h s' K=>Yl.load AY (h _ _ V) (At.Ju (j:=1) ag K V)) ?_);obtain⟨ez,a3,eA⟩:=bs ey;obtain⟨_,rfl,eB⟩:=WL.at Z a3;refine JB.ix 17 Z.2 a3 underlying28 AA ?_;refine JB.val (v:=iV ez) 18 false V (by decide+kernel) V V V (λρ h s' K=>have K:=K V;Yl.load AY (h _ _ V) (BZ 0 a9 V (by simp [AD]) K (eB 0 _ V))) (Fb (v:= Ak U 2) 19 true V V (λρ h s' K=>GG (a:=⟨U,0,none⟩) 0 2 underlying27 AA V V V (h _ _ V)) ?_);refine Lr (v:=iV O.2.2) 20 V (by decide+kernel) V V V (λρ h s' K=>Yl.load AY (h _ _ V) (At.Ju (j:=2) ag K V)) ?_;obtain⟨am,eC,eD⟩:=bs eA;refine Fb 21 true V V (λρ h s' K=>FF (h _ _ V) (h _ _ V) eC) (JB.ix 22 Z.2 a2 underlying28 AA ?_);have b4:=WL.put (x':=al) (ws':= [iV al]) Z Z.2 a2 V;refine EC 23 0 a9 AA trivial b4.2 λeE=>?_;refine JB.ix 24 Z.2 a3 underlying28 AA ?_;have bb:=WL.put (x':=am) (ws':= [iV am]) b4.1 Z.2 a3 V;refine EC 25 0 eE AA trivial bb.2 λeF=>?_;refine JB.fin (by decide+kernel) ?_;have eG:=(bb.1).1;have eH:(((Y.1.set (Int.toNat O.1) al).set (Int.toNat O.2.1) am)).length=Y.1.length:=(bb.1).2;refine Ff (L':= [(1,Ak bw 0),(3,.slice (AM a0) (((Y.1.set (Int.toNat O.1) al).set (Int.toNat O.2.1) am)).length ac),(4,iV Y.2)]) ⟨V,by rw [eH];rfl,V,trivial⟩ ?_;obtain⟨eI,eJ,eK⟩:=bs eD;refine C 3 V (Bl eJ V V V ?_);refine C 2 V ?_;obtain rfl:=oi eK;exact AB (dn _ _ (((Y.1.set (Int.toNat O.1) al).set (Int.toNat O.2.1) am),eI) ⟨ek,(AM a0),ac,[(a0,.cells (Bc (Bc f82 (Int.toNat (O.1)*1) [iV al]) (Int.toNat (O.2.1)*1) [iV am]) 3 (0,0))],V,V,(ap.Ad b3),eF,eG⟩ a8) V
  ·refine JL.exit V ?_;obtain rfl:=oi ec;obtain rfl:=dd _ a8;exact AB (c9 _ _ ⟨aw,ay,ac,az,V,V,ap,b0,b1⟩) V
variable {J:Judge Tryz.prog}
def Ny(fu_:Nat)(K:Int×Ay):Option (Bd (Int×Ay) (Ay)):= Option.bind (if 0<K.1 then((ix K.2 K.1).bind λO=> (Ar (K.1 - 1)).bind λZ=> (ix K.2 Z).bind λac=> if O.1<ac.1 then(some true) else((Ar (K.1 - 1)).bind λag=> (ix K.2 ag).bind λal=> if O.1=al.1 then((Ar (K.1 - 1)).bind λam=> (ix K.2 am).bind λap=> some (decide (O.2.1<ap.2.1))) else(some false))) else(some false)) λaq=> if aq=true then((Ar (K.1 - 1)).bind λU=> (Ar (K.1 - 1)).bind λav=> (ix K.2 av).bind λY=> (ix K.2 K.1).bind λaw=> (ix (K.2.set (Int.toNat K.1) Y) U).bind λaz=> (Ar (K.1 - 1)).bind λay=> some (.more (ay,((K.2.set (Int.toNat K.1) Y).set (Int.toNat U) aw)))) else(some (.done K.2))
def NL(fu_:Nat)(K:Int×Ay):Option (Bd (Int×Ay) (Ay)):= if K.1<(K.2.length:Int) then(Option.bind (iter (Ny fu_) fu_ K) λO=> (Ar (K.1+1)).bind λU=> some (.more (U,O))) else(some (.done K.2))
def f109(fu_:Nat)(p0:Ay):Option (Ay):= Option.bind (iter (NL fu_) fu_ (1,p0)) λK=> some K
set_option maxHeartbeats 2000000 in
theorem aL{O:Nat}{Z:Nat}{nw:Nat}{a3:Av_}{p0:Ay}(hW:WL 27 Az E O Z nw a3 p0){fu_:Nat}{r:Ay}(bn:f109 fu_ p0=some r):AP J 109 [.slice (AM O) nw Z] E [(O,.cells a3 27 (0,0))] (λw E' B'=>∃(bo:Av_),w= .slice (AM O) nw Z/\B'= [(O,.cells bo 27 (0,0))]/\WL 27 Az E' O Z nw bo r):=by
 refine Bn func109 λQ e4 cs H ct cw=>?_;unfold f109 at bn;obtain⟨cy,c0,c1⟩:=bs bn;refine C 9 V (Br (λL s=>∃(a4:LH) (f15:Av_),Jn E H a4 [bX O f15 27] [(0,.slice (AM O) nw Z)] L s (WL 27 Az a4 O Z nw f15 cy)) ?_ ?_)
 ·rintro _ _ ⟨a4,f15,rfl,rfl,c2,c3,c4⟩;refine C 5 V ?_;obtain rfl:=oi c1;exact AX func109 V V (cw c2 V ⟨f15,V,(by first | rfl | simp | (simp [Value.cells])),c4⟩ c3)
 ·intro c5;refine JL.block (CG c0 (λL s ap=>∃(aq:LH) (f23:Av_),Jn E H aq [bX O f23 27] [(0,.slice (AM O) nw Z),(3,iV ap.1)] L s (WL 27 Az aq O Z nw f23 ap.2)) ⟨E,a3,V,V,Av,ct,hW⟩ ?_);rintro _ _ ap ⟨aq,f23,rfl,rfl,bv,bw,a5⟩ c6 ⟨e5,a6⟩ c7;have bx:=a6;unfold NL at bx;refine C 5 V (Am (v:=iV (ap.2.length:Int)) V (λρ h=>PN (a5).2 V underlying23 (h _ _ V)) ?_);refine C 2 V (AL bx (λc8 c9=>?_) (λc8 dd=>?_))
  ·obtain⟨bz,dn,ea⟩:=bs c9;refine C 8 V (Br (λL s=>∃(az:LH) (f46:Av_),Jn aq H az [bX O f46 27] [(0,.slice (AM O) nw Z),(3,iV ap.1)] L s (WL 27 Az az O Z nw f46 bz)) ?_ ?_)
   ·rintro _ _ ⟨az,f46,rfl,rfl,eb,ec,ed⟩;obtain⟨ee,ef,eg⟩:=bs ea;refine C 3 V (Bl ef V V V ?_);refine C 2 V ?_;obtain rfl:=oi eg;exact AB (c7 _ _ (ee,bz) ⟨az,f46,V,V,(bv.Ad eb),ec,ed⟩ a6) V
   ·intro ej;refine JL.block (CG dn (λL s am=>∃(av:LH) (f56:Av_),Jn aq H av [bX O f56 27] [(0,.slice (AM O) nw Z),(3,iV ap.1),(4,iV am.1)] L s (WL 27 Az av O Z nw f56 am.2)) ⟨aq,f23,V,V,Av,bw,a5⟩ ?_);rintro _ _ am ⟨av,f56,rfl,rfl,b0,ac,U⟩ ek ⟨e6,a7⟩ el;have b1:=a7;unfold Ny at b1;refine C 2 V (Fz 44 [O] ⟨⟨0,_,V⟩,trivial⟩ ac λK=>?_);refine AR K V [0,1,2] V ?_;obtain⟨em,b2,eo⟩:=bs b1;refine Gb 0 #[true,true,true,true,true,true,true,true,true,true,true,true,true,true,true,true,true,true,true,true,true,true,true,true,true,true,true,true,true,true,true,true,true,true,true,true,true,true,true,true,true,true,true,true] (λL s=>L= [(0,.slice (AM O) nw Z),(3,iV ap.1),(4,iV am.1),(55,.bool em)]/\s=Aj av H [bX O f56 27]) ?_ ?_
    ·rintro _ _ ⟨rfl,rfl⟩;refine AQ.fin (by decide+kernel) (Ck eo (λer eu=>?_) (λer ew=>?_))
     ·refine C 3 V (HM [15,17] [O] [] mixed V ?_);refine Be 0 V V (Be 1 V V ?_);refine Be 2 V V (Be 3 V V ?_);obtain⟨b3,ex,ey⟩:=bs eu;refine Fb 4 true V V (λρ h s' Y=>C3 (h _ _ V) (h _ _ V) ex) (Be 5 V V ?_);refine Be 6 V V ?_;obtain⟨e7,ez,eA⟩:=bs ey;refine Fb 7 true V V (λρ h s' Y=>C3 (h _ _ V) (h _ _ V) ez) ?_;obtain⟨ag,b4,eB⟩:=bs eA;obtain⟨_,⟨_,_,rfl,rfl,⟨_,_,rfl,rfl,rfl⟩⟩,eC⟩:=WL.at U b4;refine JB.ix 8 U.2 b4 underlying23 A0 ?_;refine OC 9 [iV ag.1,iV ag.2.1,iV ag.2.2] 0 ac eC DU A0 ?_;refine Be 10 V V (Be 11 V V ?_);obtain⟨al,a0,eD⟩:=bs eB;obtain⟨_,⟨_,_,rfl,rfl,⟨_,_,rfl,rfl,rfl⟩⟩,eE⟩:=WL.at U a0;refine JB.ix 12 U.2 a0 underlying23 A0 ?_;refine OC 13 [iV al.1,iV al.2.1,iV al.2.2] 0 ac eE DU A0 ?_;refine JB.ix 14 U.2 a0 underlying23 A0 ?_;have aw:=WL.put (x':=ag) (ws':= [iV ag.1,iV ag.2.1,iV ag.2.2]) U U.2 a0 ⟨_,_,V,V,⟨_,_,V,V,V⟩⟩;refine EC 15 0 ac A0 trivial aw.2 λeF=>?_;obtain⟨e8,a8,eG⟩:=bs eD;obtain⟨_,⟨_,_,rfl,rfl,⟨_,_,rfl,rfl,rfl⟩⟩,e9⟩:=WL.at aw.1 a8;refine JB.ix 16 (aw.1).2 a8 underlying23 A0 ?_;have b5:=WL.put (x':=al) (ws':= [iV al.1,iV al.2.1,iV al.2.2]) aw.1 (aw.1).2 a8 ⟨_,_,V,V,⟨_,_,V,V,V⟩⟩;refine EC 17 0 eF A0 trivial b5.2 λeH=>?_;refine JB.fin (by decide+kernel) ?_;obtain⟨eI,eJ,eK⟩:=bs eG;refine C 3 V (Cu eJ V V V ?_);refine C 2 V ?_;obtain rfl:=oi eK;exact AB (el _ _ (eI,((am.2.set (Int.toNat am.1) ag).set (Int.toNat b3) al)) ⟨av,(Bc (Bc f56 (Int.toNat (am.1)*3) [iV ag.1,iV ag.2.1,iV ag.2.2]) (Int.toNat (b3)*3) [iV al.1,iV al.2.1,iV al.2.2]),V,V,b0,eH,b5.1⟩ a7) V
     ·refine JL.exit V ?_;obtain rfl:=oi ew;obtain rfl:=ek _ a7;exact AB (ej _ _ ⟨av,f56,V,V,b0,ac,U⟩) V
    ·intro a1;refine F9 (q:=0<am.1) (i:=14) V (λa9=>?_) (λa9=>?_)
     ·have eL:=ip b2 a9;refine AR K V [3,4] V ?_;obtain⟨ay,a2,eM⟩:=bs eL;obtain⟨_,⟨_,_,rfl,rfl,⟨_,_,rfl,rfl,rfl⟩⟩,bb⟩:=WL.at U a2;refine JG.ix 5 K (U).2 a2 underlying23 A0 ?_;refine JG.fd 6 K underlying27 AA V V V V ?_;refine AJ (v:=iV ay.1) 7 K V V (λρ h s' Y=>Yl.load AY (h _ _ V) (BZ 0 ac V (by simp [AD]) Y (bb 0 _ V))) ?_;refine AR K V [8,9] V ?_;obtain⟨fa,eN,eO⟩:=bs eM;refine AJ 10 K V V (λρ h s' Y=>C3 (h _ _ V) (h _ _ V) eN) ?_;obtain⟨b6,ca,cc⟩:=bs eO;obtain⟨_,⟨_,_,rfl,rfl,⟨_,_,rfl,rfl,rfl⟩⟩,eP⟩:=WL.at U ca;refine JG.ix 11 K (U).2 ca underlying23 A0 ?_;refine JG.fd 12 K underlying27 AA V V V V ?_;refine AJ (v:=iV b6.1) 13 K V V (λρ h s' Y=>Yl.load AY (h _ _ V) (BZ 0 ac V (by simp [AD]) Y (eP 0 _ V))) ?_;refine AR K V [14,15] V ?_;refine F9 (q:=ay.1<b6.1) (i:=27) V (λbe=>?_) (λbe=>?_)
      ·have eQ:=ip cc be;refine AR K V [16,17,18,19,20,21,22,23,24,25,26,27,28,29,30,31,32,33,34,35,36,37,38,39,40,41,42,43] V ?_;obtain rfl:=oi eQ;refine Dw ?_ (a1 _ _ ⟨V,V⟩);exact⟨V,V,V,V,trivial⟩
      ·have eR:=im cc be;refine AR K V [16,17] V ?_;refine JG.ix 18 K (U).2 a2 underlying23 A0 ?_;refine JG.fd 19 K underlying27 AA V V V V ?_;refine AJ (v:=iV ay.1) 20 K V V (λρ h s' Y=>Yl.load AY (h _ _ V) (BZ 0 ac V (by simp [AD]) Y (bb 0 _ V))) ?_;refine AR K V [21,22] V ?_;obtain⟨fb,eS,eT⟩:=bs eR;refine AJ 23 K V V (λρ h s' Y=>C3 (h _ _ V) (h _ _ V) eS) ?_;obtain⟨ce,ci,co⟩:=bs eT;obtain⟨_,⟨_,_,rfl,rfl,⟨_,_,rfl,rfl,rfl⟩⟩,eU⟩:=WL.at U ci;refine JG.ix 24 K (U).2 ci underlying23 A0 ?_;refine JG.fd 25 K underlying27 AA V V V V ?_;refine AJ (v:=iV ce.1) 26 K V V (λρ h s' Y=>Yl.load AY (h _ _ V) (BZ 0 ac V (by simp [AD]) Y (eU 0 _ V))) ?_;refine AR K V [27,28] V ?_;refine F9 (q:=ay.1=ce.1) (i:=40) V (λbi=>?_) (λbi=>?_)
       ·have eV:=ip co bi;refine AR K V [29,30] V ?_;refine JG.ix 31 K (U).2 a2 underlying23 A0 ?_;refine JG.fd 32 K underlying27 AA V V V V ?_;refine AJ (v:=iV ay.2.1) 33 K V V (λρ h s' Y=>Yl.load AY (h _ _ V) (BZ 0 ac V (by simp [AD]) Y (bb 1 _ V))) ?_;refine AR K V [34,35] V ?_;obtain⟨fc,eW,eX⟩:=bs eV;refine AJ 36 K V V (λρ h s' Y=>C3 (h _ _ V) (h _ _ V) eW) ?_;obtain⟨eY,cp,eZ⟩:=bs eX;obtain⟨_,⟨_,_,rfl,rfl,⟨_,_,rfl,rfl,rfl⟩⟩,e0⟩:=WL.at U cp;refine JG.ix 37 K (U).2 cp underlying23 A0 ?_;refine JG.fd 38 K underlying27 AA V V V V ?_;refine AJ (v:=iV eY.2.1) 39 K V V (λρ h s' Y=>Yl.load AY (h _ _ V) (BZ 0 ac V (by simp [AD]) Y (e0 1 _ V))) ?_;refine AR K V [40,41,42,43] V ?_;obtain rfl:=oi eZ;refine Dw ?_ (a1 _ _ ⟨V,V⟩);exact⟨V,V,V,V,trivial⟩
       ·have e1:=im co bi;refine AR K V [29,30,31,32,33,34,35,36,37,38,39,40,41,42,43] V ?_;obtain rfl:=oi e1;refine Dw ?_ (a1 _ _ ⟨V,V⟩);exact⟨V,V,V,V,trivial⟩
     ·have e3:=im b2 a9;refine AR K V [3,4,5,6,7,8,9,10,11,12,13,14,15,16,17,18,19,20,21,22,23,24,25,26,27,28,29,30,31,32,33,34,35,36,37,38,39,40,41,42,43] V ?_;obtain rfl:=oi e3;refine Dw ?_ (a1 _ _ ⟨V,V⟩);exact⟨V,V,V,V,trivial⟩
  ·refine JL.exit V ?_;obtain rfl:=oi dd;obtain rfl:=c6 _ a6;exact AB (c5 _ _ ⟨aq,f23,V,V,bv,bw,a5⟩) V
def SH(fu_:Nat)(K:Int)(U:Unit):Option (Bd Unit Unit):= Option.bind (if 0<K then(none) else(some false)) λO=> if O=true then((Ar (K - 1)).bind λY=> (Ar (K - 1)).bind λZ=> none) else(some (.done ()))
def SG(fu_:Nat)(K:Int):Option (Bd Int Unit):= if K<((0:Nat):Int) then(Option.bind (iter (SH fu_ K) fu_ ()) λU=> (Ar (K+1)).bind λO=> some (.more O)) else(some (.done ()))
def U8(fu_:Nat):Option Unit:= Option.bind (iter (SG fu_) fu_ 1) λK=> some ()
theorem Zw{fu_:Nat}{r:Unit}(Z:U8 fu_=some r):AP J 109 [nS] E [] (λw E' B'=>w= .slice none 0 0/\B'= []):=by
 refine Bn func109 λQ cy cs H aw ay=>?_;unfold U8 at Z;obtain⟨c0,az,a0⟩:=bs Z;refine C 9 V (CN [] [(0,.slice none 0 0)] (λc1 a1 a2=>?_) (λa3=>?_))
 ·refine C 5 V ?_;obtain rfl:=oi a0;exact AX func109 V V (ay a1 V ⟨V,V⟩ a2)
 ·refine JL.block (CO az (λK=> []) (λK=> [(0,.slice none 0 0),(3,iV K)]) Av aw ?_);rintro K c2 ac ag a4 ⟨c3,U⟩ a5;have al:=U;unfold SG at al;refine C 5 V (JL.ln underlying23 V V V ?_);refine C 2 V (AL al (λa6 a7=>?_) (λa6 a8=>?_))
  ·obtain⟨c4,a9,bb⟩:=bs a7;refine C 8 V (CN [] [(0,.slice none 0 0),(3,iV K)] (λc5 be bi=>?_) (λbn=>?_))
   ·obtain⟨bo,bv,bw⟩:=bs bb;refine C 3 V (Bl bv V V V ?_);refine C 2 V ?_;obtain rfl:=oi bw;exact a5 bo (ac.Ad be) bi V U
   ·refine JL.block (CO a9 (λam=> []) (λam=> [(0,.slice none 0 0),(3,iV K),(4,iV K)]) Av ag ?_);rintro am bx bz b0 b1 ⟨c6,ap⟩ c7;have aq:=ap;unfold SH at aq;refine C 2 V (DY 44 λO=>?_);refine AR O V [0,1,2] V ?_;obtain⟨b2,av,b3⟩:=bs aq;refine Gb 0 #[true,true,true,true,true,true,true,true,true,true,true,true,true,true,true,true,true,true,true,true,true,true,true,true,true,true,true,true,true,true,true,true,true,true,true,true,true,true,true,true,true,true,true,true] (λL s=>L= [(0,.slice none 0 0),(3,iV K),(4,iV K),(55,.bool b2)]/\s=Aj bx H []) ?_ ?_
    ·rintro _ _ ⟨rfl,rfl⟩;refine AQ.fin (by decide+kernel) (Ck b3 (λb4 b5=>?_) (λb4 b6=>?_))
     ·refine C 3 V (DY 16 λO=>?_);refine AR O V [0,1,2,3] V ?_;obtain⟨c8,ca,cc⟩:=bs b5;refine AJ 4 O V V (λρ h s' ce=>C3 (h _ _ V) (h _ _ V) ca) (AR O V [5,6] V ?_);obtain⟨c9,ci,co⟩:=bs cc;refine AJ 7 O V V (λρ h s' ce=>C3 (h _ _ V) (h _ _ V) ci) ?_;cases co
     ·refine JL.exit V ?_;obtain rfl:=oi b6;obtain rfl:=b1 _ ap;exact bn bz b0 V
    ·intro cp;refine F9 (q:=0<K) (i:=14) V (λY=>?_) (λY=>?_)
     ·have ct:=ip av Y;refine AR O V [3,4] V ?_;cases ct
     ·have cw:=im av Y;refine AR O V [3,4,5,6,7,8,9,10,11,12,13,14,15,16,17,18,19,20,21,22,23,24,25,26,27,28,29,30,31,32,33,34,35,36,37,38,39,40,41,42,43] V ?_;obtain rfl:=oi cw;refine Dw ?_ (cp _ _ ⟨V,V⟩);exact⟨V,V,V,V,trivial⟩
  ·refine JL.exit V ?_;obtain rfl:=oi a8;obtain rfl:=a4 _ U;exact a3 ac ag V
theorem YW{J:Judge Tryz.prog}{E:LH}{a:Ao}{c:Nat}{g:Seg}{p0:Ay}(Y:OL 27 Az E a c g p0){fu_:Nat}{r:Ay}(K:f109 fu_ p0=some r):
  AP J 109 [.slice a p0.length c] E g (λw E' B'=>w= .slice a p0.length c/\OL 27 Az E' a c B' r/\r.length=p0.length):=by
 rcases Y.cases with⟨rfl,rfl,rfl,rfl⟩ | ⟨bk,f,rfl,rfl,hW⟩
 ·have Z:r= []:=by
   cases fu_ with
   | zero=>exact absurd K (by simp [f109,iter])
   | succ fu_=>exact(Option.some.inj (K.symm.trans (by rfl:f109 (fu_+1) []=some []))).trans rfl
  subst Z;refine(Zw (fu_:=10) (r:=()) V).Ah ?_;rintro w E' B' hle ⟨O,rfl⟩;exact⟨O,OL.nil,V⟩
 ·refine(aL hW K).Ah ?_;rintro w E' B' hle ⟨ac,O,rfl,U⟩;exact⟨O,U.1,U.2⟩
def NK(fu_:Nat)(p0:List Int)(K:Ay×Int):Option (Bd (Ay×Int) (Ay)):= (Ar (K.2+2)).bind λO=> if O<(p0.length:Int) then((ix p0 K.2).bind λU=> (Ar (K.2+1)).bind λY=> (ix p0 Y).bind λZ=> (Ar (K.2+2)).bind λac=> (ix p0 ac).bind λag=> (DD K.1 ([(U,Z,ag)]:Ay)).bind λal=> (Ar (K.2+3)).bind λam=> some (.more (al,am))) else(some (.done K.1))
def LM(fu_:Nat)(p0:List Int):Option (Ay):= Option.bind (iter (NK fu_ p0) fu_ ([],0)) λK=> some K
theorem Un{a1:Ao}{c2:Nat}{p0:List Int}(aq:An rI E a1 c2 p0){fu_:Nat}{r:Ay}(a2:LM fu_ p0=some r):AP J 67 [sV a1 p0 c2] E [] (λw E' B'=>∃(a3:Ao) (a4:Nat) (g0:Seg),w= sV a3 r a4/\B'=g0/\OL 27 Az E' a3 a4 g0 r):=by
 refine Bn func67 λQ el cs H be bi=>?_;unfold LM at a2;obtain⟨a5,bn,bo⟩:=bs a2;refine C 13 V (Br (λL s=>∃(av:LH) (U:Ao) (Y:Nat) (Z:Seg),Jn E H av [Z] [(3,sV U a5 Y)] L s (OL 27 Az av U Y Z a5)) ?_ ?_)
 ·rintro _ _ ⟨av,U,Y,Z,rfl,rfl,bv,bw,bx⟩;refine C 5 V ?_;obtain rfl:=oi bo;exact AX func67 V V (bi bv V ⟨U,Y,Z,V,(by first | rfl | simp | (simp [Value.cells])),bx⟩ bw)
 ·intro bz;refine JL.block (CG bn (λL s ac=>∃(ag:LH) (al:Ao) (am:Nat) (ap:Seg),Jn E H ag [ap] [(0,sV a1 p0 c2),(3,sV al ac.1 am),(4,iV ac.2)] L s (OL 27 Az ag al am ap ac.1)) ⟨E,none,0,[],V,V,Av,be,OL.nil⟩ ?_);rintro _ _ ac ⟨ag,al,am,ap,rfl,rfl,O,a6,a7⟩ b0 ⟨em,aw⟩ b1;have a8:=aw;unfold NK at a8;obtain⟨eo,b2,b3⟩:=bs a8;refine C 4 V (Bl b2 V V V ?_);refine C 1 V (JL.ln underlying28 V V V ?_);refine C 2 V (AL b3 (λb4 b5=>?_) (λb4 b6=>?_))
  ·refine C 3 V (DY 17 λK=>?_);refine AR K V [0,1,2] V ?_;obtain⟨ay,ca,cc⟩:=bs b5;refine Di 3 (aq.Ah O) ca K underlying28 AA ?_;rintro er eu _ rfl ce;refine CP 4 K 0 ce AY V V V V (AR K V [5,6] V ?_);obtain⟨ew,ci,co⟩:=bs cc;refine AJ 7 K V V (λρ h s' a9=>FF (h _ _ V) (h _ _ V) ci) ?_;obtain⟨az,cp,ct⟩:=bs co;refine Di 8 (aq.Ah O) cp K underlying28 AA ?_;rintro ex ey _ rfl cw;refine CP 9 K 0 cw AY V V V V (AR K V [10,11] V ?_);obtain⟨ez,cy,c0⟩:=bs ct;refine AJ 12 K V V (λρ h s' a9=>FF (h _ _ V) (h _ _ V) cy) ?_;obtain⟨a0,c1,c3⟩:=bs c0;refine Di 13 (aq.Ah O) c1 K underlying28 AA ?_;rintro eA eB _ rfl c4;refine CP 14 K 0 c4 AY V V V V (AJ (v:= .agg #[iV ay,iV az,iV a0]) 15 K V V (λρ h s' a9=>Dh [(0,1),(1,1),(2,1)] h BF underlying27 ⟨V,AV type3,V,AV type3,V,AV type3,trivial⟩ V V) ?_);refine JG.one (i:=16) V (by decide+kernel) (Take.EP (pp:=Az) [.agg #[iV ay,iV az,iV a0]] ([(ay,az,a0)]:Ay) a6 V V V underlying23 A0 BF (by decide) V V V ⟨⟨_,_,V,V,⟨_,_,V,V,V⟩⟩,trivial⟩ λeC eD c5 c6=>?_);refine C4 [17,18] (BW 1 c5 c6 V λc7 bb c8 c9=>?_);obtain⟨dd,dn,ea⟩:=bs c3;refine Iq (pp:=Az) 0 dn V V V V V V V underlying23 underlying23 A0 (DW type27) BF V (by decide) (by decide) (a7.Ah bb) c8 c9 V λeb ec ed ee ef=>?_;obtain⟨eg,ej,ek⟩:=bs ea;refine C 5 V (Bl ej V V V ?_);refine C 2 V ?_;obtain rfl:=oi ek;exact AB (b1 _ _ (dd,eg) ⟨c7,eb,ec,ed,V,V,(O.Ad bb),ef,ee⟩ aw) V
  ·refine JL.exit V ?_;obtain rfl:=oi b6;obtain rfl:=b0 _ aw;exact AB (bz _ _ ⟨ag,al,am,ap,V,V,O,a6,a7⟩) V
def f108(fu_:Nat)(p0:Int)(K:Int)(p2:Int):Option (Ay):= if 0<p2 then((LM fu_ ([p0,K,p2]:List Int)).bind λO=> some O) else(if p2<0 then((Ar (-(p2))).bind λU=> (LM fu_ ([K,p0,U]:List Int)).bind λY=> some Y) else(some ([])))
theorem Qo{p0:Int}{K:Int}{p2:Int}{fu_:Nat}{r:Ay}(Z:f108 fu_ p0 K p2=some r):AP J 108 [iV p0,iV K,iV p2] E [] (λw E' B'=>∃(ac:Ao) (ag:Nat) (g0:Seg),w= sV ac r ag/\B'=g0/\OL 27 Az E' ac ag g0 r):=by
 refine Bn func108 λQ b6 cs H O U=>?_;unfold f108 at Z;refine C 10 V (AL Z (λc1 al=>?_) (λc1 am=>?_))
 ·refine C 5 V (EN (pp:=rI) [iV p0,iV K,iV p2] [p0,K,p2] V V V underlying28 AA Cq (by decide) V V V ⟨V,V,V,trivial⟩ O λr3 ca ap aq=>?_);refine BW 1 ap aq V λcc av aw ay=>?_;obtain⟨ce,az,a0⟩:=bs al;refine BP (Un aw az) V V K7 ay ?_;rintro _ ci a1 a2 ⟨a3,a4,_,rfl,rfl,a5⟩ a6;refine C 2 V ?_;obtain rfl:=oi a0;exact AX func108 V V (U (av.Ad a2) V ⟨a3,a4,a1,V,(by first | rfl | simp | (simp [Value.cells])),a5⟩ a6)
 ·refine C 7 V (AL am (λa7 a8=>?_) (λa7 a9=>?_))
  ·obtain⟨Y,bb,be⟩:=bs a8;refine C 5 V (Am (v:=iV Y) V (λρ h=>G2 (h _ _ V) bb) ?_);refine EN (pp:=rI) [iV K,iV p0,iV Y] [K,p0,Y] V V V underlying28 AA Cq (by decide) V V V ⟨V,V,V,trivial⟩ O λco cp bi bn=>BW 1 bi bn V λct bo bv bw=>?_;obtain⟨cw,bx,bz⟩:=bs be;refine BP (Un bv bx) V V K7 bw ?_;rintro _ cy b0 b1 ⟨b2,b3,_,rfl,rfl,b4⟩ b5;refine C 2 V ?_;obtain rfl:=oi bz;exact AX func108 V V (U (bo.Ad b1) V ⟨b2,b3,b0,V,(by first | rfl | simp | (simp [Value.cells])),b4⟩ b5)
  ·refine C 5 V ?_;obtain rfl:=oi a9;exact AX func108 V V (U Av V ⟨none,0,[],V,V,OL.nil⟩ O)
def Mz(fu_:Nat)(U:Int)(p2:Int)(O:Ay)(K:Bool×Int):Option (Bd (Bool×Int) Bool):= if K.2<(O.length:Int) then(Option.bind (if K.1=true then(some true) else(if U≠p2 then((ix O K.2).bind λY=> if Y.1=U then((ix O K.2).bind λZ=> if Z.2.1=p2 then(some true) else((ix O K.2).bind λac=> if ac.1=p2 then((ix O K.2).bind λag=> some (decide (ag.2.1=U))) else(some false))) else((ix O K.2).bind λal=> if al.1=p2 then((ix O K.2).bind λam=> some (decide (am.2.1=U))) else(some false))) else(some false))) λap=> (Ar (K.2+1)).bind λaq=> some (.more (ap,aq))) else(some (.done K.1))
def Of(fu_:Nat)(p0:List Int)(U:Int)(p2:Int)(K:AO×Int):Option (Bd (AO×Int) (AO)):= if K.2<=72 then(Option.bind ((ix p0 (0)).bind λY=> (Ar (-(Y))).bind λZ=> (Ar (Z - K.2)).bind λac=> (ix p0 (1)).bind λag=> (Ar (K.2 - ag)).bind λal=> (f108 fu_ 0 1 K.2).bind λam=> (f108 fu_ 0 2 ac).bind λap=> (DD am ap).bind λaq=> (f108 fu_ 1 2 al).bind λav=> (DD aq av).bind λO=> Option.bind (iter (Mz fu_ U p2 O) fu_ (false,0)) λaw=> Option.bind (if aw=true then(some true) else(if 0<(K.1.length:Int) then((ix K.1 (0)).bind λay=> some (decide ((ay.length:Int)<(O.length:Int)))) else(some false))) λaz=> if az=true then(some K.1) else(Option.bind (if 0<(K.1.length:Int) then((ix K.1 (0)).bind λa0=> some (decide ((O.length:Int)<(a0.length:Int)))) else(some false)) λa1=> Option.bind (if a1=true then(some ([])) else(some K.1)) λa2=> (f109 fu_ O).bind λa3=> (room a2 a3).bind λa4=> some a4)) λa5=> (Ar (K.2+1)).bind λa6=> some (.more (a5,a6))) else(some (.done K.1))
def f60(fu_:Nat)(p0:List Int)(K:Int)(p2:Int):Option (AO):= Option.bind (iter (Of fu_ p0 K p2) fu_ (([]:AO),(-72))) λO=> some O
theorem UM{a1:Ao}{c2:Nat}{p0:List Int}{U:Int}{p2:Int}(c0:An rI E a1 c2 p0){fu_:Nat}{r:AO}(c1:f60 fu_ p0 U p2=some r):AP J 60 [sV a1 p0 c2,iV U,iV p2] E [] (λw E' B'=>∃(c3:Ao) (c4:Nat),w= sV c3 r c4/\B'= []/\An (rL Az) E' c3 c4 r):=by
 refine Bn func60 λQ hJ cs H eg ej=>?_;unfold f60 at c1;refine C 10 V (Pv eg λek=>?_);obtain⟨c5,el,em⟩:=bs c1;refine C 3 V (Br (λL s=>∃(b6:LH) (bn:Ao) (bo:Nat) (ca:Seg),Jn E H b6 [ca] [(7,sV bn c5 bo)] L s (OL 23 (rL Az) b6 bn bo ca c5)) ?_ ?_)
 ·rintro _ _ ⟨b6,bn,bo,ca,rfl,rfl,eo,er,eu⟩;refine C 5 V (BW 0 eu er V λhK ew ex ey=>?_);obtain rfl:=oi em;exact AX func60 V V (ej (eo.Ad ew) V ⟨bn,bo,V,V,ex⟩ ey)
 ·intro ez;refine JL.block (CG el (λL s K=>∃(a9:LH) (Y:Ao) (Z:Nat) (ac:Seg),Jn E H a9 [ac] [(0,sV a1 p0 c2),(1,iV U),(2,iV p2),(7,sV Y K.1 Z),(8,iV K.2)] L s (OL 23 (rL Az) a9 Y Z ac K.1)) ⟨E,none,0,[],V,V,Av,ek,OL.nil⟩ ?_);rintro _ _ K ⟨a9,Y,Z,ac,rfl,rfl,bv,c6,bb⟩ eA ⟨hL,cc⟩ eB;have c7:=cc;unfold Of at c7;refine C 6 V (AL c7 (λeC eD=>?_) (λeC eE=>?_))
  ·obtain⟨ce,eF,eG⟩:=bs eD;refine C 2 V (Br (λL s=>∃(bw:LH) (bx:Ao) (bz:Nat) (b0:Seg),Jn a9 H bw [b0] [(0,sV a1 p0 c2),(1,iV U),(2,iV p2),(7,sV bx ce bz),(8,iV K.2)] L s (OL 23 (rL Az) bw bx bz b0 ce)) ?_ ?_)
   ·rintro _ _ ⟨bw,bx,bz,b0,rfl,rfl,eH,eI,eJ⟩;obtain⟨eK,eL,eM⟩:=bs eG;refine C 2 V (Bl eL V V V ?_);refine C 2 V ?_;obtain rfl:=oi eM;exact AB (eB _ _ (ce,eK) ⟨bw,bx,bz,b0,V,V,(bv.Ad eH),eI,eJ⟩ cc) V
   ·intro c8;refine C 2 V (DY 15 λag=>?_);refine AR ag V [0,2] V ?_;obtain⟨hM,eN,eO⟩:=bs eF;refine Di 3 (c0.Ah bv) eN ag underlying28 AA ?_;rintro hN hO _ rfl eP;refine CP 4 ag 0 eP AY V V V V ?_;obtain⟨eQ,eR,eS⟩:=bs eO;refine AJ (v:=iV eQ) 5 ag V V (λρ h s' c9=>G2 (h _ _ V) eR) (Dz 6 ag V V ?_);obtain⟨eT,eU,eV⟩:=bs eS;refine AJ 7 ag V V (λρ h s' c9=>C3 (h _ _ V) (h _ _ V) eU) (AR ag V [10,11] V ?_);obtain⟨hP,eW,eX⟩:=bs eV;refine Di 12 (c0.Ah bv) eW ag underlying28 AA ?_;rintro hQ hR _ rfl eY;refine CP 13 ag 0 eY AY V V V V ?_;obtain⟨hS,eZ,e0⟩:=bs eX;refine AJ 14 ag V V (λρ h s' c9=>C3 (h _ _ V) (h _ _ V) eZ) ?_;obtain⟨hT,e1,e3⟩:=bs e0;refine JG.call (i:=1) (vs:= [iV 0,iV 1,iV K.2]) (Qo e1) (by decide+kernel) V V V OX V c6 ?_;rintro _ hU hV a2 ⟨hW,hX,_,rfl,rfl,e4⟩ e5;obtain⟨hY,e6,e7⟩:=bs e3;refine JG.call (i:=8) (vs:= [iV 0,iV 2,iV eT]) (Qo e6) (by decide+kernel) V V V OX V e5 ?_;rintro _ hZ h0 aq ⟨h1,h2,_,rfl,rfl,e8⟩ e9;obtain⟨h3,fa,fb⟩:=bs e7;refine JG.one (i:=9) V (by decide+kernel) (Take.app0 (pp:=Az) 1 2 e9 fa V V V V V V V underlying23 underlying23 A0 (DW type27) BF V (by decide) (by decide) (e4.Ah aq) e8 V V λh4 h5 h6 h7 fc fe=>?_);refine C4 [15,16,17] (Gm 1 V fe λff=>?_);refine JS.drop 1 ff V λfg=>?_;obtain⟨h8,fh,fj⟩:=bs fb;refine BP (Qo fh) V V OX fg ?_;rintro _ h9 ia av ⟨ic,ie,_,rfl,rfl,fk⟩ fl;refine BW 4 fk fl V λig aw fm fo=>?_;obtain⟨a3,fp,fq⟩:=bs fj;refine Iq (pp:=Az) 3 fp V V V V V V V underlying23 underlying23 A0 (DW type27) BF V (by decide) (by decide) (fc.Ah (av.Ad aw)) fm fo V λal am a4 ay fs=>?_;obtain⟨fu,fv,fw⟩:=bs fq;refine C 11 V (CN [ac,a4] [(0,sV a1 p0 c2),(1,iV U),(2,iV p2),(7,sV Y K.1 Z),(8,iV K.2),(9,sV al a3 am),(10,.bool fu)] (λb1 az b2=>?_) (λfx=>?_))
    ·obtain⟨fy,fz,fA⟩:=bs fw;refine C 5 V (Gl [] (λL s=>∃(a5:LH),Jm b1 H a5 [ac,a4] [(0,sV a1 p0 c2),(1,iV U),(2,iV p2),(7,sV Y K.1 Z),(8,iV K.2),(9,sV al a3 am),(95,.bool fy)] L s) ?_ ?_)
     ·rintro _ _ ⟨a5,rfl,rfl,a6,b3⟩;refine JL.done (Ck fA (λfB fC=>?_) (λfB fD=>?_))
      ·refine JL.exit V (JS.drop 1 b3 V λfE=>?_);obtain rfl:=oi fC;exact AB (c8 _ _ ⟨a5,Y,Z,ac,V,V,(((((a2.Ad aq).Ad av).Ad aw).Ad az).Ad a6),fE,(bb.Ah (((((a2.Ad aq).Ad av).Ad aw).Ad az).Ad a6))⟩) V
      ·refine C 5 V (JL.ln underlying65 V V V ?_);obtain⟨fF,fG,fH⟩:=bs fD;refine C 2 V (Gl [] (λL s=>∃(be:LH),Jm a5 H be [ac,a4] [(0,sV a1 p0 c2),(1,iV U),(2,iV p2),(7,sV Y K.1 Z),(8,iV K.2),(9,sV al a3 am),(107,.bool fF)] L s) ?_ ?_)
       ·rintro _ _ ⟨be,rfl,rfl,ci,dd⟩;obtain⟨b4,fI,fJ⟩:=bs fH;refine JL.done (Br (λL s=>∃(co:LH) (a7:Ao) (a8:Nat) (cp:Seg),Jn be H co [a4,cp] [(0,sV a1 p0 c2),(1,iV U),(2,iV p2),(7,sV a7 b4 a8),(8,iV K.2),(9,sV al a3 am)] L s (OL 23 (rL Az) co a7 a8 cp b4)) ?_ ?_)
        ·rintro _ _ ⟨co,a7,a8,cp,rfl,rfl,dn,fK,fL⟩;obtain⟨b5,fM,fN⟩:=bs fJ;refine C 3 V (Db 0 (YW (ay.Ah (((az.Ad a6).Ad ci).Ad dn)) fM) V V (A6 func109 V) fK V ?_);rintro _ ih ii ea ⟨rfl,fO,ct⟩ fP;refine Ff (L':= [(110,.slice al b5.length am),(0,.slice a1 p0.length c2),(1,iV U),(2,iV p2),(7,.slice a7 b4.length a8),(8,iV K.2),(9,.slice al b5.length am),(108,.slice a7 b4.length a8),(109,.slice al b5.length am)]) ⟨by rw [ct];rfl,V,V,V,V,V,by rw [ct];rfl,V,by rw [ct];rfl,trivial⟩ ?_;refine BW 0 fO fP V λfQ eb fR fS=>?_;obtain⟨ij,fT,fU⟩:=bs fN;refine JS.app (pp:=(rL Az)) (v:= sV al b5 am) (a:=a7) (c:=a8) 1 fT V V V V (λ_=>V) V (λ_=>V) V V V underlying65 underlying65 underlying65 EK (DW type23) (Dv type23) V (by decide) (by decide) (by decide) (by decide) (fL.Ah (ea.Ad eb)) ⟨_,_,V,fR⟩ fS V λik fW fX fY fZ ga=>C 3 V ?_;obtain rfl:=oi fU;exact AB (c8 _ _ ⟨fQ,fW,fX,fY,V,V,(((((((((a2.Ad aq).Ad av).Ad aw).Ad az).Ad a6).Ad ci).Ad dn).Ad ea).Ad eb),ga,fZ⟩) V
        ·intro ec;refine Ck fI (λgb gc=>?_) (λgb gd=>?_)
         ·refine C 3 V (JS.drop 0 dd V λge=>?_);obtain rfl:=oi gc;exact AB (ec _ _ ⟨be,none,0,[],V,V,Av,ge,OL.nil⟩) V
         ·refine JL.skip (JS.swap 0 1 V V V dd λgf=>?_);obtain rfl:=oi gd;exact AB (ec _ _ ⟨be,Y,Z,ac,V,V,Av,gf,(bb.Ah ((((((a2.Ad aq).Ad av).Ad aw).Ad az).Ad a6).Ad ci))⟩) V
       ·intro ed;refine FJ 99 fG (λgg gh=>?_) (λgg gi=>?_)
        ·refine C 1 V (JL.ln underlying23 V V V ?_);obtain⟨gj,gk,gl⟩:=bs gh;refine C 1 V (Hn 0 (bb.Ah (((((a2.Ad aq).Ad av).Ad aw).Ad az).Ad a6)) gk V V V V V V underlying65 EK ?_);rintro il io f221 _ gm ⟨gn,gp,rfl,iq⟩ gq ir iu iv iw;refine Am (v:= sV gn gj gp) V (λρ h=>Yl.load FR (h _ _ V) (BL (j:=0) b3 gm (gq 0 _ V))) (JL.ln underlying23 V V V ?_);refine C 2 V ?_;obtain rfl:=oi gl;exact AB (ed _ _ ⟨a5,V,V,Av,b3⟩) V
        ·refine C 8 V ?_;obtain rfl:=oi gi;exact AB (ed _ _ ⟨a5,V,V,Av,b3⟩) V
     ·intro cw;refine EB 82 fz (λgr gt=>?_) (λgr gu=>?_)
      ·refine C 13 V ?_;obtain rfl:=oi gt;exact AB (cw _ _ ⟨b1,V,V,Av,b2⟩) V
      ·refine C 1 V (JL.ln underlying65 V V V ?_);refine C 2 V (FJ 86 gu (λgv gw=>?_) (λgv gx=>?_))
       ·refine C 1 V (JL.ln underlying23 V V V ?_);obtain⟨gy,gz,gA⟩:=bs gw;refine C 1 V (Hn 0 (bb.Ah ((((a2.Ad aq).Ad av).Ad aw).Ad az)) gz V V V V V V underlying65 EK ?_);rintro iy iz iA _ gB ⟨gC,gD,rfl,iB⟩ gE iC iD iE iF;refine Am (v:= sV gC gy gD) V (λρ h=>Yl.load FR (h _ _ V) (BL (j:=0) b2 gB (gE 0 _ V))) (JL.ln underlying23 V V V ?_);refine C 3 V ?_;obtain rfl:=oi gA;exact AB (cw _ _ ⟨b1,V,V,Av,b2⟩) V
       ·refine C 9 V ?_;obtain rfl:=oi gx;exact AB (cw _ _ ⟨b1,V,V,Av,b2⟩) V
    ·refine JL.block (JS.drop 2 fs V λgF=>?_);refine CO fv (λbi=> [ac,a4]) (λbi=> [(0,sV a1 p0 c2),(1,iV U),(2,iV p2),(7,sV Y K.1 Z),(8,iV K.2),(9,sV al a3 am),(10,.bool bi.1),(11,iV bi.2)]) Av gF ?_;rintro bi iG ap O gG ⟨iH,cy⟩ gH;have ee:=cy;unfold Mz at ee;refine C 5 V (JL.ln underlying23 V V V ?_);refine C 2 V (AL ee (λgI gJ=>?_) (λgI gK=>?_))
     ·obtain⟨ef,gL,gM⟩:=bs gJ;refine C 6 V (Fy 42 1 [ac,a4] [(0,sV a1 p0 c2),(1,iV U),(2,iV p2),(7,sV Y K.1 Z),(8,iV K.2),(9,sV al a3 am),(11,iV bi.2),(80,.bool ef)] (λiI gO gP=>?_) (λa0=>?_))
      ·obtain⟨gQ,gR,gS⟩:=bs gM;refine C 5 V (Bl gR V V V ?_);refine C 2 V ?_;obtain rfl:=oi gS;exact gH (ef,gQ) (ap.Ad gO) gP V cy
      ·refine EB 40 gL (λgT gU=>?_) (λgT gV=>?_)
       ·refine C 40 V ?_;obtain rfl:=oi gU;exact a0 Av O V
       ·refine C 4 V (FJ 44 gV (λgW gX=>?_) (λgW gY=>?_))
        ·obtain⟨gZ,g0,g1⟩:=bs gX;refine C 2 V (Hn 1 (ay.Ah ap) g0 V V V V V V underlying23 A0 ?_);rintro iJ iK iL _ g3 ⟨_,_,rfl,rfl,⟨_,_,rfl,rfl,rfl⟩⟩ g4 iM iN iO iP;refine JL.fd underlying27 AA V V V (Am (v:=iV gZ.1) V (λρ h=>Yl.load AY (h _ _ V) (BL (j:=1) O g3 (g4 0 _ V))) ?_);refine C 3 V (FJ 52 g1 (λg5 g6=>?_) (λg5 g7=>?_))
         ·obtain⟨g8,g9,ha⟩:=bs g6;refine C 2 V (Hn 1 (ay.Ah ap) g9 V V V V V V underlying23 A0 ?_);rintro iQ iR iS _ hb ⟨_,_,rfl,rfl,⟨_,_,rfl,rfl,rfl⟩⟩ hd iT iU iW iX;refine JL.fd underlying27 AA V V V (Am (v:=iV g8.2.1) V (λρ h=>Yl.load AY (h _ _ V) (BL (j:=1) O hb (hd 1 _ V))) ?_);refine C 4 V (FJ 61 ha (λhe hf=>?_) (λhe hg=>?_))
          ·refine C 19 V ?_;obtain rfl:=oi hf;exact a0 Av O V
          ·obtain⟨hj,hk,hl⟩:=bs hg;refine C 2 V (Hn 1 (ay.Ah ap) hk V V V V V V underlying23 A0 ?_);rintro iY iZ i0 _ hm ⟨_,_,rfl,rfl,⟨_,_,rfl,rfl,rfl⟩⟩ hn i1 i3 i4 i5;refine JL.fd underlying27 AA V V V (Am (v:=iV hj.1) V (λρ h=>Yl.load AY (h _ _ V) (BL (j:=1) O hm (hn 0 _ V))) ?_);refine C 3 V (FJ 69 hl (λho hp=>?_) (λho hq=>?_))
           ·obtain⟨hr,hs,ht⟩:=bs hp;refine C 2 V (Hn 1 (ay.Ah ap) hs V V V V V V underlying23 A0 ?_);rintro i6 i7 i8 _ hu ⟨_,_,rfl,rfl,⟨_,_,rfl,rfl,rfl⟩⟩ hv i9 ja jb jc;refine JL.fd underlying27 AA V V V (Am (v:=iV hr.2.1) V (λρ h=>Yl.load AY (h _ _ V) (BL (j:=1) O hu (hv 1 _ V))) ?_);refine C 6 V ?_;obtain rfl:=oi ht;exact a0 Av O V
           ·refine C 11 V ?_;obtain rfl:=oi hq;exact a0 Av O V
         ·obtain⟨hw,hx,hy⟩:=bs g7;refine C 11 V (Hn 1 (ay.Ah ap) hx V V V V V V underlying23 A0 ?_);rintro jd je jf _ hz ⟨_,_,rfl,rfl,⟨_,_,rfl,rfl,rfl⟩⟩ hA jg jh ji jj;refine JL.fd underlying27 AA V V V (Am (v:=iV hw.1) V (λρ h=>Yl.load AY (h _ _ V) (BL (j:=1) O hz (hA 0 _ V))) ?_);refine C 3 V (FJ 69 hy (λhB hC=>?_) (λhB hD=>?_))
          ·obtain⟨hE,hF,hG⟩:=bs hC;refine C 2 V (Hn 1 (ay.Ah ap) hF V V V V V V underlying23 A0 ?_);rintro jk jl jm _ hH ⟨_,_,rfl,rfl,⟨_,_,rfl,rfl,rfl⟩⟩ hI jo jp jq jr;refine JL.fd underlying27 AA V V V (Am (v:=iV hE.2.1) V (λρ h=>Yl.load AY (h _ _ V) (BL (j:=1) O hH (hI 1 _ V))) ?_);refine C 6 V ?_;obtain rfl:=oi hG;exact a0 Av O V
          ·refine C 11 V ?_;obtain rfl:=oi hD;exact a0 Av O V
        ·refine C 36 V ?_;obtain rfl:=oi gY;exact a0 Av O V
     ·refine JL.exit V ?_;obtain rfl:=oi gK;obtain rfl:=gG _ cy;exact fx ap O V
  ·refine JL.exit V ?_;obtain rfl:=oi eE;obtain rfl:=eA _ cc;exact AB (ez _ _ ⟨a9,Y,Z,ac,V,V,bv,c6,bb⟩) V
variable {J:Judge Tryz.prog}
end Pal
namespace Pal
open Go Go.Conc
variable {P:Program}{Q:Gs_}{b:Frame}{n:Nat}{ds:Ld_}{ops:Ao_}{cs:Lf_}{fuel:Nat}{D:Nat->Bool}{listed:Array Bool}{L:Env}{E E' H:LH}{S:List Seg}
variable {d:Option Tmp}{t u ty e:TypeId}{p:String}{af:Ae_}{g:On_}{v:Value}{kd:IntKind}
section
variable {J:Judge P}{k:Li_}{m:Nat}{s:St}
variable {x y:Operand}{i:Nat}
end
open Go.Proofs Go.Proofs.Tryz
variable {J:Judge Tryz.prog}
end Pal
namespace Pal
open Go Go.Conc
variable {P:Program}{d:Option Tmp}{t u ty e:TypeId}{p:String}{af:Ae_}{g:On_}{ρ:Operand->Value}
section
variable {x:Operand}{s:St}
theorem We{α:Type}{pp:Rp α}{K:TypeId}{E:LH}{a:Option Addr}{c:Nat}{seg:Seg}{xs:List α}(O:OL K pp E a c seg xs)(U:xs= []->a=none)(Y:P.underlying t=some (.slice e))(Z:ρ x= .slice a xs.length c)(ac:ρ (.const (.slice none 0 0))= .slice none 0 0):
  Yl P ⟨d,.binOp .eql t x (.const (.slice none 0 0)) u,ty,p,af,g⟩ ρ s (.bool (decide ((xs.length:Int)=0))):=by
 have key:a.isNone=decide ((xs.length:Int)=0):=by
  rcases OL.cases O with⟨rfl,_,_,rfl⟩ | ⟨bk,f,rfl,_,_⟩
  ·rfl
  ·cases xs with
   | nil=>cases U rfl
   | cons y ys=>simp;omega
 rw [← key];have ag:∀o,eqGuard o t x (.const (.slice none 0 0)) (.slice a xs.length c) (.slice none 0 0)=Sem.pure ():=λo=>by cases o <;> rfl
 refine FT (sm:=do eqGuard .eql t x (.const (.slice none 0 0)) (ρ x) (ρ (.const (.slice none 0 0)));binOp .eql t (ρ x) (ρ (.const (.slice none 0 0)))) V ?_
 rw [Z,ac,ag];simp only [bind,Sem.bind];have hb:binOp .eql t (.slice a xs.length c) (.slice none 0 0)=(do pure (.bool (← Op.equal t (.slice a xs.length c) (.slice none 0 0)))):=V
 rw [hb];refine Aw (x:=Op.equal t _ _) _ ?_;unfold Op.equal Op.maxDepth Op.equalIn;refine Aw _ _ (Cn Y ?_);cases a with
 | none=>exact⟨rfl,rfl⟩
 | some ad=>exact⟨rfl,rfl⟩
end
open Go.Proofs Go.Proofs.Tryz
variable {E:LH}
variable {J:Judge Tryz.prog}
def f105(fu_:Nat)(p0:A8)(K:Int)(p2:Int):Option Int:= (f48 fu_ p0).bind λO=> if O≠0 then(some O) else((Ar ((p0.1.length:Int) - 1)).bind λU=> (f92 fu_ K 0 U).bind λY=> Option.bind (if(!Y)=true then(some true) else((Ar ((p0.1.length:Int) - 1)).bind λZ=> (f92 fu_ p2 0 Z).bind λac=> some (!ac))) λag=> if ag=true then(some 3) else(if K=p2 then(some 8) else(some 0)))
def Ms(fu_:Nat)(Y:Int)(p2:Int)(O:AO)(U:Int×Int)(K:Int×Int):Option (Bd (Int×Int) Int):= (ix O U.2).bind λZ=> if K.2<(Z.length:Int) then((ix O U.2).bind λac=> (ix ac K.2).bind λag=> Option.bind (if ag.1=Y then((ix O U.2).bind λal=> (ix al K.2).bind λam=> some (decide (am.2.1=p2))) else(some false)) λap=> Option.bind (if ap=true then((Ar (K.1+1)).bind λaq=> some aq) else(some K.1)) λav=> (Ar (K.2+1)).bind λaw=> some (.more (av,aw))) else(some (.done K.1))
def Qs(fu_:Nat)(U:Int)(p2:Int)(O:AO)(K:Int×Int):Option (Bd (Int×Int) Int):= if K.2<(O.length:Int) then(Option.bind (iter (Ms fu_ U p2 O K) fu_ (K.1,0)) λY=> (Ar (K.2+1)).bind λZ=> some (.more (Y,Z))) else(some (.done K.1))
def f93(fu_:Nat)(p0:Int)(K:Int):Option Int:= Option.bind (if p0=0 then(some (Sum.inl 2)) else(if p0<K then((Ar (1+1)).bind λO=> Option.bind (if p0<K then((Ar (O+1)).bind λU=> some U) else(some O)) λY=> some (Sum.inr Y)) else(Option.bind (if p0<K then((Ar (1+1)).bind λZ=> some Z) else(some 1)) λac=> some (Sum.inr ac)))) λag=>Sum.elim (λr=>some r) (λal=> some al) ag
theorem db{p0:Int}{U:Int}{fu_:Nat}{r:Int}(Y:f93 fu_ p0 U=some r):AP J 93 [iV p0,iV U] E [] (λw E' B'=>w=iV r/\B'= []):=by
 refine Bn func93 λQ cp cs H K Z=>?_;unfold f93 at Y;obtain⟨aw,ay,ac⟩:=bs Y;refine C 9 V (Br (λL s=>∃(O:Int) (ag:LH),aw=Sum.inr O/\Jm E H ag [] [(5,iV O)] L s) ?_ ?_)
 ·rintro _ _ ⟨O,ag,rfl,rfl,rfl,az,a0⟩;have a1:=elim_inr ac;refine C 5 V ?_;obtain rfl:=oi a1;exact AX func93 V V (Z az V ⟨V,V⟩ a0)
 ·intro al;refine C 15 V (AL ay (λa2 a3=>?_) (λa2 a4=>?_))
  ·refine C 6 V ?_;obtain rfl:=oi a3;have a5:=elim_inl ac;obtain rfl:=oi a5;exact AX func93 V V (Z Av V ⟨V,V⟩ K)
  ·refine C 8 V (AL a4 (λa6 a7=>?_) (λa6 a8=>?_))
   ·obtain⟨ct,a9,bb⟩:=bs a7;refine C 3 V (Bl a9 V V V ?_);obtain⟨am,be,bi⟩:=bs bb;refine C 10 V (CN [] [(4,iV 0),(5,iV am)] (λbn bo bv=>?_) (λap=>?_))
    ·exact JL.exit V (AB (al _ _ ⟨am,bn,(Option.some.inj bi).symm,V,V,bo,bv⟩) V)
    ·refine AL be (λbw bx=>?_) (λbw bz=>?_)
     ·obtain⟨cw,b0,b1⟩:=bs bx;refine C 2 V (Bl b0 V V V ?_);refine C 2 V ?_;obtain rfl:=oi b1;exact ap Av K V
     ·refine JL.skip ?_;obtain rfl:=oi bz;exact ap Av K V
   ·obtain⟨aq,b2,b3⟩:=bs a8;refine C 9 V (CN [] [(4,iV 0),(5,iV aq)] (λb4 b5 b6=>?_) (λav=>?_))
    ·exact JL.exit V (AB (al _ _ ⟨aq,b4,(Option.some.inj b3).symm,V,V,b5,b6⟩) V)
    ·refine AL b2 (λca cc=>?_) (λca ce=>?_)
     ·obtain⟨cy,ci,co⟩:=bs cc;refine C 2 V (Bl ci V V V ?_);refine C 2 V ?_;obtain rfl:=oi co;exact av Av K V
     ·refine JL.skip ?_;obtain rfl:=oi ce;exact av Av K V
def Lw(fu_:Nat)(Y:Int)(p2:Int)(O:Ay)(K:Int×Int):Option (Bd (Int×Int) Int):= if K.2<(O.length:Int) then((ix O K.2).bind λU=> Option.bind (if U.1=Y then(some (decide (U.2.1=p2))) else(some false)) λZ=> Option.bind (if Z=true then((Ar (K.1+1)).bind λac=> some ac) else(some K.1)) λag=> (Ar (K.2+1)).bind λal=> some (.more (ag,al))) else(some (.done K.1))
def KJ(fu_:Nat)(U:Int)(p2:Int)(O:AO)(K:Int×Int):Option (Bd (Int×Int) Int):= if K.2<(O.length:Int) then((ix O K.2).bind λY=> Option.bind (iter (Lw fu_ U p2 Y) fu_ (K.1,0)) λZ=> (Ar (K.2+1)).bind λac=> some (.more (Z,ac))) else(some (.done K.1))
def f50(fu_:Nat)(p0:A8)(O:Int)(p2:Int):Option (Int×Int):= (f70 fu_ p0 ([O,p2]:List Int)).bind λK=> if K.2≠0 then(some (0,K.2)) else((f71 fu_ K.1 0).bind λU=> Option.bind (iter (KJ fu_ O p2 U) fu_ (0,0)) λY=> (f93 fu_ Y (U.length:Int)).bind λZ=> some (Z,0))
theorem dt{a1:Ao}{c2:Nat}{a5:Ao}{a6:Nat}{p0:A8}{Y:Int}{p2:Int}(b3:An (rL rI) E a1 c2 p0.1)(b4:An Az E a5 a6 p0.2){fu_:Nat}{r:Int×Int}(a7:f50 fu_ p0 Y p2=some r):AP J 50 [.agg #[sV a1 p0.1 c2,sV a5 p0.2 a6],iV Y,iV p2] E [] (λw E' B'=>w= .tuple #[iV r.1,iV r.2]/\B'= []):=by
 refine Bn func50 λQ fj cs H b5 a8=>?_;unfold f50 at a7;refine C 2 V (DF b5 λfk fl am b6 ca=>?_);refine C 5 V (Cg b6 Fu De V V ?_);refine C 2 V (EN (pp:=rI) [iV Y,iV p2] [Y,p2] V V V underlying28 AA Cq (by decide) V V V ⟨V,V,trivial⟩ ca λfm fo cc ce=>?_);refine BW 2 cc ce V λfp ap ci co=>?_;obtain⟨fq,cp,ct⟩:=bs a7;refine BP (J4 (b3.Ah (am.Ad ap)) (b4.Ah (am.Ad ap)) ci cp) V V JI co ?_;rintro _ fs _ a9 ⟨fu,fv,fw,fx,rfl,rfl,cw,cy⟩ c0;refine C 3 V (B3 c0 Hi λfy c1=>?_);refine BQ 4 c1 Dt λc3=>?_;refine Du 4 c3 V λfz aq c4 bb=>C 8 V (AL ct (λc5 c6=>?_) (λc5 c7=>?_))
 ·refine C 6 V ?_;obtain rfl:=oi c6;exact AX func50 V V (a8 (((am.Ad ap).Ad a9).Ad aq) V ⟨V,V⟩ bb)
 ·refine C 3 V (Cg c4 FQ Dt V V ?_);obtain⟨K,c8,c9⟩:=bs c7;refine BP (OB (cw.Ah aq) (cy.Ah aq) c8) V V LZ bb ?_;rintro _ fA al dd ⟨O,U,_,rfl,rfl,dn⟩ ea;refine C 10 V (JL.ln underlying83 V V V ?_);obtain⟨eb,ec,ed⟩:=bs c9;refine C 2 V (CN [al] [(10,sV O K U),(11,iV eb)] (λfB ee ef=>?_) (λeg=>?_))
  ·refine C 4 V (JL.ln underlying83 V V V ?_);obtain⟨fC,ej,ek⟩:=bs ed;refine CH (db ej) V V (A6 func93 V) ef λfD el em=>C 3 V (JS.drop 0 em V λeo=>?_);obtain rfl:=oi ek;exact AX func50 V V (a8 ((((((am.Ad ap).Ad a9).Ad aq).Ad dd).Ad ee).Ad el) V ⟨V,V⟩ eo)
  ·refine JL.block (CO ec (λZ=> [al]) (λZ=> [(1,iV Y),(2,iV p2),(10,sV O K U),(11,iV Z.1),(29,sV O K U),(30,iV (K.length:Int)),(31,iV Z.2)]) Av ea ?_);rintro Z fE ay az er ⟨fF,a0⟩ eu;have be:=a0;unfold KJ at be;refine C 5 V (AL be (λew ex=>?_) (λew ey=>?_))
   ·obtain⟨ac,ez,eA⟩:=bs ex;refine C 5 V (Hn 0 (dn.Ah ay) ez V V V V V V underlying83 Bg ?_);rintro fG fH f95 _ eB ⟨av,aw,rfl,eC⟩ eD fI fJ fK fL;refine Am (v:= sV av ac aw) V (λρ h=>Yl.load Bx (h _ _ V) (BL (j:=0) az eB (eD 0 _ V))) (C 5 V ?_);refine JL.ln underlying80 V V V ?_;obtain⟨bi,eE,eF⟩:=bs eA;refine C 2 V (CN [al] [(1,iV Y),(2,iV p2),(10,sV O K U),(11,iV bi),(29,sV O K U),(30,iV (K.length:Int)),(31,iV Z.2)] (λfM eG eH=>?_) (λeI=>?_))
    ·obtain⟨eJ,eK,eL⟩:=bs eF;refine C 2 V (Bl eK V V V ?_);refine C 2 V ?_;obtain rfl:=oi eL;exact eu (bi,eJ) (ay.Ad eG) eH V a0
    ·refine JL.block (CO eE (λag=> [al]) (λag=> [(1,iV Y),(2,iV p2),(10,sV O K U),(11,iV ag.1),(29,sV O K U),(30,iV (K.length:Int)),(31,iV Z.2),(35,sV av ac aw),(36,iV (ac.length:Int)),(37,iV ag.2)]) Av az ?_);rintro ag fN a2 bn eM ⟨fO,a3⟩ eN;have bo:=a3;unfold Lw at bo;refine C 5 V (AL bo (λeO eP=>?_) (λeO eQ=>?_))
     ·obtain⟨fP,eR,eS⟩:=bs eP;refine C 5 V (JS.ix (eC.Ah a2) eR underlying80 A0 ?_);rintro fQ fR _ ⟨_,_,rfl,rfl,⟨_,_,rfl,rfl,rfl⟩⟩ eT;refine Cg eT DU A0 V V (B3 bn BF λfS eU=>?_);refine BQ 1 eU A0 λeV=>?_;refine Du 1 eV V λa4 eW bv bw=>C 3 V (B5 0 bv underlying27 AA AY ?_);obtain⟨eX,eY,eZ⟩:=bs eS;refine C 3 V (Gl [] (λL s=>∃(bx:LH),Jm a4 H bx [al] [(1,iV Y),(2,iV p2),(10,sV O K U),(11,iV ag.1),(29,sV O K U),(30,iV (K.length:Int)),(31,iV Z.2),(35,sV av ac aw),(36,iV (ac.length:Int)),(37,iV ag.2),(50,.bool eX)] L s) ?_ ?_)
      ·rintro _ _ ⟨bx,rfl,rfl,e0,bz⟩;obtain⟨b0,e1,e3⟩:=bs eZ;refine JL.done (CN [al] [(1,iV Y),(2,iV p2),(10,sV O K U),(11,iV b0),(29,sV O K U),(30,iV (K.length:Int)),(31,iV Z.2),(35,sV av ac aw),(36,iV (ac.length:Int)),(37,iV ag.2)] (λfT e4 e5=>?_) (λb1=>?_))
       ·obtain⟨e6,e7,e8⟩:=bs e3;refine C 2 V (Bl e7 V V V ?_);refine C 2 V ?_;obtain rfl:=oi e8;exact eN (b0,e6) (((a2.Ad eW).Ad e0).Ad e4) e5 V a3
       ·refine Ck e1 (λe9 fa=>?_) (λe9 fb=>?_)
        ·obtain⟨fU,fc,fe⟩:=bs fa;refine C 2 V (Bl fc V V V ?_);refine C 2 V ?_;obtain rfl:=oi fe;exact b1 Av bz V
        ·refine JL.skip ?_;obtain rfl:=oi fb;exact b1 Av bz V
      ·intro b2;refine FJ 45 eY (λff fg=>?_) (λff fh=>?_)
       ·refine B5 1 bv underlying27 AA AY ?_;refine C 3 V ?_;obtain rfl:=oi fg;exact AB (b2 _ _ ⟨a4,V,V,Av,bw⟩) V
       ·refine C 5 V ?_;obtain rfl:=oi fh;exact AB (b2 _ _ ⟨a4,V,V,Av,bw⟩) V
     ·refine JL.exit V ?_;obtain rfl:=oi eQ;obtain rfl:=eM _ a3;exact eI a2 bn V
   ·refine JL.exit V ?_;obtain rfl:=oi ey;obtain rfl:=er _ a0;exact eg ay az V
def f58(fu_:Nat)(p0:A8)(O:Int)(p2:Int):Option (Int×Int):= (f70 fu_ p0 ([O,p2]:List Int)).bind λK=> if K.2≠0 then(some (0,K.2)) else((f106 fu_ O p2).bind λY=> (f71 fu_ K.1 Y).bind λU=> if((U.length:Nat):Int)=0 then(some (0,11)) else((ix U (0)).bind λZ=> some ((Z.length:Int),0)))
theorem cF{a1:Ao}{c2:Nat}{am:Ao}{ap:Nat}{p0:A8}{K:Int}{p2:Int}(a0:An (rL rI) E a1 c2 p0.1)(a2:An Az E am ap p0.2){fu_:Nat}{r:Int×Int}(aq:f58 fu_ p0 K p2=some r):AP J 58 [.agg #[sV a1 p0.1 c2,sV am p0.2 ap],iV K,iV p2] E [] (λw E' B'=>w= .tuple #[iV r.1,iV r.2]/\B'= []):=by
 refine Bn func58 λQ c6 cs H a3 ac=>?_;unfold f58 at aq;refine C 2 V (DF a3 λc7 c8 O a4 a5=>?_);refine C 5 V (Cg a4 Fu De V V ?_);refine C 2 V (EN (pp:=rI) [iV K,iV p2] [K,p2] V V V underlying28 AA Cq (by decide) V V V ⟨V,V,trivial⟩ a5 λc9 dd a6 a7=>?_);refine BW 2 a6 a7 V λdn U a8 a9=>?_;obtain⟨ea,bb,be⟩:=bs aq;refine BP (J4 (a0.Ah (O.Ad U)) (a2.Ah (O.Ad U)) a8 bb) V V JI a9 ?_;rintro _ eb _ ag ⟨ec,ed,ee,ef,rfl,rfl,bi,bn⟩ bo;refine C 3 V (B3 bo Hi λeg bv=>?_);refine BQ 4 bv Dt λbw=>?_;refine Du 4 bw V λej Y bx av=>C 8 V (AL be (λbz b0=>?_) (λbz b1=>?_))
 ·refine C 6 V ?_;obtain rfl:=oi b0;exact AX func58 V V (ac (((O.Ad U).Ad ag).Ad Y) V ⟨V,V⟩ av)
 ·refine C 2 V (DY 4 λaw=>?_);refine Jq 0 aw bx FQ Dt V V V (AR aw V [1,2] V ?_);obtain⟨ek,b2,b3⟩:=bs b1;refine JG.call (i:=3) (vs:= [iV K,iV p2]) (Ul b2) (by decide+kernel) V V V (A6 func106 V) V av ?_;rintro _ el _ Z ⟨rfl,rfl⟩ b4;refine C4 [4,5] ?_;obtain⟨b5,b6,ca⟩:=bs b3;refine BP (UK (bi.Ah (Y.Ad Z)) (bn.Ah (Y.Ad Z)) b6) V V LZ b4 ?_;rintro _ em eo ay ⟨er,eu,_,rfl,rfl,az,cc⟩ al;refine C 6 V (Am (v:= .bool (decide (((b5.length:Nat):Int)=0))) V (λρ h=>We az cc underlying83 (h _ _ V) (h _ _ V)) ?_);refine JL.done (AL ca (λce ci=>?_) (λce co=>?_))
  ·refine C 5 V (JS.drop 6 al V λcp=>?_);obtain rfl:=oi ci;exact AX func58 V V (ac (((((O.Ad U).Ad ag).Ad Y).Ad Z).Ad ay) V ⟨V,V⟩ cp)
  ·obtain⟨ct,cw,cy⟩:=bs co;refine C 4 V (Hn 6 az cw V V V V V V underlying83 Bg ?_);rintro ew ex f75 _ c0 ⟨c1,c3,rfl,ey⟩ c4 ez eA eB eC;refine Am (v:= sV c1 ct c3) V (λρ h=>Yl.load Bx (h _ _ V) (BL (j:=6) al c0 (c4 0 _ V))) (JL.ln underlying80 V V V ?_);refine C 3 V (JS.drop 6 al V λc5=>?_);obtain rfl:=oi cy;exact AX func58 V V (ac (((((O.Ad U).Ad ag).Ad Y).Ad Z).Ad ay) V ⟨V,V⟩ c5)
variable {J:Judge Tryz.prog}
def N8(fu_:Nat)(p0:Ay)(K:(List Int)×Int):Option (Bd ((List Int)×Int) ((List Int))):= if K.2<(p0.length:Int) then((ix p0 K.2).bind λO=> (ix p0 K.2).bind λU=> (ix p0 K.2).bind λY=> (DD K.1 ([O.1,U.2.1,Y.2.2]:List Int)).bind λZ=> (Ar (K.2+1)).bind λac=> some (.more (Z,ac))) else(some (.done K.1))
def f62(fu_:Nat)(p0:Ay):Option ((List Int)):= Option.bind (iter (N8 fu_ p0) fu_ ([],0)) λK=> some K
theorem UU{a1:Ao}{c2:Nat}{p0:Ay}(ap:An Az E a1 c2 p0){fu_:Nat}{r:(List Int)}(ay:f62 fu_ p0=some r):AP J 62 [sV a1 p0 c2] E [] (λw E' B'=>∃(az:Ao) (a0:Nat),w= sV az r a0/\B'= []/\An rI E' az a0 r):=by
 refine Bn func62 λQ ef cs H bb be=>?_;unfold f62 at ay;obtain⟨a2,bi,bn⟩:=bs ay;refine C 13 V (Br (λL s=>∃(aq:LH) (U:Ao) (Y:Nat) (av:Seg),Jn E H aq [av] [(3,sV U a2 Y)] L s (OL 3 rI aq U Y av a2)) ?_ ?_)
 ·rintro _ _ ⟨aq,U,Y,av,rfl,rfl,bo,bv,bw⟩;refine C 5 V (BW 0 bw bv V λeg bx bz b0=>?_);obtain rfl:=oi bn;exact AX func62 V V (be (bo.Ad bx) V ⟨U,Y,V,V,bz⟩ b0)
 ·intro b1;refine JL.block (CG bi (λL s Z=>∃(ac:LH) (ag:Ao) (al:Nat) (am:Seg),Jn E H ac [am] [(0,sV a1 p0 c2),(3,sV ag Z.1 al),(4,iV Z.2)] L s (OL 3 rI ac ag al am Z.1)) ⟨E,none,0,[],V,V,Av,bb,OL.nil⟩ ?_);rintro _ _ Z ⟨ac,ag,al,am,rfl,rfl,O,a3,a4⟩ b2 ⟨ej,aw⟩ b3;have a5:=aw;unfold N8 at a5;refine C 5 V (JL.ln underlying23 V V V ?_);refine C 2 V (AL a5 (λb4 b5=>?_) (λb4 b6=>?_))
  ·refine C 3 V (DY 17 λK=>?_);refine AR K V [0,1,2] V ?_;obtain⟨a6,ca,cc⟩:=bs b5;refine Di 3 (ap.Ah O) ca K underlying23 A0 ?_;rintro ek el _ ⟨_,_,rfl,rfl,⟨_,_,rfl,rfl,rfl⟩⟩ ce;refine JG.fd 4 K underlying27 AA V V V V (CP 5 K 0 ce AY V V V V ?_);refine AR K V [6,7] V ?_;obtain⟨a7,ci,co⟩:=bs cc;refine Di 8 (ap.Ah O) ci K underlying23 A0 ?_;rintro em eo _ ⟨_,_,rfl,rfl,⟨_,_,rfl,rfl,rfl⟩⟩ cp;refine JG.fd 9 K underlying27 AA V V V V (CP 10 K 1 cp AY V V V V ?_);refine AR K V [11,12] V ?_;obtain⟨a8,ct,cw⟩:=bs co;refine Di 13 (ap.Ah O) ct K underlying23 A0 ?_;rintro er eu _ ⟨_,_,rfl,rfl,⟨_,_,rfl,rfl,rfl⟩⟩ cy;refine JG.fd 14 K underlying27 AA V V V V (CP 15 K 2 cy AY V V V V ?_);refine JG.one (i:=16) V (by decide+kernel) (Take.EP (pp:=rI) [iV a6.1,iV a7.2.1,iV a8.2.2] ([a6.1,a7.2.1,a8.2.2]:List Int) a3 V V V underlying28 AA Cq (by decide) V V V ⟨V,V,V,trivial⟩ λew ex c0 c1=>?_);refine C4 [17,18] (BW 1 c0 c1 V λc3 a9 c4 c5=>?_);obtain⟨c6,c7,c8⟩:=bs cw;refine Iq (pp:=rI) 0 c7 V V V V V V V underlying28 underlying28 AA (DW type3) Cq V (by decide) (by decide) (a4.Ah a9) c4 c5 V λc9 dd dn ea eb=>?_;obtain⟨ec,ed,ee⟩:=bs c8;refine C 5 V (Bl ed V V V ?_);refine C 2 V ?_;obtain rfl:=oi ee;exact AB (b3 _ _ (c6,ec) ⟨c3,c9,dd,dn,V,V,(O.Ad a9),eb,ea⟩ aw) V
  ·refine JL.exit V ?_;obtain rfl:=oi b6;obtain rfl:=b2 _ aw;exact AB (b1 _ _ ⟨ac,ag,al,am,V,V,O,a3,a4⟩) V
def NW(fu_:Nat)(p0:List Int)(O:List Int)(K:Int):Option (Bd Int ((Bool)⊕(Unit))):= if K<(O.length:Int) then(if K=(p0.length:Int) then(some (.done (Sum.inl true))) else((ix p0 K).bind λU=> (ix O K).bind λY=> if U≠Y then((ix p0 K).bind λZ=> (ix O K).bind λac=> some (.done (Sum.inl (decide (Z<ac))))) else((Ar (K+1)).bind λag=> some (.more ag)))) else(some (.done (Sum.inr ())))
def f61(fu_:Nat)(p0:List Int)(K:List Int):Option Bool:= Option.bind (iter (NW fu_ p0 K) fu_ 0) λO=> Sum.elim (λr=>some r) (λU=> some false) O
theorem dC{a1:Ao}{c2:Nat}{ac:Ao}{ag:Nat}{p0:List Int}{Y:List Int}(av:An rI E a1 c2 p0)(aw:An rI E ac ag Y){fu_:Nat}{r:Bool}(ay:f61 fu_ p0 Y=some r):AP J 61 [sV a1 p0 c2,sV ac Y ag] E [] (λw E' B'=>w= .bool r/\B'= []):=by
 refine Bn func61 λQ c5 cs H a4 al=>?_;unfold f61 at ay;obtain⟨az,a5,am⟩:=bs ay;refine C 9 V (Br (λL s=>∃(a0:Unit) (a2:LH),az=Sum.inr a0/\Jm E H a2 [] [] L s) ?_ ?_)
 ·rintro _ _ ⟨a0,a2,rfl,rfl,rfl,a6,a7⟩;have a8:=elim_inr am;refine C 4 V ?_;obtain rfl:=oi a8;exact AX func61 V V (al a6 V ⟨V,V⟩ a7)
 ·intro a9;refine JL.block (CO a5 (λap=> []) (λap=> [(0,sV a1 p0 c2),(1,sV ac Y ag),(5,iV ap)]) Av a4 ?_);rintro ap bb O Z aq ⟨c6,U⟩ be;have a3:=U;unfold NW at a3;refine C 5 V (JL.ln underlying28 V V V ?_);refine C 2 V (AL a3 (λbi bn=>?_) (λbi bo=>?_))
  ·refine C 8 V (JL.ln underlying28 V V V ?_);refine C 2 V (AL bn (λbv bw=>?_) (λbv bx=>?_))
   ·refine C 4 V ?_;obtain rfl:=oi bw;obtain rfl:=aq _ U;have bz:=elim_inl am;obtain rfl:=oi bz;exact AX func61 V V (al O V ⟨V,V⟩ Z)
   ·refine C 2 V (DY 8 λK=>?_);refine AR K V [0,1] V ?_;obtain⟨c7,b0,b1⟩:=bs bx;refine Di 2 (av.Ah O) b0 K underlying28 AA ?_;rintro c8 c9 _ rfl b2;refine CP 3 K 0 b2 AY V V V V (AR K V [4,5] V ?_);obtain⟨dd,b3,b4⟩:=bs b1;refine Di 6 (aw.Ah O) b3 K underlying28 AA ?_;rintro dn ea _ rfl b5;refine CP 7 K 0 b5 AY V V V V (C4 [8] ?_);refine C 2 V (AL b4 (λb6 ca=>?_) (λb6 cc=>?_))
    ·refine JL.seq (DY 8 λK=>?_);refine AR K V [0,1] V ?_;obtain⟨eb,ce,ci⟩:=bs ca;refine Di 2 (av.Ah O) ce K underlying28 AA ?_;rintro ec ed _ rfl co;refine CP 3 K 0 co AY V V V V (AR K V [4,5] V ?_);obtain⟨ee,cp,ct⟩:=bs ci;refine Di 6 (aw.Ah O) cp K underlying28 AA ?_;rintro ef eg _ rfl cw;refine CP 7 K 0 cw AY V V V V (C4 [8,9] ?_);refine C 3 V ?_;obtain rfl:=oi ct;obtain rfl:=aq _ U;have cy:=elim_inl am;obtain rfl:=oi cy;exact AX func61 V V (al O V ⟨V,V⟩ Z)
    ·obtain⟨c0,c1,c3⟩:=bs cc;refine C 4 V (Bl c1 V V V ?_);refine C 2 V ?_;obtain rfl:=oi c3;exact be c0 O Z V U
  ·refine JL.exit V ?_;obtain rfl:=oi bo;have c4:az=(Sum.inr ()):=(aq _ U).symm;exact AB (a9 _ _ ⟨(),bb,c4,V,V,O,Z⟩) V
def Mo(fu_:Nat)(K:(List Int)×Int×Nat×Ay×Int):Option (Bd ((List Int)×Int×Nat×Ay×Int) ((List Int)×Int×Nat×Ay)):= if 0<K.2.2.2.2 then((f40 fu_ (K.1,K.2.1,K.2.2.1) 3).bind λO=> (DD K.2.2.2.1 ([O.1]:Ay)).bind λU=> (Ar (K.2.2.2.2 - 1)).bind λY=> some (.more (O.2.1,O.2.2.1,O.2.2.2,U,Y))) else(some (.done (K.1,K.2.1,K.2.2.1,K.2.2.2.1)))
def Mp(fu_:Nat)(O:AO)(K:Int×Int):Option (Bd (Int×Int) Int):= if K.2<(O.length:Int) then((ix O K.2).bind λU=> (ix O K.1).bind λY=> (f62 fu_ U).bind λZ=> (f62 fu_ Y).bind λac=> (f61 fu_ Z ac).bind λag=> Option.bind (if ag=true then(some K.2) else(some K.1)) λal=> (Ar (K.2+1)).bind λam=> some (.more (al,am))) else(some (.done K.1))
def TV(fu_:Nat)(O:AO)(Y:Int)(Z:Int)(U:Int×Int)(K:Int×Int):Option (Bd (Int×Int) Int):= (ix O U.2).bind λac=> if K.2<(ac.length:Int) then((ix O U.2).bind λag=> (ix ag K.2).bind λal=> Option.bind (if al.1=Y then((ix O U.2).bind λam=> (ix am K.2).bind λap=> some (decide (ap.2.1=Z))) else(some false)) λaq=> Option.bind (if aq=true then((Ar (K.1+1)).bind λav=> some av) else(some K.1)) λaw=> (Ar (K.2+1)).bind λay=> some (.more (aw,ay))) else(some (.done K.1))
def Qm(fu_:Nat)(O:AO)(U:Int)(Y:Int)(K:Int×Int):Option (Bd (Int×Int) Int):= if K.2<(O.length:Int) then(Option.bind (iter (TV fu_ O U Y K) fu_ (K.1,0)) λZ=> (Ar (K.2+1)).bind λac=> some (.more (Z,ac))) else(some (.done K.1))
def N4(fu_:Nat)(U:(List Int)×Int×Nat×Ay)(Y:AO)(O:Int)(K:Int):Option (Bd Int ((Bool)⊕(Unit))):= if K<3 then(Option.bind (if O=K then(some (Sum.inr ())) else(Option.bind (iter (Qm fu_ Y O K) fu_ (0,0)) λZ=> Option.bind (if Z=0 then(some 2) else(Option.bind (if Z=(Y.length:Int) then(some 1) else(some 3)) λal=> some al)) λam=> (f50 fu_ (([([1]:List Int),[],([2]:List Int)]:Bf),U.2.2.2) O K).bind λac=> (f58 fu_ (([([1]:List Int),[],([2]:List Int)]:Bf),U.2.2.2) O K).bind λag=> Option.bind (if ac.2≠0 then(some true) else(some (decide (ag.2≠0)))) λap=> Option.bind (if ap=true then(some true) else(some (decide (ac.1≠am)))) λaq=> Option.bind (if aq=true then(some true) else((f55 fu_ (([([1]:List Int),[],([2]:List Int)]:Bf),U.2.2.2)).bind λav=> (f60 fu_ av O K).bind λaw=> (ix aw (0)).bind λay=> some (decide (ag.1≠(ay.length:Int))))) λaz=> if az=true then(some (Sum.inl false)) else(some (Sum.inr ())))) λa0=>Sum.elim (λr=>some (.done (Sum.inl r))) (λa2=> (Ar (K+1)).bind λa1=> some (.more a1)) a0) else(some (.done (Sum.inr ())))
def N2(fu_:Nat)(O:(List Int)×Int×Nat×Ay)(U:AO)(K:Int):Option (Bd Int ((Bool)⊕(Unit))):= if K<3 then(Option.bind (iter (N4 fu_ O U K) fu_ 0) λY=> Sum.elim (λr=>some (.done (Sum.inl r))) (λac=> (Ar (K+1)).bind λZ=> some (.more Z)) Y) else(some (.done (Sum.inr ())))
def f15(fu_:Nat)(p0:List Int):Option Bool:= (f20 fu_ p0).bind λac=> (f36 fu_ ac 6).bind λK=> Option.bind (iter (Mo fu_) fu_ (K.2.1,K.2.2.1,K.2.2.2,[],K.1)) λO=> (f55 fu_ (([([1]:List Int),[],([2]:List Int)]:Bf),O.2.2.2)).bind λag=> (f60 fu_ ag 0 0).bind λU=> (f22 fu_ (([([1]:List Int),[],([2]:List Int)]:Bf),O.2.2.2)).bind λY=> (f24 fu_ (([([1]:List Int),[],([2]:List Int)]:Bf),O.2.2.2)).bind λZ=> Option.bind (iter (Mp fu_ U) fu_ (0,0)) λal=> Option.bind (if Y.2≠0 then(some true) else(some (decide (Z.2≠0)))) λam=> Option.bind (if am=true then(some true) else(some (decide (Z.1≠(U.length:Int))))) λap=> Option.bind (if ap=true then(some true) else((ix U al).bind λaq=> (f26 fu_ Y.1 aq).bind λav=> some (!av))) λaw=> if aw=true then(some false) else(Option.bind (iter (N2 fu_ O U) fu_ 0) λay=> Sum.elim (λr=>some r) (λa0=> (f18 fu_).bind λaz=> some az) ay)
theorem Ze{E H:LH}{a1:Ao}{c2:Nat}{p0:List Int}(fL:An rI E a1 c2 p0){fu_:Nat}{r:Bool}(eC:f15 fu_ p0=some r):(G0 Tryz.prog).ok (Mh Tryz.prog (λv _=>v= .bool r)) (G (Frame.enter Tryz.prog 15 ([sV a1 p0 c2]:Lv_).toArray .normal) []) (mk E H []):=by
 refine Xx func15 V V (Nat.le_of_ble_eq_true V) ?_;have fM:Aq E H [[]]:=trivial;unfold f15 at eC;obtain⟨lU,fN,fO⟩:=bs eC;refine C 7 V (BP (cV fL fN) V V (A6 func20 V) fM ?_);rintro _ lV _ lW ⟨ce,lX,lY,rfl,rfl,fP⟩ fQ;refine C 4 V (EN (pp:=rI) [iV 1] [1] V V V underlying28 AA Cq (by decide) V V V ⟨V,trivial⟩ fQ λfR lZ fS fT=>?_);refine EN (pp:=rI) [iV 2] [2] V V V underlying28 AA Cq (by decide) V V V ⟨V,trivial⟩ fT λfU l3 fW fX=>BW 2 fS fX V λl4 eD fY fZ=>BW 3 (fW.Ah eD) fZ V λl5 eE ga gb=>EN (pp:=(rL rI)) [.slice (AM fR) (([1]:List Int)).length 1,nS,.slice (AM fU) (([2]:List Int)).length 1] [([1]:List Int),[],([2]:List Int)] V V V underlying22 GW L2 (by decide) V V V ⟨⟨_,_,V,(fY.Ah eE)⟩,⟨_,_,V,An.nil⟩,⟨_,_,V,ga⟩,trivial⟩ gb λc9 eF gc gd=>Am (v:= .agg #[.slice (AM c9) (([([1]:List Int),[],([2]:List Int)]:Bf)).length 3,nS]) V (λρ h=>Dh [(0,1),(1,1)] h Ks underlying25 ⟨V,AV type22,V,AV type23,trivial⟩ V V) (B3 gd Ks λK ge=>?_);refine BQ 5 ge De λgf=>?_;obtain⟨l6,gg,gh⟩:=bs fO;refine C 5 V (Db 1 (Ou (fP.Ah (eD.Ad eE)) gg) V V MY gf V ?_);rintro _ dd _ gi ⟨gj,gk,rfl,rfl,gl⟩ gm;obtain⟨a7,gn,gp⟩:=bs gh;refine C 2 V (Br (λL s=>∃(ci:LH) (eG:Ao) (eH:Nat) (dn:Ao) (ea:Nat) (eb:Seg),Jn dd H ci [eF,bX K #[.slice (AM c9) (([([1]:List Int),[],([2]:List Int)]:Bf)).length 3,sV dn a7.2.2.2 ea] 25,eb] [(4,Ak K 0)] L s (An rI ci eG eH a7.1/\OL 27 Az ci dn ea eb a7.2.2.2)) ?_ ?_)
 ·rintro _ _ ⟨ci,eG,eH,dn,ea,eb,rfl,rfl,gq,gr,l7,gt⟩;refine JL.seq (BW 0 (gc.Ah (gi.Ad gq)) gr V λl8 gu bw gv=>?_);refine BW 2 (gt.Ah gu) gv V λl9 bx bz gw=>Du 1 gw V λma a2 b0 gx=>JL.region (Cg b0 Fu De V V ?_);obtain⟨mb,gy,gz⟩:=bs gp;refine BP (U0 (p0:=(([([1]:List Int),[],([2]:List Int)]:Bf),a7.2.2.2)) (bw.Ah (bx.Ad a2)) (bz.Ah a2) gy) V V (A6 func55 V) gx ?_;rintro _ mc _ am ⟨md,me,rfl,rfl,gA⟩ gB;obtain⟨O,gC,gD⟩:=bs gz;refine BP (UM gA gC) V V (A6 func60 V) gB ?_;rintro _ mf _ ap ⟨U,Y,rfl,rfl,b1⟩ gE;refine C 4 V (Cg (b0.Ah (am.Ad ap)) Fu De V V ?_);obtain⟨a9,gF,gG⟩:=bs gD;refine BP (U6 (p0:=(([([1]:List Int),[],([2]:List Int)]:Bf),a7.2.2.2)) (bw.Ah (((bx.Ad a2).Ad am).Ad ap)) (bz.Ah ((a2.Ad am).Ad ap)) gF) V V (A6 func22 V) gE ?_;rintro _ mg _ ac ⟨b2,b3,rfl,rfl,gH⟩ gI;refine C 8 V (Cg (b0.Ah ((am.Ad ap).Ad ac)) Fu De V V ?_);obtain⟨be,gJ,gK⟩:=bs gG;refine CH (US (p0:=(([([1]:List Int),[],([2]:List Int)]:Bf),a7.2.2.2)) (bw.Ah ((((bx.Ad a2).Ad am).Ad ap).Ad ac)) (bz.Ah (((a2.Ad am).Ad ap).Ad ac)) gJ) V V (A6 func24 V) gI λmh al gL=>?_;obtain⟨ec,gM,gO⟩:=bs gK;refine C 15 V (CN [] [(4,Ak K 0),(6,sV U O Y),(7,sV b2 a9.1 b3),(8,iV a9.2),(9,iV be.1),(10,iV be.2),(11,iV ec)] (λmi av eI=>?_) (λgP=>?_))
  ·obtain⟨gQ,gR,gS⟩:=bs gO;refine C 6 V (Fy 6 15 [] [(4,Ak K 0),(6,sV U O Y),(7,sV b2 a9.1 b3),(9,iV be.1),(11,iV ec),(78,.bool gQ)] (λmj aw eJ=>?_) (λeK=>?_))
   ·obtain⟨gT,gU,gV⟩:=bs gS;refine C 1 V (Fy 12 9 [] [(4,Ak K 0),(6,sV U O Y),(7,sV b2 a9.1 b3),(11,iV ec),(84,.bool gT)] (λeL ay eM=>?_) (λeN=>?_))
    ·obtain⟨gW,gX,gY⟩:=bs gV;refine C 1 V (Gl [] (λL s=>∃(ed:LH),Jm eL H ed [] [(4,Ak K 0),(6,sV U O Y),(93,.bool gW)] L s) ?_ ?_)
     ·rintro _ _ ⟨ed,rfl,rfl,a3,gZ⟩;refine JL.done (Ck gY (λg0 g1=>?_) (λg0 g3=>?_))
      ·refine C 4 V ?_;obtain rfl:=oi g1;exact Ij V (JO.end (v:= .bool false) V (by decide+kernel) func15 V V V)
      ·obtain⟨eO,g4,eP⟩:=bs g3;refine C 6 V (Br (λL s=>∃(eQ:Unit) (eR:LH),eO=Sum.inr eQ/\Jm ed H eR [] [] L s) ?_ ?_)
       ·rintro _ _ ⟨eQ,eR,rfl,rfl,rfl,ml,g5⟩;have g6:=elim_inr eP;obtain⟨g7,g8,g9⟩:=bs g6;refine C 2 V (CH (cT g8) V V (A6 func18 V) g5 λmo mp mq=>?_);refine C 2 V ?_;obtain rfl:=oi g9;exact Ij V (JO.end (v:= .bool g7) V (by decide+kernel) func15 V V V)
       ·intro ha;refine JL.block (CO g4 (λag=> []) (λag=> [(4,Ak K 0),(6,sV U O Y),(13,iV ag)]) Av gZ ?_);rintro ag eS az eT eU ⟨mr,co⟩ hb;have eV:=co;unfold N2 at eV;refine C 6 V (AL eV (λhd he=>?_) (λhd hf=>?_))
        ·obtain⟨eW,hg,eX⟩:=bs he;refine C 7 V (Br (λL s=>∃(eY:Unit) (eZ:LH),eW=Sum.inr eY/\Jm eS H eZ [] [(4,Ak K 0),(6,sV U O Y),(13,iV ag)] L s) ?_ ?_)
         ·rintro _ _ ⟨eY,eZ,rfl,rfl,rfl,hj,hk⟩;have hl:=elim_inr eX;obtain⟨hm,hn,ho⟩:=bs hl;refine C 3 V (Bl hn V V V ?_);refine C 2 V ?_;obtain rfl:=oi ho;exact hb hm (az.Ad hj) hk V co
         ·intro hp;refine JL.block (CO hg (λaq=> []) (λaq=> [(4,Ak K 0),(6,sV U O Y),(13,iV ag),(14,iV aq)]) Av eT ?_);rintro aq ee a0 ef e0 ⟨ms,cp⟩ hq;have e1:=cp;unfold N4 at e1;refine C 6 V (AL e1 (λhr hs=>?_) (λhr ht=>?_))
          ·obtain⟨hu,hv,e3⟩:=bs hs;refine C 2 V (Br (λL s=>∃(e4:Unit) (e5:LH),hu=Sum.inr e4/\Jm ee H e5 [] [(4,Ak K 0),(6,sV U O Y),(13,iV ag),(14,iV aq)] L s) ?_ ?_)
           ·rintro _ _ ⟨e4,e5,rfl,rfl,rfl,hw,hx⟩;have hy:=elim_inr e3;obtain⟨hz,hA,hB⟩:=bs hy;refine C 2 V (Bl hA V V V ?_);refine C 2 V ?_;obtain rfl:=oi hB;exact hq hz (a0.Ad hw) hx V cp
           ·intro e6;refine C 8 V (AL hv (λhC hD=>?_) (λhC hE=>?_))
            ·exact JL.exit V (AB (e6 _ _ ⟨(),ee,(Option.some.inj hD).symm,V,V,Av,ef⟩) V)
            ·obtain⟨hF,hG,hH⟩:=bs hE;refine C 10 V (CN [] [(4,Ak K 0),(6,sV U O Y),(13,iV ag),(14,iV aq),(15,iV hF)] (λmv a5 eg=>?_) (λhI=>?_))
             ·obtain⟨e7,hJ,hK⟩:=bs hH;refine C 10 V (CN [] [(4,Ak K 0),(6,sV U O Y),(13,iV ag),(14,iV aq),(18,iV e7)] (λmw a6 hL=>?_) (λe8=>?_))
              ·refine C 2 V (Cg (b0.Ah (((((((((((am.Ad ap).Ad ac).Ad al).Ad av).Ad aw).Ad ay).Ad a3).Ad az).Ad a0).Ad a5).Ad a6)) Fu De V V ?_);obtain⟨hM,hN,hO⟩:=bs hK;refine C 2 V (CH (dt (p0:=(([([1]:List Int),[],([2]:List Int)]:Bf),a7.2.2.2)) (bw.Ah (((((((((((((bx.Ad a2).Ad am).Ad ap).Ad ac).Ad al).Ad av).Ad aw).Ad ay).Ad a3).Ad az).Ad a0).Ad a5).Ad a6)) (bz.Ah ((((((((((((a2.Ad am).Ad ap).Ad ac).Ad al).Ad av).Ad aw).Ad ay).Ad a3).Ad az).Ad a0).Ad a5).Ad a6)) hN) V V (A6 func50 V) hL λmy bi hP=>?_);refine C 8 V (Cg (b0.Ah ((((((((((((am.Ad ap).Ad ac).Ad al).Ad av).Ad aw).Ad ay).Ad a3).Ad az).Ad a0).Ad a5).Ad a6).Ad bi)) Fu De V V ?_);obtain⟨e9,hQ,hR⟩:=bs hO;refine C 2 V (CH (cF (p0:=(([([1]:List Int),[],([2]:List Int)]:Bf),a7.2.2.2)) (bw.Ah ((((((((((((((bx.Ad a2).Ad am).Ad ap).Ad ac).Ad al).Ad av).Ad aw).Ad ay).Ad a3).Ad az).Ad a0).Ad a5).Ad a6).Ad bi)) (bz.Ah (((((((((((((a2.Ad am).Ad ap).Ad ac).Ad al).Ad av).Ad aw).Ad ay).Ad a3).Ad az).Ad a0).Ad a5).Ad a6).Ad bi)) hQ) V V (A6 func58 V) hP λmz ct fa=>?_);obtain⟨hS,hT,hU⟩:=bs hR;refine C 11 V (Fy 6 17 [] [(4,Ak K 0),(6,sV U O Y),(13,iV ag),(14,iV aq),(18,iV e7),(19,iV hM.1),(21,iV e9.1),(169,.bool hS)] (λmB cw fb=>?_) (λfc=>?_))
               ·obtain⟨hV,hW,hX⟩:=bs hU;refine C 1 V (Fy 11 12 [] [(4,Ak K 0),(6,sV U O Y),(13,iV ag),(14,iV aq),(21,iV e9.1),(174,.bool hV)] (λfe cy ff=>?_) (λfg=>?_))
                ·obtain⟨hY,hZ,h0⟩:=bs hX;refine C 1 V (Gl [] (λL s=>∃(ej:LH),Jm fe H ej [] [(4,Ak K 0),(6,sV U O Y),(13,iV ag),(14,iV aq),(186,.bool hY)] L s) ?_ ?_)
                 ·rintro _ _ ⟨ej,rfl,rfl,h1,h2⟩;refine JL.done (Ck h0 (λh3 h4=>?_) (λh3 h5=>?_))
                  ·refine C 4 V ?_;obtain rfl:=oi h4;have h6:=elim_inl e3;obtain rfl:=oi h6;obtain rfl:=e0 _ cp;have h7:=elim_inl eX;obtain rfl:=oi h7;obtain rfl:=eU _ co;have h8:=elim_inl eP;obtain rfl:=oi h8;exact Ij V (JO.end (v:= .bool false) V (by decide+kernel) func15 V V V)
                  ·exact C 2 V (AB (e6 _ _ ⟨(),ej,(Option.some.inj h5).symm,V,V,((((((a5.Ad a6).Ad bi).Ad ct).Ad cw).Ad cy).Ad h1),h2⟩) V)
                 ·intro fh;refine EB 175 hZ (λh9 ia=>?_) (λh9 ic=>?_)
                  ·refine C 11 V ?_;obtain rfl:=oi ia;exact AB (fh _ _ ⟨fe,V,V,Av,ff⟩) V
                  ·refine C 1 V (Cg (b0.Ah (((((((((((((((am.Ad ap).Ad ac).Ad al).Ad av).Ad aw).Ad ay).Ad a3).Ad az).Ad a0).Ad a5).Ad a6).Ad bi).Ad ct).Ad cw).Ad cy)) Fu De V V ?_);obtain⟨mC,ie,ig⟩:=bs ic;refine BP (U0 (p0:=(([([1]:List Int),[],([2]:List Int)]:Bf),a7.2.2.2)) (bw.Ah (((((((((((((((((bx.Ad a2).Ad am).Ad ap).Ad ac).Ad al).Ad av).Ad aw).Ad ay).Ad a3).Ad az).Ad a0).Ad a5).Ad a6).Ad bi).Ad ct).Ad cw).Ad cy)) (bz.Ah ((((((((((((((((a2.Ad am).Ad ap).Ad ac).Ad al).Ad av).Ad aw).Ad ay).Ad a3).Ad az).Ad a0).Ad a5).Ad a6).Ad bi).Ad ct).Ad cw).Ad cy)) ie) V V (A6 func55 V) ff ?_;rintro _ mD _ ih ⟨mE,mF,rfl,rfl,ii⟩ ij;obtain⟨mG,ik,il⟩:=bs ig;refine C 2 V (BP (UM ii ik) V V (A6 func60 V) ij ?_);rintro _ io _ iq ⟨mH,mI,rfl,rfl,ir⟩ iu;obtain⟨mJ,iv,iw⟩:=bs il;refine JS.ix ir iv underlying65 EK ?_;rintro mK mL _ ⟨mM,mO,rfl,mP⟩ iy;refine CQ 0 iy FR V V V (JL.ln underlying23 V V V ?_);refine C 2 V ?_;obtain rfl:=oi iw;exact AB (fh _ _ ⟨io,V,V,(ih.Ad iq),iu⟩) V
                ·refine EB 170 hW (λiz iA=>?_) (λiz iB=>?_)
                 ·refine C 4 V ?_;obtain rfl:=oi iA;exact fg Av fb V
                 ·refine C 4 V ?_;obtain rfl:=oi iB;exact fg Av fb V
               ·refine FJ 166 hT (λiC iD=>?_) (λiC iE=>?_)
                ·refine C 3 V ?_;obtain rfl:=oi iD;exact fc Av fa V
                ·refine C 3 V ?_;obtain rfl:=oi iE;exact fc Av fa V
              ·refine AL hJ (λiF iG=>?_) (λiF iH=>?_)
               ·refine C 3 V ?_;obtain rfl:=oi iG;exact e8 Av eg V
               ·refine C 4 V (JL.ln underlying65 V V V ?_);obtain⟨iI,iJ,iK⟩:=bs iH;refine C 2 V (CN [] [(4,Ak K 0),(6,sV U O Y),(13,iV ag),(14,iV aq),(18,iV iI)] (λmQ iL iM=>?_) (λfj=>?_))
                ·obtain rfl:=oi iK;exact e8 iL iM V
                ·refine AL iJ (λiN iO=>?_) (λiN iP=>?_)
                 ·refine C 3 V ?_;obtain rfl:=oi iO;exact fj Av eg V
                 ·refine JL.skip ?_;obtain rfl:=oi iP;exact fj Av eg V
             ·refine JL.block (CO hG (λbb=> []) (λbb=> [(4,Ak K 0),(6,sV U O Y),(13,iV ag),(14,iV aq),(15,iV bb.1),(16,iV bb.2)]) Av ef ?_);rintro bb mR b4 fk iQ ⟨mS,ek⟩ iR;have fl:=ek;unfold Qm at fl;refine C 5 V (JL.ln underlying65 V V V ?_);refine C 2 V (AL fl (λiS iT=>?_) (λiS iU=>?_))
              ·obtain⟨fm,iW,iX⟩:=bs iT;refine C 7 V (CN [] [(4,Ak K 0),(6,sV U O Y),(13,iV ag),(14,iV aq),(15,iV fm),(16,iV bb.2)] (λmT iY iZ=>?_) (λi0=>?_))
               ·obtain⟨i1,i3,i4⟩:=bs iX;refine C 3 V (Bl i3 V V V ?_);refine C 2 V ?_;obtain rfl:=oi i4;exact iR (fm,i1) (b4.Ad iY) iZ V ek
               ·refine JL.block (CO iW (λbn=> []) (λbn=> [(4,Ak K 0),(6,sV U O Y),(13,iV ag),(14,iV aq),(15,iV bn.1),(16,iV bb.2),(17,iV bn.2)]) Av fk ?_);rintro bn el b5 em i5 ⟨mU,eo⟩ i6;have fo:=eo;unfold TV at fo;obtain⟨mV,i7,i8⟩:=bs fo;refine C 6 V (JS.ix (b1.Ah (((((((((ac.Ad al).Ad av).Ad aw).Ad ay).Ad a3).Ad az).Ad a0).Ad b4).Ad b5)) i7 underlying65 EK ?_);rintro mW mX _ ⟨mY,mZ,rfl,m1⟩ i9;refine CQ 0 i9 FR V V V (JL.ln underlying23 V V V ?_);refine C 2 V (AL i8 (λja jb=>?_) (λja jc=>?_))
                ·obtain⟨m2,jd,je⟩:=bs jb;refine C 7 V (JS.ix (b1.Ah (((((((((ac.Ad al).Ad av).Ad aw).Ad ay).Ad a3).Ad az).Ad a0).Ad b4).Ad b5)) jd underlying65 EK ?_);rintro m3 m4 _ ⟨m5,m6,rfl,jf⟩ jg;refine CQ 0 jg FR V V V ?_;obtain⟨m7,jh,ji⟩:=bs je;refine C 1 V (JS.ix jf jh underlying23 A0 ?_);rintro m8 m9 _ ⟨_,_,rfl,rfl,⟨_,_,rfl,rfl,rfl⟩⟩ jj;refine B5 0 jj underlying27 AA AY ?_;obtain⟨jk,jl,jm⟩:=bs ji;refine C 3 V (Gl [] (λL s=>∃(fp:LH),Jm el H fp [] [(4,Ak K 0),(6,sV U O Y),(13,iV ag),(14,iV aq),(15,iV bn.1),(16,iV bb.2),(17,iV bn.2),(141,.bool jk)] L s) ?_ ?_)
                 ·rintro _ _ ⟨fp,rfl,rfl,jo,fq⟩;obtain⟨fs,jp,jq⟩:=bs jm;refine JL.done (CN [] [(4,Ak K 0),(6,sV U O Y),(13,iV ag),(14,iV aq),(15,iV fs),(16,iV bb.2),(17,iV bn.2)] (λna jr js=>?_) (λfu=>?_))
                  ·obtain⟨jt,ju,jv⟩:=bs jq;refine C 3 V (Bl ju V V V ?_);refine C 2 V ?_;obtain rfl:=oi jv;exact i6 (fs,jt) ((b5.Ad jo).Ad jr) js V eo
                  ·refine Ck jp (λjw jx=>?_) (λjw jy=>?_)
                   ·obtain⟨nb,jz,jA⟩:=bs jx;refine C 2 V (Bl jz V V V ?_);refine C 2 V ?_;obtain rfl:=oi jA;exact fu Av fq V
                   ·refine JL.skip ?_;obtain rfl:=oi jy;exact fu Av fq V
                 ·intro fv;refine FJ 130 jl (λjB jC=>?_) (λjB jD=>?_)
                  ·obtain⟨nc,jE,jF⟩:=bs jC;refine C 2 V (JS.ix (b1.Ah (((((((((ac.Ad al).Ad av).Ad aw).Ad ay).Ad a3).Ad az).Ad a0).Ad b4).Ad b5)) jE underlying65 EK ?_);rintro ne nf _ ⟨ng,nh,rfl,jG⟩ jH;refine CQ 0 jH FR V V V ?_;obtain⟨ni,jI,jJ⟩:=bs jF;refine C 1 V (JS.ix jG jI underlying23 A0 ?_);rintro nj nk _ ⟨_,_,rfl,rfl,⟨_,_,rfl,rfl,rfl⟩⟩ jK;refine B5 1 jK underlying27 AA AY ?_;refine C 3 V ?_;obtain rfl:=oi jJ;exact AB (fv _ _ ⟨el,V,V,Av,em⟩) V
                  ·refine C 11 V ?_;obtain rfl:=oi jD;exact AB (fv _ _ ⟨el,V,V,Av,em⟩) V
                ·refine JL.exit V ?_;obtain rfl:=oi jc;obtain rfl:=i5 _ eo;exact i0 b5 em V
              ·refine JL.exit V ?_;obtain rfl:=oi iU;obtain rfl:=iQ _ ek;exact hI b4 fk V
          ·refine JL.exit V ?_;obtain rfl:=oi ht;have jL:eW=(Sum.inr ()):=(e0 _ cp).symm;exact AB (hp _ _ ⟨(),ee,jL,V,V,a0,ef⟩) V
        ·refine JL.exit V ?_;obtain rfl:=oi hf;have jM:eO=(Sum.inr ()):=(eU _ co).symm;exact AB (ha _ _ ⟨(),eS,jM,V,V,az,eT⟩) V
     ·intro fw;refine EB 85 gX (λjN jO=>?_) (λjN jP=>?_)
      ·refine C 8 V ?_;obtain rfl:=oi jO;exact AB (fw _ _ ⟨eL,V,V,Av,eM⟩) V
      ·obtain⟨nl,jQ,jR⟩:=bs jP;refine C 3 V (JS.ix (b1.Ah ((((ac.Ad al).Ad av).Ad aw).Ad ay)) jQ underlying65 EK ?_);rintro nm nn _ ⟨np,nq,rfl,jS⟩ jT;refine CQ 0 jT FR V V V ?_;obtain⟨jU,jV,jW⟩:=bs jR;refine CH (QG (gH.Ah (((al.Ad av).Ad aw).Ad ay)) jS jV) V V O2 eM λjX jY jZ=>Am (v:= .bool (!jU)) V (λρ h=>Yl.not (h _ _ V)) (C 1 V ?_);obtain rfl:=oi jW;exact AB (fw _ _ ⟨jX,V,V,jY,jZ⟩) V
    ·refine EB 79 gU (λj0 j1=>?_) (λj0 j2=>?_)
     ·refine C 5 V ?_;obtain rfl:=oi j1;exact eN Av eJ V
     ·refine C 2 V (JL.ln underlying65 V V V ?_);refine C 2 V ?_;obtain rfl:=oi j2;exact eN Av eJ V
   ·refine FJ 75 gR (λj3 j4=>?_) (λj3 j5=>?_)
    ·refine C 3 V ?_;obtain rfl:=oi j4;exact eK Av eI V
    ·refine C 3 V ?_;obtain rfl:=oi j5;exact eK Av eI V
  ·refine JL.block (CO gM (λb6=> []) (λb6=> [(4,Ak K 0),(6,sV U O Y),(7,sV b2 a9.1 b3),(8,iV a9.2),(9,iV be.1),(10,iV be.2),(11,iV b6.1),(12,iV b6.2)]) Av gL ?_);rintro b6 nr c0 fx j6 ⟨nt,er⟩ j7;have fy:=er;unfold Mp at fy;refine C 5 V (JL.ln underlying65 V V V ?_);refine C 2 V (AL fy (λj8 j9=>?_) (λj8 kb=>?_))
   ·refine C 4 V (DY 9 λa8=>?_);refine AR a8 V [0,1] V ?_;obtain⟨kc,ke,kf⟩:=bs j9;refine Di 2 (b1.Ah ((ac.Ad al).Ad c0)) ke a8 underlying65 EK ?_;rintro nu nx _ ⟨kg,kh,rfl,ki⟩ kj;refine CP 3 a8 0 kj FR V V V V (AR a8 V [5,6] V ?_);obtain⟨ny,kl,km⟩:=bs kf;refine Di 7 (b1.Ah ((ac.Ad al).Ad c0)) kl a8 underlying65 EK ?_;rintro nA nB _ ⟨nC,nD,rfl,kn⟩ ko;refine CP 8 a8 0 ko FR V V V V ?_;obtain⟨nE,kp,kq⟩:=bs km;refine JG.call (i:=4) (vs:= [sV kg kc kh]) (UU ki kp) (by decide+kernel) V V V (A6 func62 V) V fx ?_;rintro _ nF _ fz ⟨nG,nH,rfl,rfl,kr⟩ ks;refine C4 [9,10] ?_;obtain⟨nI,kt,ku⟩:=bs kq;refine BP (UU (kn.Ah fz) kt) V V (A6 func62 V) ks ?_;rintro _ nJ _ fA ⟨nK,nM,rfl,rfl,kv⟩ kx;obtain⟨nN,ky,kz⟩:=bs ku;refine CH (dC (kr.Ah fA) kv ky) V V (A6 func61 V) kx λnO kA fB=>?_;obtain⟨fC,kB,kC⟩:=bs kz;refine JL.done (CN [] [(4,Ak K 0),(6,sV U O Y),(7,sV b2 a9.1 b3),(8,iV a9.2),(9,iV be.1),(10,iV be.2),(11,iV fC),(12,iV b6.2)] (λnP kD kF=>?_) (λfD=>?_))
    ·obtain⟨kG,kI,kJ⟩:=bs kC;refine C 3 V (Bl kI V V V ?_);refine C 2 V ?_;obtain rfl:=oi kJ;exact j7 (fC,kG) ((((c0.Ad fz).Ad fA).Ad kA).Ad kD) kF V er
    ·refine Ck kB (λkK kL=>?_) (λkK kM=>?_)
     ·refine C 4 V ?_;obtain rfl:=oi kL;exact fD Av fB V
     ·refine JL.skip ?_;obtain rfl:=oi kM;exact fD Av fB V
   ·refine JL.exit V ?_;obtain rfl:=oi kb;obtain rfl:=j6 _ er;exact gP c0 fx V
 ·intro kN;refine JL.block (CG gn (λL s a4=>∃(ca:LH) (c1:Ao) (c3:Nat) (bo:Ao) (bv:Nat) (c4:Seg),Jn dd H ca [bX ce #[sV c1 a4.1 c3,iV a4.2.1,.int .u64 ((a4.2.2.1:Nat):Int)] 74,eF,bX K #[.slice (AM c9) (([([1]:List Int),[],([2]:List Int)]:Bf)).length 3,sV bo a4.2.2.2.1 bv] 25,c4] [(3,Ak ce 0),(4,Ak K 0),(5,iV a4.2.2.2.2)] L s (An rI ca c1 c3 a4.1/\OL 27 Az ca bo bv c4 a4.2.2.2.1)) ⟨dd,gj,gk,none,0,[],V,V,Av,gm,gl,OL.nil⟩ ?_);rintro _ _ a4 ⟨ca,c1,c3,bo,bv,c4,rfl,rfl,c5,c6,eu,c7⟩ kO ⟨nQ,cc⟩ ew;have fE:=cc;unfold Mo at fE;refine C 6 V (AL fE (λkP kQ=>?_) (λkP kR=>?_))
  ·refine C 3 V (DY 5 λa8=>?_);refine JG.fd 0 a8 underlying25 EK V V V V (Dz 2 a8 V V ?_);obtain⟨Z,fF,ex⟩:=bs kQ;refine Gq (i:=1) (j:=3) V (by decide+kernel) ?_ ?_
   ·refine Take.y0 (v:= sV bo a4.2.2.2.1 bv) V V V (λρ h=>Yl.load FR (h _ _ V) (BL (j:=2) c6 V V)) (JG.one (i:=3) V (by decide+kernel) ?_);refine Take.T8 (vs:= [Ak ce 0,iV 3]) 0 c6 (UO eu fF) V V V (A6 func40 V) V V ?_;rintro _ nR _ fG ⟨kS,kT,rfl,rfl,kU⟩ kV;refine JG.one (i:=4) V (by decide+kernel) (Take.EP (pp:=Az) [.agg #[iV Z.1.1,iV Z.1.2.1,iV Z.1.2.2]] ([Z.1]:Ay) kV V V V underlying23 A0 BF (by decide) V V V ⟨⟨_,_,V,V,⟨_,_,V,V,V⟩⟩,trivial⟩ λnT nU kW kX=>?_);refine C4 [5,6,7] (BW 4 kW kX V λkY ey kZ k0=>?_);obtain⟨k1,k2,k3⟩:=bs ex;refine Iq (pp:=Az) 3 k2 V V V V V V V underlying23 underlying23 A0 (DW type27) BF V (by decide) (by decide) (c7.Ah (fG.Ad ey)) kZ k0 V λk4 k5 k6 k7 k8=>JL.fd underlying25 EK V V V (BQ 2 k8 EK λk9=>?_);obtain⟨la,lb,ld⟩:=bs k3;refine C 4 V (Cu lb V V V ?_);refine C 2 V ?_;obtain rfl:=oi ld;exact AB (ew _ _ (Z.2.1,Z.2.2.1,Z.2.2.2,k1,la) ⟨kY,kS,kT,k4,k5,k6,V,V,((c5.Ad fG).Ad ey),k9,(kU.Ah ey),k7⟩ cc) V
   ·refine Take.T8 (vs:= [Ak ce 0,iV 3]) 0 c6 (UO eu fF) V V V (A6 func40 V) V V ?_;rintro _ nV _ c8 ⟨fH,fI,rfl,rfl,fJ⟩ ez;refine Gq (i:=1) (j:=4) V (by decide+kernel) ?_ ?_
    ·refine Take.y0 (v:= sV bo a4.2.2.2.1 bv) V V V (λρ h=>Yl.load FR (h _ _ V) (BL (j:=2) ez V V)) (JG.one (i:=4) V (by decide+kernel) ?_);refine Take.EP (pp:=Az) [.agg #[iV Z.1.1,iV Z.1.2.1,iV Z.1.2.2]] ([Z.1]:Ay) ez V V V underlying23 A0 BF (by decide) V V V ⟨⟨_,_,V,V,⟨_,_,V,V,V⟩⟩,trivial⟩ λnW nX lf lg=>C4 [5,6,7] (BW 4 lf lg V λlh eA li lj=>?_);obtain⟨ll,lm,lq⟩:=bs ex;refine Iq (pp:=Az) 3 lm V V V V V V V underlying23 underlying23 A0 (DW type27) BF V (by decide) (by decide) (c7.Ah (c8.Ad eA)) li lj V λlr ls lu lw lx=>JL.fd underlying25 EK V V V (BQ 2 lx EK λlz=>?_);obtain⟨lA,lB,lC⟩:=bs lq;refine C 4 V (Cu lB V V V ?_);refine C 2 V ?_;obtain rfl:=oi lC;exact AB (ew _ _ (Z.2.1,Z.2.2.1,Z.2.2.2,ll,lA) ⟨lh,fH,fI,lr,ls,lu,V,V,((c5.Ad c8).Ad eA),lz,(fJ.Ah eA),lw⟩ cc) V
    ·refine Take.EP (pp:=Az) [.agg #[iV Z.1.1,iV Z.1.2.1,iV Z.1.2.2]] ([Z.1]:Ay) ez V V V underlying23 A0 BF (by decide) V V V ⟨⟨_,_,V,V,⟨_,_,V,V,V⟩⟩,trivial⟩ λnY nZ lD fK=>JG.one (i:=1) V (by decide+kernel) (Take.y0 (v:= sV bo a4.2.2.2.1 bv) V V V (λρ h=>Yl.load FR (h _ _ V) (BL (j:=2) fK V V)) ?_);refine C4 [5,6,7] (BW 4 lD fK V λlE eB lF lG=>?_);obtain⟨lH,lI,lJ⟩:=bs ex;refine Iq (pp:=Az) 3 lI V V V V V V V underlying23 underlying23 A0 (DW type27) BF V (by decide) (by decide) (c7.Ah (c8.Ad eB)) lF lG V λlK lL lM lN lO=>JL.fd underlying25 EK V V V (BQ 2 lO EK λlP=>?_);obtain⟨lQ,lR,lS⟩:=bs lJ;refine C 4 V (Cu lR V V V ?_);refine C 2 V ?_;obtain rfl:=oi lS;exact AB (ew _ _ (Z.2.1,Z.2.2.1,Z.2.2.2,lH,lQ) ⟨lE,fH,fI,lK,lL,lM,V,V,((c5.Ad c8).Ad eB),lP,(fJ.Ah eB),lN⟩ cc) V
  ·refine JL.exit V (JS.drop 0 c6 V λlT=>?_);obtain rfl:=oi kR;obtain rfl:=kO _ cc;exact AB (kN _ _ ⟨ca,c1,c3,bo,bv,c4,V,V,c5,lT,eu,c7⟩) V
end Pal
set_option autoImplicit false
open Go
namespace Pal
open Go Go.Conc Go.Proofs Go.Proofs.Tryz
variable {E:LH}
variable {J:Judge Tryz.prog}
variable {J:Judge Tryz.prog}
variable {J:Judge Tryz.prog}
end Pal
set_option autoImplicit false
open Go
namespace Pal
open Go Go.Conc Go.Proofs Go.Proofs.Tryz
variable {E:LH}
variable {J:Judge Tryz.prog}
end Pal
namespace Pal
def BB{α:Type}(o:Option α)(Q:α->Prop):Prop:=∃a,o=some a/\Q a
variable {α β:Type}{Q R:α->Prop}
theorem Au{a:α}(h:Q a):BB (some a) Q:=⟨a,V,h⟩
theorem BB.Ah{o:Option α}(h:BB o R)(k:∀a,R a->Q a):BB o Q:=let ⟨a,K,O⟩:=h;⟨a,K,k a O⟩
theorem Bq{o:Option β}{f:β->Option α}{S:β->Prop}(h:BB o S)(k:∀b,S b->BB (f b) Q):BB (o.bind f) Q:=by
 obtain⟨b,rfl,hb⟩:=h;obtain⟨a,K,O⟩:=k b hb;exact⟨a,K,O⟩
theorem A9{o:Option β}{f:β->Option α}{b:β}(h:o=some b)(k:BB (f b) Q):BB (o.bind f) Q:=by subst h;exact k
theorem BB.dY{f:Int->Option α}{x:Int}(K: -9223372036854775808<=x)(O:x<=9223372036854775807)(k:BB (f x) Q):BB ((Ar x).bind f) Q:=A9 (if_pos ⟨K,O⟩) k
theorem HT{xs:List β}{i:Int}{m:Nat}{b:β}(h:i=(m:Int))(hb:xs[m]? =some b):ix xs i=some b:=by subst h;simpa [ix] using hb
theorem CZ{f:β->Option α}{xs:List β}{i:Int}{m:Nat}(h:i=(m:Int))(hm:m<xs.length)(k:BB (f xs[m]) Q):BB ((ix xs i).bind f) Q:=A9 (HT h (List.getElem?_eq_getElem hm)) k
theorem Pr{f:List β->Option α}{xs:List β}{x:β}(h:xs.length+1<=2 ^ 40)(k:BB (f (xs++ [x])) Q):BB ((room xs x).bind f) Q:=A9 (if_pos h) k
theorem BS{c:Prop} [Decidable c] {x y:Option α}(K:c->BB x Q)(O:¬c->BB y Q):BB (if c then x else y) Q:=by
 by_cases h:c
 ·rw [if_pos h];exact K h
 ·rw [if_neg h];exact O h
theorem Cf{c:Prop} [Decidable c] {x y:Option α}(h:c)(k:BB x Q):BB (if c then x else y) Q:=by rw [if_pos h];exact k
theorem BH{c:Prop} [Decidable c] {x y:Option α}(h:¬c)(k:BB y Q):BB (if c then x else y) Q:=by rw [if_neg h];exact k
def Bd.sat{S A:Type}(I:S->Prop)(Q:A->Prop):Bd S A->Prop
 | .more s=>I s
 | .done a=>Q a
theorem Py{S:Type}{body:S->Option (Bd S α)}(I:Nat->S->Prop)(round:∀m s,I m s->BB (body s) (Bd.sat (λs'=>∃m',m'<m/\I m' s') Q)):
  ∀{m fuel:Nat} {s:S},I m s->m<fuel->BB (iter body fuel s) Q:=by
 intro m
 induction m using Nat.strongRecOn with
 | _ m O=>
  intro fuel s U ag;obtain⟨fuel,rfl⟩:∃k,fuel=k+1:=⟨fuel - 1,by omega⟩;obtain⟨st,Y,K⟩:=round m s U;unfold Pal.iter;rw [Y];cases st with
  | more s'=>
   obtain⟨m',Z,ac⟩:=K;exact O m' Z ac (by omega)
  | done a=>exact⟨a,rfl,K⟩
theorem Dx{S A:Type}{body:S->Option (Bd S A)}{Q:A->Prop}{K:S}{F:Nat}(n:Nat)(I:Nat->S->Prop)(Y:I 0 K)(ac:n<F)
  (round:∀i s,i<n->I i s->BB (body s) (Bd.sat (I (i+1)) Q)) (last:∀s,I n s->BB (body s) (λst=>∃a,st= .done a/\Q a)):BB (Pal.iter body F K) Q:=by
 refine Py (λm s=>∃i,i<=n/\m=n - i/\I i s) ?_ (m:=n - 0) ⟨0,Nat.zero_le _,V,Y⟩ (by omega);rintro m s ⟨i,hi,rfl,O⟩;rcases Nat.lt_or_ge i n with Z | ag
 ·refine(round i s Z O).Ah ?_;intro st U;cases st with
  | more s'=>exact⟨n - (i+1),by omega,i+1,by omega,rfl,U⟩
  | done a=>exact U
 ·obtain rfl:i=n:=by omega
  refine(last s O).Ah ?_;rintro st ⟨a,rfl,h⟩;exact h
theorem Df{α:Type}{o:Option α}{a:α}(h:BB o (λx=>x=a)):o=some a:=by obtain⟨x,K,rfl⟩:=h;exact K
theorem Bs{α:Type}{Q:α->Prop}{f:Int->Option α}{x:Int}(y:Int)(h:x=y)(K: -9223372036854775808<=y)(O:y<=9223372036854775807)(k:BB (f y) Q):BB ((Ar x).bind f) Q:=by subst h;exact BB.dY K O k
theorem BB.Kj{α β:Type}{Q:α->Prop}{f:List β->Option α}{xs ys:List β}(h:xs.length+ys.length<1000)(k:BB (f (xs++ys)) Q):BB ((DD xs ys).bind f) Q:=A9 (by unfold DD;rw [if_pos (by omega)]) k
abbrev Kh:=List Int×Int×Nat
def BG(k:Nat)(b:Kh):Prop:=0<=b.2.1/\b.2.1<=(k:Int)
theorem BG.Ah{k k':Nat}{b:Kh}(h:BG k b)(K:k<=k'):BG k' b:=⟨h.1,by have:=h.2;omega⟩
theorem cd{F k:Nat}{b:Kh}(hb:BG k b)(K:k<1000000):BB (f83 F b) (λr=>r.1<2 ^ 64/\BG (k+1) r.2):=by
 obtain⟨O,U⟩:=hb;unfold f83;refine Bs (b.2.1+1) V (by omega) (by omega) ?_;have key:∀x:Nat,(x % 2 ^ 64)>>>11<2 ^ 64:=λx=>Nat.lt_of_le_of_lt (Nat.shiftRight_le _ _) (Nat.mod_lt _ (Nat.two_pow_pos 64));refine Bq (S:=λ_=>True) ?_ ?_
 ·refine BS (λh=>?_) (λh=>?_)
  ·refine Bs b.2.1 (by omega) (by omega) (by omega) (CZ (m:=b.2.1.toNat) (by omega) (by omega) ?_);exact Au trivial
  ·exact Au trivial
 ·intro x _;exact Au ⟨key _,by simp only;omega,by simp only;omega⟩
theorem Xg{a:Nat}(h:a<2 ^ 62):MK a=(a:Int):=by
 unfold MK;exact JN (by omega)
theorem N1{F k:Nat}{b:Kh}{m:Int}(hb:BG k b)(O:k<1000000)(hm:m<1000000):BB (f36 F b m) (λr=>0<=r.1/\(r.1<=m∨r.1=0)/\BG (k+1) r.2):=by
 unfold f36;refine Bq (cd hb O) ?_;rintro⟨x,b'⟩ ⟨Z,K⟩;refine BS (λh=>?_) (λh=>?_)
 ·exact Au ⟨by simp,.inr V,K⟩
 ·have U:C6 m=m.toNat:=by unfold C6;omega
  have e2:(C6 m+1) % 2 ^ 64=m.toNat+1:=by rw [U];omega
  have Y:x % (m.toNat+1)<m.toNat+1:=Nat.mod_lt _ (by omega);refine A9 (b:=x % (m.toNat+1)) (by rw [e2];unfold OA;rw [if_neg (by omega)]) ?_;refine Au ?_;simp only;generalize x % (m.toNat+1)=z at Y ⊢;rw [Xg (by omega)];exact⟨by omega,.inl (by omega),K⟩
theorem UC{F k:Nat}{b:Kh}{lo hi:Int}(hb:BG k b)(O:k<1000000)(Y:0<=lo)(Z:lo<=hi)(ac:hi<1000):BB (f37 F b lo hi) (λr=>lo<=r.1/\r.1<=hi/\BG (k+1) r.2):=by
 unfold f37;refine Bs (hi - lo) V (by omega) (by omega) (Bq (N1 hb O (by omega)) ?_);rintro⟨x,b'⟩ ⟨U,g2,K⟩;simp only at U g2 K ⊢;exact Bs (lo+x) V (by omega) (by omega) (Au ⟨by simp only;omega,by simp only;omega,K⟩)
theorem bp{F k:Nat}{b:Kh}{l:List Int}(hb:BG k b)(U:k<1000000)(Z:0<l.length)(ac:l.length<1000):BB (f81 F b l) (λr=>r.1∈l/\BG (k+1) r.2):=by
 unfold f81;refine Bs ((l.length - 1:Nat):Int) (by omega) (by omega) (by omega) (Bq (N1 hb U (by omega)) ?_);rintro⟨x,b'⟩ ⟨Y,g2,K⟩;simp only at Y g2 K ⊢;have O:x.toNat<l.length:=by omega
 exact CZ (m:=x.toNat) (by omega) O (Au ⟨List.getElem_mem O,K⟩)
abbrev DT:=Int×Int×Int
abbrev OW:=Bf×List DT
structure NV (n:Nat) (o:OW):Prop where
 l1:o.1.length<=n
 n1:∀x∈o.1,x.length<=n
 l2:o.2.length<=n
theorem aR{F:Nat}{l:List DT}(K:100<F)(O:l.length<=40):f26 F l l=some true:=by
 refine Df ?_;unfold f26;refine Bq (S:=λq=>q=Sum.inr ()) ?_ (by rintro q rfl;exact Au (by simp));refine Dx l.length (λi s=>s=(i:Int)) V (by omega) ?_ ?_
 ·rintro i s hi rfl;unfold N3;refine Bq (S:=λc=>c=true) (Cf (by omega) (Au (decide_eq_true (by omega)))) ?_;rintro c rfl;refine Cf V (CZ (m:=i) V hi ?_);refine CZ (m:=i) V hi (BH (by simp) ?_);exact Bs ((i+1:Nat):Int) (by simp) (by omega) (by omega) (Au V)
 ·rintro s rfl;unfold N3;refine Bq (S:=λc=>c=false) (BH (by omega) (Au V)) ?_;rintro c rfl;exact BH (by simp) (Au ⟨_,V,V⟩)
theorem Jp(F:Nat)(a lo hi:Int):f92 F a lo hi=some (decide (lo<=a/\a<=hi)):=by
 unfold f92;by_cases h:lo<=a
 ·rw [if_pos h];simp [h]
 ·rw [if_neg h];simp [h]
theorem bF(F:Nat)(a lo hi:Int):f91 F a lo hi=some (decide (lo<=a/\a<=hi)):=Jp F a lo hi
theorem Yz{F:Nat}{o:OW}{i:Int}{l:List Int}(h:ix o.1 i=some l):Ob F l=Mq F o i:=by
 funext j;unfold Ob Mq;rw [h];rfl
theorem Yi(F:Nat)(o:OW):NY F o=Mx F o:=by
 funext i;unfold NY Mx;split
 ·rcases h:ix o.1 i with _ | l
  ·rfl
  ·simp only [Option.bind_some];rw [Yz h]
 ·rfl
theorem Qq(F:Nat)(o:OW):f47 F o=f48 F o:=by
 unfold f47 f48;rw [Yi];rfl
def VD(n:Nat)(d:DT):Prop:=0<=d.1/\d.1<(n:Int)/\0<=d.2.1/\d.2.1<(n:Int)/\d.1≠d.2.1/\1<=d.2.2/\d.2.2<=9
def CS(x:List Int):Prop:=x.length<=3/\∀c∈x,1<=c/\c<=9
structure VO (o:OW):Prop where
 n2:2<=o.1.length
 n5:o.1.length<=5
 cs:∀x∈o.1,CS x
 d8:o.2.length<=8
 ds:∀d∈o.2,VD o.1.length d
theorem VO.nv{o:OW}(h:VO o):NV 40 o:=⟨by have:=h.n5;omega,λx K=>by have:=(h.cs x K).1;omega,by have:=h.d8;omega⟩
theorem Mi{α:Type}{P:α->Prop}{l:List α}{i:Nat}(hi:i<l.length)(h:∀x∈l.take i,P x)(k:P l[i]):∀x∈l.take (i+1),P x:=by
 intro x K;rw [List.take_add_one,List.getElem?_eq_getElem hi] at K;simp only [Option.toList_some,List.mem_append,List.mem_singleton] at K;rcases K with K | rfl
 ·exact h x K
 ·exact k
theorem ZU{F:Nat}{d:DT}{n:Nat}(U:n<1000):BB (f88 F (n:Int) d 9) (λr=>r=0↔VD n d):=by
 unfold f88;refine Bs ((n:Int) - 1) V (by omega) (by omega) (A9 (Jp _ _ _ _) ?_);refine Bq (S:=λc=>c=true↔¬((0<=d.1/\d.1<(n:Int))/\0<=d.2.1/\d.2.1<(n:Int))) ?_ ?_
 ·refine BS (λh=>Au ?_) (λh=>?_)
  ·simp at h;simp;omega
  ·refine Bs ((n:Int) - 1) V (by omega) (by omega) (A9 (Jp _ _ _ _) ?_);refine Au ?_;simp at h;simp;omega
 ·intro c hc;refine BS (λh=>Au ?_) (λh=>?_)
  ·have:=hc.1 h;unfold VD;constructor
   ·intro h;cases h
   ·intro h;omega
  have Y:¬¬_:=λk=>h (hc.2 k);refine BS (λO=>Au ?_) (λO=>?_)
  ·unfold VD;constructor
   ·intro h;cases h
   ·intro h;omega
  refine A9 (Jp _ _ _ _) (BS (λK=>Au ?_) (λK=>Au ?_))
  ·simp at K;unfold VD;constructor
   ·intro h;cases h
   ·intro h;omega
  ·simp at K;unfold VD;constructor
   ·intro h;omega
   ·intro h;rfl
theorem Ud{F:Nat}{o:OW}(Z:100<F)(h:NV 40 o):BB (f48 F o) (λr=>r=0↔VO o):=by
 unfold f48;have ac:=h.l1;have ag:=h.l2;refine BS (λg=>Au (iff_of_false (by decide) λv=>by have:=v.n2;omega)) (λal=>?_);refine BS (λg=>Au (iff_of_false (by decide) λv=>by have:=v.n5;omega)) (λg2=>?_);refine Bq (S:=λq=>(∃e,q=Sum.inl e/\e≠0/\¬∀x∈o.1,CS x)∨(q=Sum.inr ()/\∀x∈o.1,CS x)) ?_ ?_
 ·refine Dx o.1.length (λi s=>s=(i:Int)/\∀x∈o.1.take i,CS x) ⟨V,by simp⟩ (by omega) ?_ ?_
  ·rintro i s hi ⟨rfl,K⟩;unfold Mx;refine Cf (by omega) (CZ (m:=i) V hi ?_);have am:=h.n1 _ (List.getElem_mem hi);refine BS (λg=>Au (.inl ⟨_,V,by decide,λk=>by have:=(k _ (List.getElem_mem hi)).1;omega⟩)) (λap=>?_);refine Bq (S:=λq=>(q=Sum.inl 1/\¬CS o.1[i])∨(q=Sum.inr ()/\CS o.1[i])) ?_ ?_
   ·refine Dx o.1[i].length (λj s=>s=(j:Int)/\∀c∈o.1[i].take j,1<=c/\c<=9) ⟨V,by simp⟩ (by omega) ?_ ?_
    ·rintro j s U ⟨rfl,O⟩;unfold Mq;refine CZ (m:=i) V hi (Cf (by omega) ?_);refine CZ (m:=i) V hi (CZ (m:=j) V U ?_);refine A9 (Jp _ _ _ _) (BS (λg=>Au (.inl ⟨V,λk=>?_⟩)) (λg=>?_))
     ·have:=k.2 _ (List.getElem_mem U);simp at g;omega
     refine Bs ((j+1:Nat):Int) (by simp) (by omega) (by omega) (Au ⟨V,Mi U O ?_⟩);simpa using g
    ·rintro s ⟨rfl,O⟩;unfold Mq;refine CZ (m:=i) V hi ?_;rw [List.take_length] at O;exact BH (by omega) (Au ⟨_,V,.inr ⟨V,by omega,O⟩⟩)
   ·rintro q (⟨rfl,g⟩ | ⟨rfl,g⟩)
    ·rw [Sum.elim_inl];exact Au (.inl ⟨_,V,by decide,λk=>g (k _ (List.getElem_mem hi))⟩)
    ·rw [Sum.elim_inr];exact Bs ((i+1:Nat):Int) (by simp) (by omega) (by omega) (Au ⟨V,Mi hi K g⟩)
  ·rintro s ⟨rfl,K⟩;unfold Mx;rw [List.take_length] at K;exact BH (by omega) (Au ⟨_,V,.inr ⟨V,K⟩⟩)
 ·rintro q (⟨e,rfl,he,g⟩ | ⟨rfl,O⟩)
  ·rw [Sum.elim_inl];exact Au (iff_of_false he λv=>g v.cs)
  ·rw [Sum.elim_inr];refine BS (λg=>Au (iff_of_false (by decide) λv=>by have:=v.d8;omega)) (λg2=>?_);refine Bq (S:=λq=>(∃e,q=Sum.inl e/\e≠0/\¬∀d∈o.2,VD o.1.length d)∨(q=Sum.inr ()/\∀d∈o.2,VD o.1.length d)) ?_ ?_
   ·refine Dx o.2.length (λi s=>s=(i:Int)/\∀d∈o.2.take i,VD o.1.length d) ⟨V,by simp⟩ (by omega) ?_ ?_
    ·rintro i s hi ⟨rfl,K⟩;unfold Qw;refine Cf (by omega) (CZ (m:=i) V hi ?_);refine Bq (ZU (by omega)) ?_;intro x Y;refine BS (λg=>Au (.inl ⟨_,V,g,λk=>g (Y.2 (k _ (List.getElem_mem hi)))⟩)) (λg=>?_);exact Bs ((i+1:Nat):Int) (by simp) (by omega) (by omega) (Au ⟨V,Mi hi K (Y.1 (Decidable.not_not.1 g))⟩)
    ·rintro s ⟨rfl,K⟩;unfold Qw;rw [List.take_length] at K;exact BH (by omega) (Au ⟨_,V,.inr ⟨V,K⟩⟩)
   ·rintro q (⟨e,rfl,he,g⟩ | ⟨rfl,g⟩)
    ·rw [Sum.elim_inl];exact Au (iff_of_false he λv=>g v.ds)
    ·rw [Sum.elim_inr];exact Au (iff_of_true V ⟨by omega,by omega,O,by omega,g⟩)
theorem cn{F:Nat}{o:OW}(K:100<F)(h:NV 40 o):BB (f47 F o) (λr=>r=0↔VO o):=Qq F o▸Ud K h
theorem UR{F:Nat}{o:OW}(K:100<F)(h:VO o):f47 F o=some 0:=by
 obtain⟨r,O,U⟩:=cn K h.nv;rw [O,U.2 h]
theorem U3{F:Nat}{o:OW}(K:100<F)(h:VO o):f70 F o []=some (o,0):=by
 obtain⟨F,rfl⟩:∃k,F=k+1:=⟨F - 1,by omega⟩;unfold f70;rw [UR K h]
 rfl
theorem Yf(a n:Int):a % n=(a - n) % n:=by
 have h:a=(a - n)+n*1:=by omega
 conv=>lhs;rw [h]
 exact Int.add_mul_emod_self_left _ _ _
theorem cf{F k n:Nat}{b:Kh}(hb:BG k b)(av:k<900000)(aw:2<=n)(ay:n<900):BB (f40 F b (n:Int)) (λr=>VD n r.1/\BG (k+4) r.2):=by
 unfold f40;refine Bs ((n:Int) - 1) V (by omega) (by omega) (Bq (N1 hb (by omega) (by omega)) ?_);rintro⟨x,az⟩ ⟨O,g2,U⟩;simp only at O g2 U ⊢;refine Bq (UC U (by omega) (by omega) (by omega) (by omega)) ?_;rintro⟨x2,a0⟩ ⟨a1,am,Y⟩;simp only at a1 am Y ⊢;refine Bq (bp Y (by omega) (by simp) (by simp)) ?_;rintro⟨Z,a2⟩ ⟨ac,ag⟩;simp only at ac ag ⊢;refine Bs ((n:Int) - 1) V (by omega) (by omega) (Bq (UC ag (by omega) (by omega) (by omega) (by omega)) ?_);rintro⟨K,a3⟩ ⟨ap,aq,al⟩;simp only at ap aq al ⊢;refine Bs (x+K) V (by omega) (by omega) (A9 (b:=(x+K).tmod n) (by unfold OE;rw [if_neg (by omega)]) ?_);refine Au ⟨?_,al⟩;have e:(x+K).tmod n=(x+K) % n:=Int.tmod_eq_emod_of_nonneg (by omega);have p3:1<=Z/\Z<=9:=by
  simp only [List.mem_cons,List.not_mem_nil,or_false] at ac;omega
 have a4:(x+K) % (n:Int)<n:=Int.emod_lt_of_pos _ (by omega);have a5:0<=(x+K) % (n:Int):=Int.emod_nonneg _ (by omega);have a6:x≠(x+K) % (n:Int):=by
  rcases Int.lt_or_le (x+K) n with h | h
  ·rw [Int.emod_eq_of_lt (by omega) h];omega
  ·rw [Yf,Int.emod_eq_of_lt (by omega) (by omega)];omega
 refine⟨O,?_,?_,?_,?_,p3.1,p3.2⟩ <;> simp only [e] <;> omega
abbrev PR:=Int×Int
def gN(l:List Int)(i:Nat):Int:=l.getD i 0
def Fh(l:List Int)(i v:Int):List Int:=l.set i.toNat (gN l i.toNat+v)
def BN(B:Int)(l:List Int):Prop:=l.length=5/\∀x∈l,-B<=x/\x<=B
theorem Mr{l:List Int}{i:Nat}(h:i<l.length):gN l i=l[i]:=by unfold gN;rw [List.getD_eq_getElem?_getD,List.getElem?_eq_getElem h];rfl
theorem BN.bd{B:Int}{l:List Int}(h:BN B l){i:Nat}(hi:i<5): -B<=gN l i/\gN l i<=B:=by
 rw [Mr (by have:=h.1;omega)];exact h.2 _ (List.getElem_mem _)
theorem BN.ix{B:Int}{l:List Int}(h:BN B l){i:Int}(K:0<=i)(hi:i<5):ix l i=some (gN l i.toNat):=by
 have:=h.1;rw [Mr (show i.toNat<l.length by omega)];exact HT (m:=i.toNat) (by omega) (List.getElem?_eq_getElem _)
theorem BN.Ah{B C:Int}{l:List Int}(h:BN B l)(hc:B<=C):BN C l:=⟨h.1,λx K=>by have:=h.2 x K;omega⟩
theorem BN.add{B V:Int}{l:List Int}(h:BN B l){i v:Int}(O:0<=i)(hi:i<5)(U: -V<=v)(Y:v<=V):BN (B+V) (Fh l i v):=by
 have hb:=h.bd (i:=i.toNat) (by omega);refine⟨by unfold Fh;rw [List.length_set];exact h.1,λx K=>?_⟩;rcases List.mem_or_eq_of_mem_set K with K | rfl
 ·have:=h.2 x K;omega
 ·omega
theorem KI{l:List Int}{i v:Int}(h:l.length=5)(K:0<=i)(hi:i<5)(j:Nat):gN (Fh l i v) j=gN l j+if(j:Int)=i then v else 0:=by
 unfold Fh gN;rw [List.getD_eq_getElem?_getD,List.getElem?_set,List.getD_eq_getElem?_getD,List.getD_eq_getElem?_getD];by_cases e:i.toNat=j
 ·rw [if_pos e,if_pos (by omega),if_pos (by omega),e];rfl
 ·rw [if_neg e,if_neg (by omega),Int.add_zero]
theorem XY{l l':List Int}(h:l.length=5)(U:l'.length=5)(k:∀j,j<5->gN l j=gN l' j):l=l':=by
 refine List.ext_getElem (by omega) λj K O=>?_;rw [← Mr K,← Mr O];exact k j (by omega)
def Hv(l:List Int)(d:DT):List Int:=Fh (Fh l d.1 d.2.2) d.2.1 (-d.2.2)
def GL(l:List Int)(d:DT):List Int:=Fh (Fh l d.2.1 d.2.2) d.1 (-d.2.2)
def Cb(o:OW):List Int:=o.2.foldl GL (List.replicate 5 0)
theorem Tw{F:Nat}{B:Int}{l:List Int}{d:DT}(h:BN B l)(a1:0<=d.1)(O:d.1<5)(U:0<=d.2.1)(Y:d.2.1<5)(Z: -B<=d.2.2)(p2:d.2.2<=B)(ac:B<=1000000000000):f204 F l d=some (Hv l d)/\BN (3*B) (Hv l d):=by
 have K:=h.add a1 O Z p2;have g2:=K.add U Y (show -B<= -d.2.2 by omega) (by omega);have k1:=h.bd (i:=d.1.toNat) (by omega);have ag:=K.bd (i:=d.2.1.toNat) (by omega);refine⟨?_,g2.Ah (by omega)⟩;refine Df ?_;unfold f204;refine A9 (h.ix a1 O) ?_;refine Bs _ V (by omega) (by omega) ?_;refine A9 (h.ix a1 O) ?_;refine A9 (K.ix U Y) ?_;refine Bs _ V (by omega) (by omega) ?_;refine A9 (K.ix U Y) ?_;exact Au V
theorem Mt{F:Nat}{o:OW}(Z:100<F)(h:VO o):f84 F o=some (Cb o)/\BN 200 (Cb o):=by
 have ac:=h.n5;have ag:=h.d8;have:BB (f84 F o) (λr=>r=Cb o/\BN 200 r):=by
  unfold f84;refine Bq (S:=λr=>r=Cb o/\BN 200 r) ?_ (λr O=>Au O);refine Dx o.2.length (λi s=>s.2=(i:Int)/\s.1=(o.2.take i).foldl GL (List.replicate 5 0)/\BN (20*i) s.1) ⟨rfl,rfl,rfl,by simp⟩ (by omega) ?_ ?_
  ·rintro i ⟨w,c⟩ hi ⟨hc,hw,hb⟩;simp only at hc hw hb;subst hc;obtain⟨v1,v2,al,v4,am,v6,ap⟩:=h.ds _ (List.getElem_mem hi);have K:=hb.add (i:=o.2[i].2.1) (v:=o.2[i].2.2) (V:=10) (by omega) (by omega) (by omega) (by omega);have g2:=K.add (i:=o.2[i].1) (v:= -o.2[i].2.2) (V:=10) (by omega) (by omega) (by omega) (by omega);have k1:=hb.bd (i:=o.2[i].2.1.toNat) (by omega);have aq:=K.bd (i:=o.2[i].1.toNat) (by omega);unfold NX;refine Cf (by simp only;omega) (CZ (m:=i) rfl hi ?_);refine A9 (hb.ix (by omega) (by omega)) (Bs _ rfl (by omega) (by omega) ?_);refine A9 (hb.ix (by omega) (by omega)) (A9 (K.ix (by omega) (by omega)) ?_);refine Bs _ rfl (by omega) (by omega) (A9 (K.ix (by omega) (by omega)) ?_);refine Bs ((i+1:Nat):Int) (by simp) (by omega) (by omega) (Au ⟨rfl,?_,g2.Ah (by omega)⟩);simp only;rw [List.take_add_one,List.getElem?_eq_getElem hi,List.foldl_append,← hw]
   rfl
  ·rintro⟨w,c⟩ ⟨hc,hw,hb⟩;simp only at hc hw hb;subst hc;unfold NX;rw [List.take_length] at hw;exact BH (by simp) (Au ⟨_,rfl,hw,hb.Ah (by omega)⟩)
 obtain⟨r,U,rfl,Y⟩:=this;exact⟨U,Y⟩
theorem Ya{l:List Int}{i:Nat}(hi:i<l.length):(l.take (i+1)).sum=(l.take i).sum+l[i]:=by
 rw [List.take_add_one,List.getElem?_eq_getElem hi,List.sum_append];simp only [Option.toList_some,List.sum_cons,List.sum_nil];omega
theorem cm{F:Nat}{l:List Int}(ac:100<F)(ag:l.length<=20)(hb:∀x∈l,-1000<=x/\x<=1000):f85 F l=some l.sum/\ -20000<=l.sum/\l.sum<=20000:=by
 have:BB (f85 F l) (λr=>r=l.sum/\ -20000<=r/\r<=20000):=by
  unfold f85;refine Bq (S:=λr=>r=l.sum/\ -20000<=r/\r<=20000) ?_ (λr U=>Au U);refine Dx l.length (λi s=>s.2=(i:Int)/\s.1=(l.take i).sum/\ -(1000*(i:Int))<=s.1/\s.1<=1000*(i:Int)) ⟨V,V,by simp,by simp⟩ (by omega) ?_ ?_
  ·rintro i ⟨w,c⟩ hi ⟨hc,hw,K,O⟩;simp only at hc hw K O;subst hc;have al:=hb _ (List.getElem_mem hi);unfold Og;refine Cf (by simp only;omega) (CZ (m:=i) V hi ?_);refine Bs _ V (by omega) (by omega) (Bs ((i+1:Nat):Int) (by simp) (by omega) (by omega) ?_);refine Au ⟨V,?_,?_,?_⟩
   ·simp only;rw [Ya hi,hw]
   ·simp only;omega
   ·simp only;omega
  ·rintro⟨w,c⟩ ⟨hc,hw,K,O⟩;simp only at hc hw K O;subst hc;unfold Og;rw [List.take_length] at hw;exact BH (by simp) (Au ⟨_,V,hw,by simp only;omega,by simp only;omega⟩)
 obtain⟨r,Y,rfl,Z⟩:=this;exact⟨Y,Z⟩
def VP(n:Nat)(x:PR):Prop:=0<=x.1/\x.1<x.2/\x.2<(n:Int)
def IE(b:Nat)(k:Nat):List PR:=(List.range k).map λa:Nat=>((a:Int),(b:Int))
def C5(n:Nat):List PR:=(List.range n).flatMap λb=>IE b b
theorem W0(b k:Nat):IE b (k+1)=IE b k++ [((k:Int),(b:Int))]:=by unfold IE;rw [List.range_succ,List.map_append];rfl
theorem V5(n:Nat):C5 (n+1)=C5 n++IE n n:=by unfold C5;rw [List.range_succ,List.flatMap_append];simp
theorem PF{n:Nat}{x:PR}(h:x∈C5 n):VP n x:=by
 unfold C5 IE at h;obtain⟨b,hb,h⟩:=List.mem_flatMap.1 h;obtain⟨a,K,rfl⟩:=List.mem_map.1 h;have:=List.mem_range.1 hb;have:=List.mem_range.1 K;exact⟨by simp only;omega,by simp only;omega,by simp only;omega⟩
theorem Sn(b k:Nat):(IE b k).length=k:=by unfold IE;simp
theorem RE{n:Nat}(h:n<=5):(C5 n).length<=10:=by
 have e:∀n,n<=5->(C5 n).length<=n*2:=by
  intro n K
  match n,K with
  | 0,_ | 1,_ | 2,_ | 3,_ | 4,_ | 5,_=>decide
 have:=e n h;omega
theorem ZJ{F:Nat}{o:OW}(Y:100<F)(Z:o.1.length<=5):f133 F o=some (C5 o.1.length):=by
 refine Df ?_;unfold f133;refine Bq (S:=λr=>r=C5 o.1.length) ?_ (λr U=>Au U);refine Dx o.1.length (λi s=>s.2=(i:Int)/\s.1=C5 i/\s.1.length<=10*i) ⟨V,V,by simp⟩ (by omega) ?_ ?_
 ·rintro i ⟨w,c⟩ hi ⟨hc,hw,O⟩;simp only at hc hw O;subst hc;unfold Nu;refine Cf (by simp only;omega) (Bq (S:=λr=>r=C5 i++IE i i) ?_ ?_)
  ·refine Dx i (λa s=>s.2=(a:Int)/\s.1=C5 i++IE i a) ⟨V,by simp [IE,hw]⟩ (by omega) ?_ ?_
   ·rintro a ⟨v,c⟩ ac ⟨hc,K⟩;simp only at hc K;subst hc;unfold Nv;refine Cf (by simp only;omega) (Pr ?_ ?_)
    ·rw [K,← hw,List.length_append,Sn];omega
    refine Bs ((a+1:Nat):Int) (by simp) (by omega) (by omega) (Au ⟨V,?_⟩);simp only;rw [W0,K,List.append_assoc]
   ·rintro⟨v,c⟩ ⟨hc,K⟩;simp only at hc K;subst hc;unfold Nv;exact BH (by simp) (Au ⟨_,V,K⟩)
  ·rintro r rfl;refine Bs ((i+1:Nat):Int) (by simp) (by omega) (by omega) (Au ⟨V,(V5 i).symm,?_⟩);simp only;rw [List.length_append,Sn,← hw];omega
 ·rintro⟨w,c⟩ ⟨hc,hw,O⟩;simp only at hc hw O;subst hc;unfold Nu;exact BH (by simp) (Au ⟨_,V,hw⟩)
def BE(p:Int)(x:PR):Bool:=decide (x.1=p) || decide (x.2=p)
theorem Rl{α:Type}{p:α->Bool}:∀{l:List α} {a:Nat},l.countP p=1->∀O:a<l.length,p l[a]=true->l.findIdx p=a
 | x::xs,0,_,_,K=>by
  have K:p x=true:=K
  rw [List.findIdx_cons,K];rfl
 | x::xs,a+1,h,O,K=>by
  have K:p (xs[a]'(by simpa using O))=true:=K
  have Y:0<xs.countP p:=List.countP_pos_iff.2 ⟨_,List.getElem_mem _,K⟩
  by_cases U:p x=true
  ·rw [List.countP_cons_of_pos U] at h;omega
  ·rw [List.countP_cons_of_neg U] at h;rw [List.findIdx_cons,Bool.eq_false_iff.2 U];simp only [cond_false];rw [Rl h (by simpa using O) K]
def IA(n:Nat)(l:List PR):Option Nat:=(List.range n).find? λp=>l.countP (BE p)==1
def dP(p:Int)(x:PR)(m:Int):DT:=if 0<m then(x.1+x.2 - p,p,m) else(p,x.1+x.2 - p,-m)
def Cr(n:Nat):Nat->List PR->List Int->List DT->Option (List DT)
 | 0,_,w,out=>if w=List.replicate 5 0 then some out else none
 | k+1,l,w,out=>(IA n l).bind λp=>
   if gN w p=0 then none else
    Cr n k (l.eraseIdx (l.findIdx (BE p))) (Hv w (dP p (l.getD (l.findIdx (BE p)) (0,0)) (gN w p))) (out++ [dP p (l.getD (l.findIdx (BE p)) (0,0)) (gN w p)])
def MH:Option (List DT)->Bool×List Int×List DT
 | none=>(true,default)
 | some out=>(false,List.replicate 5 0,out)
theorem Xa{F:Nat}{l:List PR}{p:Int}(al:100<F)(am:l.length<=20):BB (Pal.iter (Mk F l p) F (0,0,0)) (λr=>r.2=((l.countP (BE p):Nat):Int)/\(r.2=1->r.1=(l.findIdx (BE p):Nat)/\l.findIdx (BE p)<l.length)):=by
 refine Dx l.length (λi s=>s.2.2=(i:Int)/\s.2.1=(((l.take i).countP (BE p):Nat):Int)/\(s.2.1≠0->∃a,s.1=((a:Nat):Int)/\∃h:a<l.length,BE p l[a]=true)) ⟨V,by simp,by simp⟩ (by omega) ?_ ?_
 ·rintro i ⟨a,m,c⟩ hi ⟨hc,hm,K⟩;simp only at hc hm K;subst hc;have hle:(l.take i).countP (BE p)<=i:=by
   refine Nat.le_trans List.countP_le_length ?_;rw [List.length_take];omega
  unfold Mk;refine Cf (by simp only;omega) (CZ (m:=i) V hi ?_);refine Bq (S:=λc=>c=BE p l[i]) ?_ ?_
  ·unfold BE;refine BS (λh=>Au (by simp [h])) (λh=>Au (by simp [h]))
  rintro c rfl;have key:(l.take (i+1)).countP (BE p)=(l.take i).countP (BE p)+if BE p l[i]=true then 1 else 0:=by
   rw [List.take_add_one,List.getElem?_eq_getElem hi,List.countP_append];simp only [Option.toList_some,List.countP_cons,List.countP_nil,Nat.zero_add]
  refine Bq (S:=λr=>r.2=(((l.take (i+1)).countP (BE p):Nat):Int)/\(r.2≠0->∃a,r.1=((a:Nat):Int)/\∃h:a<l.length,BE p l[a]=true)) ?_ ?_
  ·refine BS (λh=>?_) (λh=>?_)
   ·refine Bs (((l.take (i+1)).countP (BE p):Nat):Int) ?_ (by omega) ?_ (Au ⟨V,λ_=>⟨i,V,hi,h⟩⟩)
    ·rw [key,if_pos h,hm];rfl
    ·rw [key,if_pos h];omega
   ·exact Au ⟨by rw [key,if_neg h];exact hm,K⟩
  ·rintro⟨ap,m'⟩ ⟨O,U⟩;simp only at O U ⊢;exact Bs ((i+1:Nat):Int) (by simp) (by omega) (by omega) (Au ⟨V,O,U⟩)
 ·rintro⟨a,m,c⟩ ⟨hc,hm,K⟩;simp only at hc hm K;subst hc;rw [List.take_length] at hm;unfold Mk;refine BH (by simp) (Au ⟨_,V,hm,λZ=>?_⟩);simp only at Z;obtain⟨k,ac,Y,ag⟩:=K (by omega);have:=Rl (p:=BE p) (l:=l) (a:=k) (by omega) Y ag;simp only;rw [this];exact⟨ac,Y⟩
theorem V8{n:Nat}{l:List PR}{i:Nat}(hi:i<n)(K:l.countP (BE i)=1)(h:∀p,p<i->l.countP (BE p)≠1):IA n l=some i:=by
 unfold IA;rw [List.find?_range_eq_some];exact⟨by simp [K],List.mem_range.2 hi,λj O=>by simpa using h j O⟩
theorem Wt{n:Nat}{l:List PR}(h:∀p,p<n->l.countP (BE p)≠1):IA n l=none:=by
 unfold IA;rw [List.find?_eq_none];intro p K;simpa using h p (List.mem_range.1 K)
theorem Vb{n:Nat}{p:Nat}{x:PR}{m B:Int}(U:n<=5)(O:VP n x)(K:BE p x=true)(Y: -B<=m)(Z:m<=B):0<=(dP p x m).1/\(dP p x m).1<5/\0<=(dP p x m).2.1/\(dP p x m).2.1<5/\0<=(dP p x m).2.2/\(dP p x m).2.2<=B:=by
 obtain⟨v1,v2,ac⟩:=O;unfold BE at K;simp at K;unfold dP;split <;> simp only <;> omega
theorem PG{α:Type}{l:List α}{i:Nat}{d:α}(h:i<l.length):l.getD i d=l[i]:=by rw [List.getD_eq_getElem?_getD,List.getElem?_eq_getElem h];rfl
theorem TK{F n:Nat}{q:OW}(Z:100<F)(az:q.1.length=n)(am:n<=5):∀(k N:Nat) (l:List PR) (w:List Int) (out:List DT) (B:Int),l.length=k->k<N->k<=10->(∀x∈l,VP n x)->BN B w->0<=B->B*3 ^ k<=1000000000000->out.length+k<=100->Lx N F l w q out=some (MH (Cr n k l w out))
 | 0,N,l,w,out,B,a0,a1,_,ac,hw,ap,aq,a2=>by
  obtain⟨N,rfl⟩:∃k,N=k+1:=⟨N - 1,by omega⟩
  refine Df ?_
  simp only [Lx]
  unfold Mv Cr
  refine Cf (by omega) ?_
  refine BS (λh=>Au ?_) (λh=>Au ?_)
  ·rw [if_neg h];rfl
  ·have h:=Decidable.not_not.1 h;rw [if_pos h,h];rfl
 | k+1,N,l,w,out,B,a0,a1,bo,ac,hw,ap,aq,a2=>by
  obtain⟨N,rfl⟩:∃k,N=k+1:=⟨N - 1,by omega⟩;refine Df ?_;simp only [Lx];unfold Mv;refine BH (by omega) ?_;have a3:B*3 ^ (k+1)=(3*B)*3 ^ k:=by rw [Int.pow_succ];rw [Int.mul_comm (3 ^ k) 3,← Int.mul_assoc,Int.mul_comm B 3]
  have a4:B<=1000000000000:=by
   have ag:(1:Int)<=3 ^ (k+1):=by
    have:(0:Int)<3 ^ (k+1):=Int.pow_pos (by decide);omega
   have:=Int.mul_le_mul_of_nonneg_left ag ap;omega
  refine Bq (S:=λr=>r=Sum.inl (MH (Cr n (k+1) l w out))∨(r=Sum.inr ()/\IA n l=none)) ?_ ?_
  ·refine Dx n (λi s=>s=(i:Int)/\∀p,p<i->l.countP (BE (p:Nat))≠1) ⟨V,by simp⟩ (by omega) ?_ ?_
   ·rintro i s hi ⟨rfl,O⟩;unfold NO;refine Cf (by omega) (Bq (S:=λr=>(r=Sum.inr ()/\l.countP (BE i)≠1)∨r=Sum.inl (MH (Cr n (k+1) l w out))) ?_ ?_)
    ·refine Bq (Xa Z (by omega)) ?_;rintro⟨a,m⟩ ⟨av,U⟩;simp only at av U ⊢;refine BS (λh=>Au (.inl ⟨V,λag=>h (by rw [av,ag];rfl)⟩)) (λh=>?_);have h:=Decidable.not_not.1 h;obtain⟨U,K⟩:=U h;have a5:l.countP (BE i)=1:=by omega
     subst U;have a6:=V8 hi a5 O;refine CZ (m:=l.findIdx (BE i)) V K (CZ (m:=l.findIdx (BE i)) V K ?_);have a7:BE i l[l.findIdx (BE i)]=true:=List.findIdx_getElem;have Y:=ac _ (List.getElem_mem K);have a8:=Y;obtain⟨bv,x2,bw⟩:=a8;have hb:=hw.bd (i:=i) (by omega);refine Bs (-(i:Int)) V (by omega) (by omega) (A9 (hw.ix (by omega) (by omega)) ?_);rw [show Int.toNat (i:Int)=i by omega];refine A9 (cm (l:= [_,_,_]) Z (by simp) (by simp;omega)).1 (Bs (-(gN w i)) V (by omega) (by omega) ?_);have aw:Cr n (k+1) l w out=if gN w i=0 then none else Cr n k (l.eraseIdx (l.findIdx (BE i))) (Hv w (dP i l[l.findIdx (BE i)] (gN w i))) (out++ [dP i l[l.findIdx (BE i)] (gN w i)]):=by
      simp only [Cr,a6,Option.bind_some,PG K]
     refine BS (λh=>Au (.inr ?_)) (λh=>?_)
     ·rw [aw,if_pos (by omega)];rfl
     have ay:=aw;rw [if_neg (show ¬gN w i=0 by omega)] at ay;rw [ay];refine Bq (S:=λr=>r=dP i l[l.findIdx (BE i)] (gN w i)) ?_ ?_
     ·unfold dP;refine BS (λh=>?_) (λh=>?_)
      ·refine Bs (gN w i) (by omega) (by omega) (by omega) (Au ?_);rw [if_pos (by omega)];simp only [List.sum_cons,List.sum_nil];refine Prod.ext ?_ V;simp only;omega
      ·refine Au ?_;rw [if_neg (by omega)];simp only [List.sum_cons,List.sum_nil];refine Prod.ext V (Prod.ext ?_ V);simp only;omega
     rintro d rfl;obtain⟨a9,e2,bb,be,bx,bi⟩:=Vb am Y a7 hb.1 hb.2;obtain⟨bn,g2⟩:=Tw (F:=F) hw a9 e2 bb be (by omega) bi a4;refine A9 bn (BB.Kj (by simp;omega) ?_);refine A9 (b:=l.take (l.findIdx (BE i))) (by unfold Hy;rw [if_pos (by omega)];simp) (Bs ((l.findIdx (BE i)+1:Nat):Int) (by simp) (by omega) (by omega) ?_);refine A9 (b:=l.drop (l.findIdx (BE i)+1)) ?_ ?_
     ·unfold Hy;rw [if_pos (by omega),show Int.toNat (l.length:Int)=l.length by omega,List.take_length,show Int.toNat ((l.findIdx (BE i)+1:Nat):Int)=l.findIdx (BE i)+1 by omega]
     refine BB.Kj (by simp;omega) ?_;have he:l.take (l.findIdx (BE i))++l.drop (l.findIdx (BE i)+1)=l.eraseIdx (l.findIdx (BE i)):=(List.eraseIdx_eq_take_drop_succ _ _).symm;rw [he];have hle:(l.eraseIdx (l.findIdx (BE i))).length=k:=by rw [List.length_eraseIdx_of_lt K];omega
     refine A9 (TK Z az am k N _ _ _ (3*B) hle (by omega) (by omega) (λx Y=>ac x (List.mem_of_mem_eraseIdx Y)) g2 (by omega) (by rw [← a3];exact aq) (by simp;omega)) ?_;rcases Cr n k _ _ _ with _ | r
     ·exact Cf V (Au (.inr V))
     ·exact BH (by simp [MH]) (Au (.inr V))
    ·rintro r (⟨rfl,h⟩ | rfl)
     ·rw [Sum.elim_inr];refine Bs ((i+1:Nat):Int) (by simp) (by omega) (by omega) (Au ⟨V,λp al=>?_⟩);rcases Nat.lt_succ_iff_lt_or_eq.1 al with al | rfl
      ·exact O p al
      ·exact h
     ·rw [Sum.elim_inl];exact Au (.inl V)
   ·rintro s ⟨rfl,O⟩;unfold NO;exact BH (by omega) (Au ⟨_,V,.inr ⟨V,Wt O⟩⟩)
  ·rintro r (rfl | ⟨rfl,h⟩)
   ·rw [Sum.elim_inl];exact Au V
   ·rw [Sum.elim_inr];refine Au ?_;simp only [Cr,h,Option.bind_none]
    rfl
def BD(d:DT):Prop:= -1000000000000000<=d.1/\d.1<=1000000000000000/\ -1000000000000000<=d.2.1/\d.2.1<=1000000000000000/\ -1000000000000000<=d.2.2/\d.2.2<=1000000000000000
theorem PK{n:Nat}(ac:n<=5):∀(k:Nat) (l:List PR) (w:List Int) (out r:List DT) (B:Int),l.length=k->(∀x∈l,VP n x)->BN B w->0<=B->B*3 ^ k<=1000000000000->(∀d∈out,BD d)->Cr n k l w out=some r->(∀d∈r,BD d)/\r.length=out.length+k
 | 0,l,w,out,r,B,ap,O,hw,ag,al,U,h=>by
  unfold Cr at h
  split at h
  ·cases h;exact⟨U,V⟩
  ·cases h
 | k+1,l,w,out,r,B,ap,O,hw,ag,al,U,h=>by
  have aq:B*3 ^ (k+1)=(3*B)*3 ^ k:=by rw [Int.pow_succ];rw [Int.mul_comm (3 ^ k) 3,← Int.mul_assoc,Int.mul_comm B 3]
  have av:B<=1000000000000:=by
   have aw:(1:Int)<=3 ^ (k+1):=by
    have:(0:Int)<3 ^ (k+1):=Int.pow_pos (by decide);omega
   have:=Int.mul_le_mul_of_nonneg_left aw ag;omega
  unfold Cr at h;obtain⟨p,am,h⟩:=bind_some h;split at h
  ·cases h
  unfold IA at am;obtain⟨c1,c2,c3⟩:=List.find?_range_eq_some.1 am;have hc:l.countP (BE p)=1:=by simpa using c1
  have c2:=List.mem_range.1 c2;have Y:l.findIdx (BE p)<l.length:=by
   obtain⟨x,K,Z⟩:=List.countP_pos_iff.1 (show 0<l.countP (BE p) by omega);exact List.findIdx_lt_length_of_exists ⟨x,K,Z⟩
  rw [PG Y] at h;have Z:BE p l[l.findIdx (BE p)]=true:=List.findIdx_getElem;have K:=O _ (List.getElem_mem Y);have hb:=hw.bd (i:=p) (by omega);obtain⟨ay,e2,az,a0,a3,a1⟩:=Vb ac K Z hb.1 hb.2;obtain⟨a4,g2⟩:=Tw (F:=0) hw ay e2 az a0 (by omega) a1 av;obtain⟨k1,a2⟩:=PK ac k _ _ _ r (3*B) (by rw [List.length_eraseIdx_of_lt Y];omega) (λx K=>O x (List.mem_of_mem_eraseIdx K)) g2 (by omega) (by rw [← aq];exact al) (by
   intro d hd
   rcases List.mem_append.1 hd with hd | hd
   ·exact U d hd
   ·cases List.mem_singleton.1 hd
    refine⟨?_,?_,?_,?_,?_,?_⟩ <;> omega) h
  refine⟨k1,?_⟩;rw [a2];simp;omega
theorem Rv{α:Type}(l:List α):l= []∨∃A y,l=A++ [y]:=by
 rcases List.eq_nil_or_concat l with h | ⟨A,y,h⟩
 ·exact .inl h
 ·exact .inr ⟨A,y,by rw [h,List.concat_eq_append]⟩
def LR{α:Type}(less:α->α->Option Bool)(s:Int×List α):Option (Bd (Int×List α) (List α)):=
 Option.bind (
  if 0<s.1 then(
   (ix s.2 (s.1)).bind λx=>
   (Ar (s.1 - 1)).bind λj=>
   (ix s.2 (j)).bind λy=>
   (less x y).bind λc=>
   some c
  ) else(
   some false
  )
 ) λc=>
 if c=true then(
  (Ar (s.1 - 1)).bind λj=>
  (Ar (s.1 - 1)).bind λk=>
  (ix s.2 (k)).bind λy=>
  (ix s.2 (s.1)).bind λx=>
  (ix (s.2.set (Int.toNat s.1) y) (j)).bind λ_=>
  (Ar (s.1 - 1)).bind λm=>
  some (.more (m,((s.2.set (Int.toNat s.1) y).set (Int.toNat j) x)))
 ) else(
  some (.done s.2)
 )
theorem S7{α:Type}{less:α->α->Option Bool}{lt:α->α->Bool}{F:Nat}{P:List α}{x:α}(R:List α)(av:P.length<F)(aw:P.length<=1024)(am:∀y∈P,less x y=some (lt x y)):
  BB (Pal.iter (LR less) F ((P.length:Int),P++x::R)) (λr=>∃A B,P=A++B/\r=A++x::(B++R)/\(∀b∈B,lt x b=true)/\(A= []∨∃K y,A=K++ [y]/\lt x y=false)):=by
 refine Py (λm s=>∃A B,A.length=m/\s.1=((m:Nat):Int)/\s.2=A++x::(B++R)/\P=A++B/\∀b∈B,lt x b=true) ?_ (m:=P.length) ⟨P,[],V,V,V,by simp,by simp⟩ (by omega);rintro m ⟨c,v⟩ ⟨A,B,U,hc,O,Y,ag⟩;simp only at hc O;subst hc;have ay:A.length+B.length=P.length:=by rw [Y,List.length_append]
 have al:v[m]? =some x:=by rw [O,List.getElem?_append_right (by omega),U,Nat.sub_self];rfl
 unfold LR;refine Bq (S:=λc=>(c=true/\∃K y,A=K++ [y]/\lt x y=true)∨(c=false/\(A= []∨∃K y,A=K++ [y]/\lt x y=false))) ?_ ?_
 ·refine BS (λh=>?_) (λh=>?_)
  ·simp only at h;rcases Rv A with rfl | ⟨K,y,rfl⟩
   ·simp at U;omega
   have ap:K.length+1=m:=by simpa using U
   have ac:v[m - 1]? =some y:=by rw [O,List.append_assoc,List.getElem?_append_right (by omega),show m - 1 - K.length=0 by omega];rfl
   refine A9 (HT V al) (Bs ((m - 1:Nat):Int) (by simp only;omega) (by omega) (by omega) ?_);refine A9 (HT V ac) (A9 (am y (by rw [Y];simp)) ?_);refine Au ?_;cases Z:lt x y with
   | true=>exact .inl ⟨rfl,K,y,rfl,Z⟩
   | false=>exact .inr ⟨rfl,.inr ⟨K,y,rfl,Z⟩⟩
  ·refine Au (.inr ⟨V,.inl ?_⟩);cases A with
   | nil=>rfl
   | cons a A=>simp at U h;omega
 ·rintro c (⟨rfl,K,y,rfl,Z⟩ | ⟨rfl,aq⟩)
  ·have ap:K.length+1=m:=by simpa using U
   have ac:v[m - 1]? =some y:=by rw [O,List.append_assoc,List.getElem?_append_right (by omega),show m - 1 - K.length=0 by omega];rfl
   have az:m<v.length:=by rw [O];simp;omega
   refine Cf V (Bs ((m - 1:Nat):Int) (by simp only;omega) (by omega) (by omega) ?_);refine Bs ((m - 1:Nat):Int) (by simp only;omega) (by omega) (by omega) (A9 (HT V ac) ?_);refine A9 (HT V al) (CZ (m:=m - 1) V (by simp only [List.length_set];omega) ?_);refine Bs ((m - 1:Nat):Int) (by simp only;omega) (by omega) (by omega) (Au ⟨m - 1,by omega,K,y::B,by omega,V,?_,by rw [Y];simp,λb hb=>?_⟩)
   ·simp only;rw [show Int.toNat ((m:Nat):Int)=K.length+1 by omega,show Int.toNat ((m - 1:Nat):Int)=K.length by omega,O];simp
   ·rcases List.mem_cons.1 hb with rfl | hb
    ·exact Z
    ·exact ag b hb
  ·exact BH (by simp) (Au ⟨A,B,Y,O,ag,aq⟩)
def EF(a b:DT):Bool:=decide (a.1<b.1∨(a.1=b.1/\(a.2.1<b.2.1∨(a.2.1=b.2.1/\a.2.2<b.2.2))))
theorem PX{a b:DT}:EF a b=true↔a.1<b.1∨(a.1=b.1/\(a.2.1<b.2.1∨(a.2.1=b.2.1/\a.2.2<b.2.2))):=by unfold EF;exact decide_eq_true_iff
theorem J0{a b:DT}:EF a b=false↔¬(a.1<b.1∨(a.1=b.1/\(a.2.1<b.2.1∨(a.2.1=b.2.1/\a.2.2<b.2.2)))):=by unfold EF;exact decide_eq_false_iff_not
theorem TO{F:Nat}{a b:DT}(K:BD a)(hb:BD b):BB (f113 F a b) (λc=>(c<0↔EF a b=true)/\(c=0↔a=b)):=by
 obtain⟨a1,O,U,Y,Z,ac⟩:=K;obtain⟨ag,al,am,ap,aq,av⟩:=hb;obtain⟨ax,ay,az⟩:=a;obtain⟨a0,a2,a3⟩:=b;simp only at a1 O U Y Z ac ag al am ap aq av;unfold f113;simp only [PX,Prod.mk.injEq];refine BS (λh=>?_) (λh=>?_)
 ·exact Bs _ V (by omega) (by omega) (Au ⟨by omega,by omega⟩)
 refine BS (λaw=>?_) (λaw=>?_)
 ·exact Bs _ V (by omega) (by omega) (Au ⟨by omega,by omega⟩)
 ·exact Bs _ V (by omega) (by omega) (Au ⟨by omega,by omega⟩)
def FM(x:DT):List DT->List DT
 | []=> [x]
 | y::ys=>if EF x y=true then x::y::ys else y::FM x ys
def Cs(l:List DT):List DT:=l.foldl (λa x=>FM x a) []
def MO(l:List DT):Prop:=l.Pairwise λa b=>EF b a=false
theorem PE{x d:DT}:∀{l:List DT},d∈FM x l↔d=x∨d∈l
 | []=>by simp [FM]
 | y::ys=>by
  unfold FM
  split
  ·simp
  ·rw [List.mem_cons,PE,List.mem_cons];constructor
   ·rintro(h | h | h)
    ·exact .inr (.inl h)
    ·exact .inl h
    ·exact .inr (.inr h)
   ·rintro(h | h | h)
    ·exact .inr (.inl h)
    ·exact .inl h
    ·exact .inr (.inr h)
theorem Sz{x:DT}:∀{l:List DT},(FM x l).length=l.length+1
 | []=>rfl
 | y::ys=>by
  unfold FM
  split
  ·rfl
  ·rw [List.length_cons,Sz];rfl
theorem S4{x:DT}:∀{l:List DT},MO l->MO (FM x l)
 | [],_=>List.pairwise_singleton _ _
 | y::ys,h=>by
  obtain⟨U,Y⟩:=List.pairwise_cons.1 h
  unfold FM
  split
  ·rename_i O
   refine List.pairwise_cons.2 ⟨λz K=>?_,h⟩;have O:=PX.1 O;rcases List.mem_cons.1 K with rfl | K
   ·rw [J0];omega
   ·have:=J0.1 (U z K);rw [J0];omega
  ·rename_i O;refine List.pairwise_cons.2 ⟨λz K=>?_,S4 Y⟩;rcases PE.1 K with rfl | K
   ·exact Bool.eq_false_iff.2 O
   ·exact U z K
theorem P1{x:DT}{B:List DT}(K:∀b∈B,EF x b=true):∀{A:List DT},(∀a∈A,EF x a=false)->FM x (A++B)=A++x::B
 | [],_=>by
  cases B with
  | nil=>rfl
  | cons b bs=>simp only [List.nil_append,FM,K b List.mem_cons_self,if_true]
 | a::A,O=>by
  have U:=O a List.mem_cons_self
  simp only [List.cons_append,FM,U]
  rw [if_neg (by decide),P1 K λz Y=>O z (List.mem_cons_of_mem _ Y)]
theorem La(l:List DT)(x:DT):Cs (l++ [x])=FM x (Cs l):=by unfold Cs;rw [List.foldl_append];rfl
theorem Tp:∀{k:Nat},k<=10->(3:Int) ^ k<=59049
 | 0,_ | 1,_ | 2,_ | 3,_ | 4,_ | 5,_ | 6,_ | 7,_ | 8,_ | 9,_ | 10,_=>by decide
 | _+11,h=>absurd h (by omega)
theorem KH{α:Type}{P:List α->Prop}(O:P [])(U:∀l x,P l->P (l++ [x])):∀l,P l:=by
 have:∀n (l:List α),l.length=n->P l:=by
  intro n
  induction n with
  | zero=>intro l K;cases List.length_eq_zero_iff.1 K;exact O
  | succ n Y=>
   intro l K;rcases Rv l with rfl | ⟨l',x,rfl⟩
   ·cases K
   ·exact U _ _ (Y _ (by simpa using K))
 exact λl=>this _ l V
theorem SM(l:List DT):MO (Cs l):=KH (P:=λl=>MO (Cs l)) List.Pairwise.nil (λl x h=>by rw [La];exact S4 h) l
theorem Pm{d:DT}(l:List DT):d∈Cs l↔d∈l:=KH (P:=λl=>d∈Cs l↔d∈l) (Iff.rfl) (λl x h=>by rw [La,PE,h];simp [or_comm]) l
theorem Lc(l:List DT):(Cs l).length=l.length:=KH (P:=λl=>(Cs l).length=l.length) V (λl x h=>by rw [La,Sz,h];simp) l
theorem WI(F:Nat):NS F 0=LR λx y=>(f113 F x y).bind λc=>some (decide (c<0)):=by
 funext s;unfold NS LR;simp only [Option.bind_assoc,Option.bind_some]
theorem RB{A B:List DT}{x y:DT}(O:MO ((A++ [y])++B))(U:EF x y=false):∀a∈A++ [y],EF x a=false:=by
 rw [List.append_assoc] at O;intro a K;rcases List.mem_append.1 K with K | K
 ·have Y:=(List.pairwise_append.1 O).2.2 a K y (by simp);have Z:=J0.1 Y;have ac:=J0.1 U;rw [J0];omega
 ·cases List.mem_singleton.1 K;exact U
theorem ZI{F:Nat}{l:List DT}(ay:100<F)(az:l.length<=20)(hb:∀d∈l,BD d):f193 F l 0 (l.length:Int)=some (Cs l):=by
 refine Df ?_;unfold f193;refine Bs 1 V (by omega) (by omega) (Bq (S:=λr=>r=Cs l) ?_ (λr U=>Au U));refine Dx (l.length - 1) (λi s=>s.1=((i+1:Nat):Int)/\s.2=Cs (l.take (i+1))++l.drop (i+1)) ⟨V,?_⟩ (by omega) ?_ ?_
 ·cases l with
  | nil=>rfl
  | cons x xs=>rfl
 ·rintro i ⟨c,w⟩ hi ⟨hc,hw⟩;simp only at hc hw;subst hc;have K:i+1<l.length:=by omega
  unfold NH;refine Cf (by simp only;omega) ?_;have Y:l.drop (i+1)=l[i+1]::l.drop (i+2):=List.drop_eq_getElem_cons K;have a0:(Cs (l.take (i+1))).length=i+1:=by rw [Lc,List.length_take];omega
  have Z:∀d∈Cs (l.take (i+1)),BD d:=λd hd=>hb d (List.mem_of_mem_take ((Pm _).1 hd));have ac:BD l[i+1]:=hb _ (List.getElem_mem K);have ag:Cs (l.take (i+2))=FM l[i+1] (Cs (l.take (i+1))):=by
   rw [List.take_add_one (i:=i+1),List.getElem?_eq_getElem K];exact La _ _
  have al:=SM (l.take (i+1));generalize l[i+1]=x at*;generalize Cs (l.take (i+1))=P at*;generalize l.drop (i+2)=R at*;refine Bq (S:=λr=>r=FM x P++R) ?_ ?_
  ·rw [WI,hw,Y];have am:((i+1:Nat):Int)=(P.length:Int):=by omega
   rw [am];refine(S7 (lt:=EF) R (by omega) (by omega) λy O=>?_).Ah ?_
   ·obtain⟨c,ap,aq,_⟩:=TO (F:=F) ac (Z y O);rw [ap,Option.bind_some];congr 1;rw [Bool.eq_iff_iff,decide_eq_true_eq];exact aq
   ·rintro r ⟨A,B,rfl,rfl,av,aw⟩;rw [P1 av ?_]
    ·simp
    ·rcases aw with rfl | ⟨a1,y,rfl,O⟩
     ·simp
     ·exact RB al O
  ·rintro r rfl;refine Bs ((i+1+1:Nat):Int) (by simp) (by omega) (by omega) (Au ⟨V,?_⟩);simp only;rw [ag]
 ·rintro⟨c,w⟩ ⟨hc,hw⟩;simp only at hc hw;subst hc;unfold NH;refine BH (by simp only;omega) (Au ⟨_,V,?_⟩);simp only;rw [hw,List.take_of_length_le (by omega),List.drop_eq_nil_of_le (by omega),List.append_nil]
theorem Zr{F:Nat}:∀n,n<=12->∃r,f115 F (C6 ((n:Nat):Int))=some r
 | 0,_ | 1,_ | 2,_ | 3,_ | 4,_ | 5,_ | 6,_ | 7,_ | 8,_ | 9,_ | 10,_ | 11,_ | 12,_=>⟨_,rfl⟩
 | _+13,h=>absurd h (by omega)
theorem aP{F:Nat}{l:List DT}(K:100<F)(O:l.length<=12)(hb:∀d∈l,BD d):f90 F l=some (Cs l):=by
 obtain⟨F,rfl⟩:∃k,F=k+1:=⟨F - 1,by omega⟩;obtain⟨x,U⟩:=Zr (F:=F+1) l.length O;refine Df ?_;unfold f90;refine A9 (b:=l) (by unfold f129 MA DD;rw [if_pos (by simp;omega)];rfl) (A9 (b:=Cs l) ?_ (Au V));refine Df ?_;unfold f130;refine A9 U (A9 (b:=Cs l) ?_ (Au V));refine Df ?_;unfold f169;refine Bq (S:=λr=>r=Sum.inl (Cs l)) ?_ (by rintro r rfl;rw [Sum.elim_inl];exact Au rfl);refine Dx 0 (λ_ _=>True) trivial (by omega) (by intro i s h;omega) ?_;rintro s -;unfold PU;refine Bs (l.length:Int) (by omega) (by omega) (by omega) (Cf (by omega) ?_);exact A9 (ZI K (by omega) hb) (Au ⟨_,V,V⟩)
def F0(n:Nat)(w:List Int)(S:List PR):Option (List DT):=(Cr n S.length S w []).map Cs
theorem ZE{F:Nat}{o:OW}{S:List PR}(K:100<F)(h:VO o)(O:S.length<=10)(U:∀x∈S,VP o.1.length x):f135 F o S=some (match F0 o.1.length (Cb o) S with | none=>([],false) | some r=>(r,true)):=by
 have Y:=h.n5;obtain⟨ac,g2⟩:=Mt K h;have Z:(200:Int)*3 ^ S.length<=1000000000000:=by
  have:=Tp O;omega
 have e:=TK (q:=o) K rfl Y S.length F S (Cb o) [] 200 rfl (by omega) O U g2 (by omega) Z (by simp;omega);have e2:f175 F o S=some (match F0 o.1.length (Cb o) S with | none=>(true,default) | some r=>(false,r)):=by
  refine Df ?_;unfold f175;refine A9 ac ?_;refine A9 (show f203 F S (Cb o) o []=_ from e) ?_;unfold F0;rcases ag:Cr o.1.length S.length S (Cb o) [] with _ | r
  ·exact Cf V (Au V)
  ·refine BH (by simp [MH]) ?_;obtain⟨k1,al⟩:=PK Y S.length S (Cb o) [] r 200 rfl U g2 (by omega) Z (by simp) ag;exact A9 (aP K (by show r.length<=12;rw [al];simp;omega) k1) (Au V)
 unfold f135;rw [e2,Option.bind_some];rcases F0 o.1.length (Cb o) S with _ | r
 ·rfl
 ·rfl
def Fx:Nat->List PR->List (List PR)
 | 0,_=> [[]]
 | _+1,[]=> []
 | m+1,x::xs=>(Fx m xs).map (x::·)++Fx (m+1) xs
theorem Pf:∀(m:Nat) (l:List PR),(Fx m l).length<=2 ^ l.length
 | 0,l=>by simp only [Fx,List.length_singleton];exact Nat.one_le_two_pow
 | m+1,[]=>by simp [Fx]
 | m+1,x::xs=>by
  have K:=Pf m xs;have O:=Pf (m+1) xs
  simp only [Fx,List.length_append,List.length_map,List.length_cons]
  rw [Nat.pow_succ];omega
theorem Nf{x:PR}:∀{m:Nat} {l c:List PR},c∈Fx m l->c.length=m/\(x∈c->x∈l)
 | 0,l,c,h=>by rw [show Fx 0 l= [[]] by cases l <;> rfl] at h;cases List.mem_singleton.1 h;exact⟨rfl,λh=>by cases h⟩
 | m+1,[],c,h=>by cases h
 | m+1,y::ys,c,h=>by
  rcases List.mem_append.1 h with h | h
  ·obtain⟨U,O,rfl⟩:=List.mem_map.1 h
   have:=Nf (x:=x) O;exact⟨by rw [List.length_cons,this.1],λK=>by
    rcases List.mem_cons.1 K with rfl | K
    ·exact List.mem_cons_self
    ·exact List.mem_cons_of_mem _ (this.2 K)⟩
  ·have:=Nf (x:=x) h;exact⟨this.1,λK=>List.mem_cons_of_mem _ (this.2 K)⟩
def Ct(n:Nat)(w:List Int)(P:PR->Bool)(m:Nat)(l ys:List PR):List (List DT):=(Fx m (ys.filter P)).filterMap λc=>F0 n w (l++c)
theorem SR{n:Nat}{w:List Int}{P:PR->Bool}{m:Nat}{l ys:List PR}:(Ct n w P m l ys).length<=2 ^ ys.length:=by
 unfold Ct;refine Nat.le_trans (List.length_filterMap_le _ _) (Nat.le_trans (Pf _ _) ?_);exact Nat.pow_le_pow_right (by decide) (List.length_filter_le _ _)
theorem Xb{n:Nat}{w:List Int}{P:PR->Bool}{m:Nat}{l xs:List PR}{x:PR}(h:P x=false):Ct n w P m l (x::xs)=Ct n w P m l xs:=by unfold Ct;rw [List.filter_cons_of_neg (by simp [h])]
theorem Xk{n:Nat}{w:List Int}{P:PR->Bool}{m:Nat}{l xs:List PR}{x:PR}(h:P x=true):Ct n w P (m+1) l (x::xs)=Ct n w P m (l++ [x]) xs++Ct n w P (m+1) l xs:=by
 unfold Ct;rw [List.filter_cons_of_pos h,Fx,List.filterMap_append,List.filterMap_map];congr 2;funext c;simp
theorem TJ{F:Nat}{o:OW}{ag m:Nat}{K:List PR}{P:PR->Bool}(al:100<F)(h:VO o)(hm:m<=5)(av:K.length<=10)(am:∀x∈K,VP o.1.length x)(ap:∀x,VP o.1.length x->f136 F ag x.1 x.2=some (!P x)):
  ∀(k N:Nat) (l:List PR) (i:Nat) (b:List (List DT)),l.length+k=m->k<N->i<=K.length->(∀x∈l,VP o.1.length x)->b.length+2 ^ (K.length - i)<=1000000->
   Ly N F l (i:Int) (m:Int) o K ag b=some (true,b++Ct o.1.length (Cb o) P k l (K.drop i))
 | 0,N,l,i,b,aw,ay,hi,ac,hb=>by
  obtain⟨N,rfl⟩:∃k,N=k+1:=⟨N - 1,by omega⟩
  have a4:1<=2 ^ (K.length - i):=Nat.one_le_two_pow
  refine Df ?_
  simp only [Ly]
  unfold Mw
  refine Cf (by omega) ?_
  refine A9 (ZE al h (by omega) ac) ?_
  refine Bq (S:=λr=>r=(true,b++Ct o.1.length (Cb o) P 0 l (K.drop i))) ?_ (λr az=>Au az)
  have e:Ct o.1.length (Cb o) P 0 l (K.drop i)=(F0 o.1.length (Cb o) l).toList:=by
   unfold Ct;simp only [Fx,List.filterMap_cons,List.append_nil,List.filterMap_nil];cases F0 o.1.length (Cb o) l <;> rfl
  rw [e];rcases F0 o.1.length (Cb o) l with _ | r
  ·exact Cf V (Au (by simp))
  ·exact BH (by simp) (Pr (by omega) (Au V))
 | k+1,N,l,i,b,aw,ay,hi,ac,hb=>by
  obtain⟨N,rfl⟩:∃k,N=k+1:=⟨N - 1,by omega⟩;refine Df ?_;simp only [Ly];unfold Mw;refine BH (by omega) (Bq (S:=λr=>r=Sum.inr (b++Ct o.1.length (Cb o) P (k+1) l (K.drop i))) ?_ (by rintro r rfl;rw [Sum.elim_inr];exact Au rfl));refine Py (λz s=>∃j,z=K.length - j/\j<=K.length/\s.2=((j:Nat):Int)/\s.1++Ct o.1.length (Cb o) P (k+1) l (K.drop j)=b++Ct o.1.length (Cb o) P (k+1) l (K.drop i)/\s.1.length+2 ^ (K.length - j)<=1000000) ?_ (m:=K.length - i) ⟨i,V,hi,V,V,hb⟩ (by omega);rintro z ⟨acc,c⟩ ⟨j,rfl,a5,hc,he,hlen⟩;simp only at hc he hlen;subst hc;unfold PS;refine BS (λa0=>?_) (λa1=>?_)
  ·simp only at a0;have O:j<K.length:=by omega
   have hd:K.drop j=K[j]::K.drop (j+1):=List.drop_eq_getElem_cons O;have aq:=am _ (List.getElem_mem O);have a6:2 ^ (K.length - j)=2 ^ (K.length - (j+1))+2 ^ (K.length - (j+1)):=by
    rw [show K.length - j=K.length - (j+1)+1 by omega,Nat.pow_succ];omega
   have a7:0<2 ^ (K.length - (j+1)):=Nat.two_pow_pos _;refine Bq (S:=λr=>∃Y,r=Sum.inr Y/\Y++Ct o.1.length (Cb o) P (k+1) l (K.drop (j+1))=acc++Ct o.1.length (Cb o) P (k+1) l (K.drop j)/\Y.length+2 ^ (K.length - (j+1))<=1000000) ?_ ?_
   ·refine CZ (m:=j) V O (CZ (m:=j) V O ?_);refine A9 (ap _ aq) ?_;by_cases Z:P K[j]=true
    ·refine BH (by simp [Z]) ?_;refine CZ (m:=j) V O ?_;refine Bs ((j+1:Nat):Int) (by simp) (by omega) (by omega) ?_;refine BB.Kj (by simp;omega) ?_;refine A9 (TJ al h hm av am ap k N (l++ [K[j]]) (j+1) acc (by simp;omega) (by omega) (by omega) (λx U=>by
      rcases List.mem_append.1 U with U | U
      ·exact ac x U
      ·cases List.mem_singleton.1 U;exact aq) (by omega)) ?_
     refine BH (by simp) (Au ⟨_,V,?_,?_⟩)
     ·rw [hd,Xk Z,List.append_assoc]
     ·have:=SR (n:=o.1.length) (w:=Cb o) (P:=P) (m:=k) (l:=l++ [K[j]]) (ys:=K.drop (j+1));rw [List.length_drop] at this;rw [List.length_append];omega
    ·refine Cf (by simp [Z]) (Au ⟨_,V,?_,by simp only;omega⟩);rw [hd,Xb (Bool.eq_false_iff.2 Z)]
   ·rintro r ⟨Y,rfl,a2,a3⟩;rw [Sum.elim_inr];exact Bs ((j+1:Nat):Int) (by simp) (by omega) (by omega) (Au ⟨K.length - (j+1),by omega,j+1,V,by omega,V,a2.trans he,a3⟩)
  ·simp only at a1;refine Au ?_;have:K.drop j= []:=List.drop_eq_nil_of_le (by omega);rw [this] at he;show Sum.inr _=_;rw [← he];unfold Ct;simp [Fx]
def FW(n:Nat)(w:List Int)(P:PR->Bool):List (List DT):=(((List.range n).map λm=>Ct n w P m [] (C5 n)).find? λl=> !l.isEmpty).getD []
theorem TX{F O:Nat}{o:OW}{P:PR->Bool}(Y:100<F)(h:VO o)(ag:∀x,VP o.1.length x->f136 F O x.1 x.2=some (!P x)):f71 F o O=some (FW o.1.length (Cb o) P):=by
 have Z:=h.n5;have al:=RE Z;refine Df ?_;unfold f71;have am:∀m,m<=5->f132 F o ((m:Nat):Int) O []=some (Ct o.1.length (Cb o) P m [] (C5 o.1.length)):=by
  intro m hm;refine Df ?_;unfold f132;refine A9 (ZJ Y Z) ?_;have ap:2 ^ ((C5 o.1.length).length - 0)<=2 ^ 10:=Nat.pow_le_pow_right (by decide) (by omega);exact A9 (show f134 F [] 0 (m:Int) o (C5 o.1.length) O []=_ from TJ Y h hm al (λx aq=>PF aq) ag m F [] 0 [] (by simp) (by omega) (by omega) (by simp) (by simp at ap ⊢;omega)) (Au (by simp))
 refine Dx o.1.length (λi s=>s=(i:Int)/\∀j,j<i->Ct o.1.length (Cb o) P j [] (C5 o.1.length)= []) ⟨V,by simp⟩ (by omega) ?_ ?_
 ·rintro i s hi ⟨rfl,U⟩;unfold Oz;refine Cf (by omega) (A9 (am i (by omega)) ?_);refine BS (λac=>Au ?_) (λaw=>?_)
  ·show _=_;unfold FW;rw [List.find?_map,show(List.range o.1.length).find? _=some i from List.find?_range_eq_some.2 ⟨?_,List.mem_range.2 hi,λj K=>?_⟩]
   ·rfl
   ·simp only [Function.comp];cases av:Ct o.1.length (Cb o) P i [] (C5 o.1.length) with
    | nil=>rw [av] at ac;simp at ac
    | cons=>rfl
   ·simp only [Function.comp];rw [U j K];rfl
  ·refine Bs ((i+1:Nat):Int) (by simp) (by omega) (by omega) (Au ⟨V,λj K=>?_⟩);rcases Nat.lt_succ_iff_lt_or_eq.1 K with K | rfl
   ·exact U j K
   ·exact List.length_eq_zero_iff.1 (by omega)
 ·rintro s ⟨rfl,U⟩;unfold Oz;refine BH (by omega) (Au ⟨_,V,?_⟩);unfold FW;rw [List.find?_map,show(List.range o.1.length).find? _=none from List.find?_eq_none.2 ?_]
  ·rfl
  ·intro j K;simp only [Function.comp];rw [U j (List.mem_range.1 K)];simp
theorem bU{F n:Nat}(U:n<=5)(x:PR)(K:VP n x):f136 F 0 x.1 x.2=some (!(λ_=>true) x):=by
 obtain⟨Y,Z,ac⟩:=K;obtain⟨a,O⟩:∃a:Nat,x.1=(a:Int):=⟨x.1.toNat,by omega⟩;obtain⟨b,hb⟩:∃b:Nat,x.2=(b:Int):=⟨x.2.toNat,by omega⟩;rw [O,hb];have:b<=4:=by omega
 have:a<b:=by omega
 match a,b with
 | 0,1 | 0,2 | 0,3 | 0,4 | 1,2 | 1,3 | 1,4 | 2,3 | 2,4 | 3,4=>rfl
 | 0,0=>omega
 | a+1,0=>omega
 | a+1,1=>omega
 | a+2,2=>omega
 | a+3,3=>omega
 | a+4,4=>omega
 | a,b+5=>omega
abbrev Fp(o:OW):List (List DT):=FW o.1.length (Cb o) λ_=>true
theorem QQ{F:Nat}{o:OW}(K:100<F)(h:VO o):f71 F o 0=some (Fp o):=TX K h λx O=>bU h.n5 x O
theorem Yp{n:Nat}{w:List Int}{P:PR->Bool}{m:Nat}{s:List DT}(O:n<=5)(hm:m<=5)(hw:BN 200 w)(K:s∈Ct n w P m [] (C5 n)):s.length=m/\∀d∈s,BD d:=by
 unfold Ct at K;obtain⟨c,hc,K⟩:=List.mem_filterMap.1 K;rw [List.nil_append] at K;unfold F0 at K;obtain⟨r,U,rfl⟩:=Option.map_eq_some_iff.1 K;have Y:=(Nf (x:=(0,0)) hc).1;have Z:∀x∈c,VP n x:=λx ac=>PF (List.mem_filter.1 ((Nf hc).2 ac)).1;have ag:(200:Int)*3 ^ c.length<=1000000000000:=by
  have:=Tp (k:=c.length) (by omega);omega
 obtain⟨k1,al⟩:=PK O c.length c w [] r 200 rfl Z hw (by omega) ag (by simp) U;refine⟨by rw [Lc,al,Y];simp,λd hd=>k1 d ((Pm _).1 hd)⟩
theorem TI{n:Nat}{w:List Int}{P:PR->Bool}:FW n w P= []∨∃m,m<n/\FW n w P=Ct n w P m [] (C5 n)/\(∀j,j<m->Ct n w P j [] (C5 n)= []):=by
 unfold FW;rw [List.find?_map];rcases h:(List.range n).find? ((λl:List (List DT)=> !l.isEmpty)∘λm=>Ct n w P m [] (C5 n)) with _ | m
 ·exact .inl V
 ·obtain⟨Y,K,O⟩:=List.find?_range_eq_some.1 h;refine .inr ⟨m,List.mem_range.1 K,V,λj U=>?_⟩;have:=O j U;simpa using this
theorem Qb{n:Nat}{w:List Int}{P:PR->Bool}(K:n<=5)(hw:BN 200 w):(FW n w P).length<=1024/\∃m,m<=5/\∀s∈FW n w P,s.length=m/\∀d∈s,BD d:=by
 rcases TI (n:=n) (w:=w) (P:=P) with h | ⟨m,hm,h,_⟩
 ·rw [h];exact⟨by simp,0,by omega,by simp⟩
 ·rw [h];refine⟨?_,m,by omega,λs O=>Yp K (by omega) hw O⟩;exact Nat.le_trans SR (Nat.le_trans (Nat.pow_le_pow_right (by decide) (RE K)) (by decide))
def CJ:List DT->List DT->Bool
 | [],[]=>false
 | [],_::_=>true
 | _::_,[]=>false
 | x::xs,y::ys=>if x=y then CJ xs ys else EF x y
theorem Pz{a b:List DT}:∀{i:Nat},i<=a.length->i<=b.length->a.take i=b.take i->CJ a b=CJ (a.drop i) (b.drop i):=by
 induction a generalizing b with
 | nil=>intro i K _ _;simp at K;subst K;simp
 | cons x xs U=>
  intro i K O h;cases i with
  | zero=>simp
  | succ i=>
   cases b with
   | nil=>simp at O
   | cons y ys=>
    simp only [List.take_succ_cons,List.cons.injEq] at h;simp only [List.drop_succ_cons];rw [CJ,if_pos h.1];exact U (by simpa using K) (by simpa using O) h.2
theorem ZH{F:Nat}{a b:List DT}(ag:100<F)(al:a.length<=40)(U:∀d∈a,BD d)(Y:∀d∈b,BD d):BB (f112 F a b) (λc=>c<0↔CJ a b=true):=by
 unfold f112;refine Bq (S:=λr=>(∃c,r=Sum.inl c/\(c<0↔CJ a b=true))∨(r=Sum.inr ()/\a.length<=b.length/\a=b.take a.length)) ?_ ?_
 ·refine Dx a.length (λi s=>s=(i:Int)/\i<=b.length/\a.take i=b.take i) ⟨V,by simp,by simp⟩ (by omega) ?_ ?_
  ·rintro i s hi ⟨rfl,K,he⟩;unfold NJ;have O:a.drop i=a[i]::a.drop (i+1):=List.drop_eq_getElem_cons hi;refine Cf (by omega) (CZ (m:=i) V hi ?_);refine BS (λh=>Au (.inl ⟨1,V,?_⟩)) (λh=>?_)
   ·rw [Pz (i:=i) (by omega) K he,O,List.drop_eq_nil_of_le (by omega:b.length<=i)];simp [CJ]
   have hb:i<b.length:=by omega
   have Z:b.drop i=b[i]::b.drop (i+1):=List.drop_eq_getElem_cons hb;refine CZ (m:=i) V hb ?_;refine Bq (TO (U _ (List.getElem_mem hi)) (Y _ (List.getElem_mem hb))) ?_;rintro c ⟨c1,c2⟩;refine BS (λh=>Au (.inl ⟨c,V,?_⟩)) (λh=>?_)
   ·rw [Pz (i:=i) (by omega) K he,O,Z,CJ,if_neg (λk=>h (c2.2 k))];exact c1
   ·have heq:=c2.1 (Decidable.not_not.1 h);refine Bs ((i+1:Nat):Int) (by simp) (by omega) (by omega) ?_;refine Au ⟨V,by omega,?_⟩;rw [List.take_add_one,List.take_add_one,he,List.getElem?_eq_getElem hi,List.getElem?_eq_getElem hb,heq]
  ·rintro s ⟨rfl,K,he⟩;unfold NJ;rw [List.take_length] at he;exact BH (by omega) (Au ⟨_,V,.inr ⟨V,K,he⟩⟩)
 ·rintro r (⟨c,rfl,hc⟩ | ⟨rfl,ac,he⟩)
  ·rw [Sum.elim_inl];exact Au hc
  ·rw [Sum.elim_inr];have e:CJ a b=CJ [] (b.drop a.length):=by
    rw [Pz (i:=a.length) (Nat.le_refl _) ac (by rw [List.take_length];exact he),List.drop_length]
   refine BS (λh=>Au ?_) (λh=>Au ?_)
   ·rw [e];cases hd:b.drop a.length with
    | nil=>have:=congrArg List.length hd;simp at this;omega
    | cons=>simp [CJ]
   ·rw [e,List.drop_eq_nil_of_le (by omega)];simp [CJ]
def DZ(b:List DT×Bool)(x:List DT):List DT×Bool:=if(!b.2 || CJ x b.1)=true then(x,true) else b
def Jv(l:List (List DT)):List DT:=(l.foldl DZ ([],false)).1
theorem ck{F:Nat}{o:OW}(av:2000<F)(h:VO o):f22 F o=some (Jv (Fp o),0):=by
 obtain⟨aw,ag⟩:=Mt (F:=F) (by omega) h;obtain⟨al,m,hm,am⟩:=Qb (P:=λ_=>true) h.n5 ag;refine Df ?_;unfold f22;refine A9 (U3 (by omega) h) (BH (by simp) ?_);refine A9 (QQ (by omega) h) (Bq (S:=λr=>r.1=Jv (Fp o)) ?_ (λr Y=>Au (by rw [Y])));have ap:(Fp o).length<=1024:=al;have Z:∀s∈Fp o,s.length=m/\∀d∈s,BD d:=am;generalize Fp o=L at ap Z ⊢;refine Dx L.length (λi s=>s.2.2=(i:Int)/\(s.1,s.2.1)=(L.take i).foldl DZ ([],false)/\∀d∈s.1,BD d) ⟨V,V,by simp⟩ (by omega) ?_ ?_
 ·rintro i ⟨b,t,c⟩ hi ⟨hc,K,O⟩;simp only at hc K O;subst hc;obtain⟨ay,ac⟩:=Z _ (List.getElem_mem hi);have aq:(L.take (i+1)).foldl DZ ([],false)=DZ (b,t) L[i]:=by
   rw [List.take_add_one,List.getElem?_eq_getElem hi,List.foldl_append,← K];rfl
  unfold Oa;refine Cf (by simp only;omega) (CZ (m:=i) V hi ?_);refine A9 (b:=DZ (b,t) L[i]) ?_ ?_
  ·refine Df ?_;unfold f72;refine Bq (S:=λc=>c=(!t || CJ L[i] b)) ?_ ?_
   ·refine BS (λh=>Au ?_) (λh=>?_)
    ·simp only at h;rw [h];rfl
    ·simp only at h;obtain rfl:t=true:=by simpa using h
     refine Bq (S:=λc=>c=CJ L[i] b) ?_ (λc hc=>Au (by rw [hc];simp));unfold f73 f74;refine Bq (S:=λc=>c<0↔CJ L[i] b=true) (Bq (ZH (by omega) (by omega) ac O) (λc hc=>Au hc)) ?_;intro c hc;refine Au ?_;by_cases U:CJ L[i] b=true
     ·rw [U];exact decide_eq_true (hc.2 U)
     ·rw [Bool.eq_false_iff.2 U];exact decide_eq_false λk=>U (hc.1 k)
   ·rintro c rfl;refine Bq (S:=λr=>r=DZ (b,t) L[i]) ?_ (λr Y=>Au Y);unfold DZ;refine BS (λh=>Au ?_) (λh=>Au ?_)
    ·rw [if_pos h]
    ·rw [if_neg h]
  ·refine Bs ((i+1:Nat):Int) (by simp) (by omega) (by omega) (Au ⟨V,aq.symm,?_⟩);simp only;unfold DZ;split
   ·exact ac
   ·exact O
 ·rintro⟨b,t,c⟩ ⟨hc,K,O⟩;simp only at hc K O;subst hc;rw [List.take_length] at K;unfold Oa;refine BH (by simp) (Au ⟨_,V,?_⟩);simp only;unfold Jv;rw [← K]
theorem ar{F:Nat}{o:OW}(K:2000<F)(h:VO o):f24 F o=some (((Fp o).length:Int),0):=by
 refine Df ?_;unfold f24;refine A9 (U3 (by omega) h) (BH (by simp) ?_);exact A9 (QQ (by omega) h) (Au V)
theorem WZ{l:List (List DT)}:Jv l= []∨Jv l∈l:=by
 have:∀l:List (List DT),(l.foldl DZ ([],false)).1= []∨(l.foldl DZ ([],false)).1∈l:=by
  intro l;refine KH (P:=λl=>(l.foldl DZ ([],false)).1= []∨(l.foldl DZ ([],false)).1∈l) (.inl V) (λl x h=>?_) l;rw [List.foldl_append];show(DZ _ x).1= []∨(DZ _ x).1∈l++ [x];generalize l.foldl DZ ([],false)=b at*;unfold DZ;split
  ·exact .inr (by simp)
  ·rcases h with h | h
   ·exact .inl h
   ·exact .inr (List.mem_append_left _ h)
 exact this l
theorem V1{o:OW}(h:VO o):(Jv (Fp o)).length<=5:=by
 obtain⟨U,K⟩:=Mt (F:=101) (by omega) h;obtain⟨Y,m,hm,O⟩:=Qb (P:=λ_=>true) h.n5 K;rcases WZ (l:=Fp o) with e | e
 ·rw [e];simp
 ·have:=(O _ e).1;omega
def cI(o:OW)(a b:Int):Bool:=o.2.any λd=>decide (d.1=a)&&decide (d.2.1=b)
def Fj(c:List Int):Int:=c.getD (c.length - 1) 0
def dX(o:OW)(c:List Int)(h:Nat):Bool:= !decide ((h:Int)∈c)&&(decide (c= []) || cI o (Fj c) h)
def dJ(o:OW)(c:List Int)(i:Nat):List (List Int):=((List.range i).filter (dX o c)).map λh:Nat=>c++ [(h:Int)]
def ext(o:OW)(c:List Int):List (List Int):=dJ o c o.1.length
def Zb(n:Nat)(w:List Int):Prop:=∀j,n<=j->gN w j=0
theorem PO{w:List Int}{n:Nat}{i:Int}{B:Int}(hb:BN B w)(K:n<=5)(O:0<=i)(hi:i<n):ix (w.take n) i=some (gN w i.toNat):=by
 have U:=hb.1;have:i.toNat<(w.take n).length:=by rw [List.length_take];omega
 refine HT (m:=i.toNat) (by omega) ?_;rw [List.getElem?_eq_getElem this,List.getElem_take,Mr (by omega)]
theorem UI{w:List Int}{i j:Nat}{v:Int}(h:i≠j):gN (w.set i v) j=gN w j:=by
 unfold gN;rw [List.getD_eq_getElem?_getD,List.getElem?_set_ne h,List.getD_eq_getElem?_getD]
theorem Yn{w:List Int}{d:DT}{n:Nat}(O:0<=d.1)(U:0<=d.2.1)(Y:d.1≠d.2.1):(GL w d).take n=((w.take n).set d.1.toNat (gN w d.1.toNat - d.2.2)).set d.2.1.toNat (gN w d.2.1.toNat+d.2.2):=by
 unfold GL Fh;have K:d.2.1.toNat≠d.1.toNat:=by omega
 rw [UI K,List.take_set,List.take_set,List.set_comm _ _ K,Int.sub_eq_add_neg]
theorem Zb.add{n:Nat}{w:List Int}{i v:Int}(h:Zb n w)(hi:i<n)(O:0<=i):Zb n (Fh w i v):=λj K=>by
 unfold Fh
 rw [UI (by omega)]
 exact h j K
theorem Zb.zero(n:Nat):Zb n (List.replicate 5 0):=λj _=>by
 unfold gN
 rw [List.getD_eq_getElem?_getD,List.getElem?_replicate]
 split <;> rfl
theorem Zs{o:OW}(h:VO o):Zb o.1.length (Cb o):=by
 have:∀(ds:List DT) (w:List Int),Zb o.1.length w->(∀d∈ds,VD o.1.length d)->Zb o.1.length (ds.foldl GL w):=by
  intro ds
  induction ds with
  | nil=>exact λw hw _=>hw
  | cons d ds K=>
   intro w hw hd;obtain⟨v1,v2,O,v4,_⟩:=hd d List.mem_cons_self;exact K _ ((hw.add v4 O).add v2 v1) λx U=>hd x (List.mem_cons_of_mem _ U)
 exact this _ _ (Zb.zero _) h.ds
theorem Z3{F:Nat}{o:OW}(ag:100<F)(h:VO o):f89 F o=some ((Cb o).take o.1.length):=by
 have O:=h.n5;have al:=h.d8;refine Df ?_;unfold f89;refine A9 (b:=List.replicate o.1.length 0) ?_ ?_
 ·unfold Jx;rw [if_pos (by omega)];rfl
 refine Bq (S:=λr=>r=(Cb o).take o.1.length) ?_ (λr U=>Au U);refine Dx o.2.length (λi s=>s.2=(i:Int)/\∃w,s.1=w.take o.1.length/\w=(o.2.take i).foldl GL (List.replicate 5 0)/\BN (20*i) w) ⟨rfl,List.replicate 5 0,by rw [List.take_replicate,Nat.min_eq_left O],rfl,rfl,by simp⟩ (by omega) ?_ ?_
 ·rintro i ⟨s,c⟩ hi ⟨hc,w,K,hw,hb⟩;simp only at hc K;subst hc;subst K;obtain⟨v1,v2,Y,v4,Z,v6,am⟩:=h.ds _ (List.getElem_mem hi);have ac:=hb.add (i:=o.2[i].2.1) (v:=o.2[i].2.2) (V:=10) (by omega) (by omega) (by omega) (by omega);have g2:=ac.add (i:=o.2[i].1) (v:= -o.2[i].2.2) (V:=10) (by omega) (by omega) (by omega) (by omega);have k1:=hb.bd (i:=o.2[i].2.1.toNat) (by omega);have ap:=hb.bd (i:=o.2[i].1.toNat) (by omega);unfold N5;refine Cf (by simp only;omega) (CZ (m:=i) rfl hi ?_);refine A9 (PO hb O (by omega) (by omega)) (A9 (PO hb O (by omega) (by omega)) ?_);refine Bs _ rfl (by omega) (by omega) (A9 (PO hb O (by omega) (by omega)) ?_);refine Bs _ rfl (by omega) (by omega) (Bs ((i+1:Nat):Int) (by simp) (by omega) (by omega) ?_);refine Au ⟨rfl,GL w o.2[i],(Yn v1 Y Z).symm,?_,g2.Ah (by omega)⟩;rw [List.take_add_one,List.getElem?_eq_getElem hi,List.foldl_append,← hw]
  rfl
 ·rintro⟨s,c⟩ ⟨hc,w,K,hw,hb⟩;simp only at hc K;subst hc;unfold N5;rw [List.take_length] at hw;exact BH (by simp) (Au ⟨_,rfl,by simp only;rw [K,hw];rfl⟩)
def JE(p:PR)(x:PR):Bool:=decide (x≠p)
theorem Wq{α:Type}{l:List α}{i:Nat}(h:i<l.length):(l[i]::l.eraseIdx i).Perm l:=by
 rw [List.eraseIdx_eq_take_drop_succ];refine List.perm_middle.symm.trans ?_;rw [← List.drop_eq_getElem_cons h,List.take_append_drop]
def Vn(w l:List Int)(g:Int):Nat->Int
 | 0=>0
 | i+1=>Vn w l g i+if l.getD i 0=g then gN w i else 0
def sm(w l:List Int)(g:Int):Int:=Vn w l g l.length
open Go Go.Conc Go.Proofs Go.Proofs.Tryz
variable {E:LH}
variable {J:Judge Tryz.prog}
end Pal
namespace Pal
theorem b7{w:List Int}{d:DT}(h:w.length=5)(a1:0<=d.1)(K:d.1<5)(O:0<=d.2.1)(U:d.2.1<5)(j:Nat):gN (GL w d) j=gN w j+(if(j:Int)=d.2.1 then d.2.2 else 0)+(if(j:Int)=d.1 then -d.2.2 else 0):=by
 unfold GL;rw [KI (by unfold Fh;rw [List.length_set];exact h) a1 K,KI h O U]
theorem YZ{w:List Int}{d:DT}(h:w.length=5):(GL w d).length=5:=by unfold GL Fh;rw [List.length_set,List.length_set];exact h
theorem bu{F:Nat}{o:OW}(K:100<F)(h:VO o):f55 F o=some ((Cb o).take o.1.length):=by
 rw [← Z3 K h];have e:Qt F o=N5 F o:=by funext s;rfl
 unfold f55 f89;rw [e]
open Go Go.Conc Go.Proofs Go.Proofs.Tryz
variable {E:LH}
variable {J:Judge Tryz.prog}
variable {J:Judge Tryz.prog}
end Pal
namespace Pal
def HY(d:DT):PR:=(d.1,d.2.1)
def dQ(p:Int)(x:PR)(m:Int):PR:=if 0<m then(x.1+x.2 - p,p) else(p,x.1+x.2 - p)
def U9(n:Nat):Nat->List PR->((Nat->Bool)->Int)->List PR->Option (List PR)
 | 0,_,T,out=>if(List.range 5).all (λj=>decide (T (λi=>i==j)=0))=true then some out else none
 | k+1,l,T,out=>(IA n l).bind λp=>
   if T (λj=>j==p)=0 then none else
    U9 n k (l.eraseIdx (l.findIdx (BE p))) (λA=>T λj=>if j=p then A ((l.getD (l.findIdx (BE p)) (0,0)).1+(l.getD (l.findIdx (BE p)) (0,0)).2 - (p:Int)).toNat else A j) (out++ [dQ p (l.getD (l.findIdx (BE p)) (0,0)) (T (λj=>j==p))])
def dR(n:Nat)(T:(Nat->Bool)->Int)(P:PR->Bool)(m:Nat):List (List PR):=(Fx m ((C5 n).filter P)).filterMap λS=>U9 n S.length S T []
def FD(n:Nat)(T:(Nat->Bool)->Int)(P:PR->Bool):List (List PR):=(((List.range n).map λm=>dR n T P m).find? λl=> !l.isEmpty).getD []
def KU(w:List Int):Int:=gN w 0+gN w 1+gN w 2+gN w 3+gN w 4
theorem SV{w:List Int}{i v:Int}(hw:w.length=5)(K:0<=i)(O:i<5):KU (Fh w i v)=KU w+v:=by
 unfold KU;rw [KI hw K O,KI hw K O,KI hw K O,KI hw K O,KI hw K O];obtain rfl | rfl | rfl | rfl | rfl:i=0∨i=1∨i=2∨i=3∨i=4:=by omega
 all_goals simp;omega
theorem XL{o:OW}(h:VO o):KU (Cb o)=0:=by
 have Y:=h.n5;have:∀(ds:List DT) (w:List Int),w.length=5->KU w=0->(∀d∈ds,VD o.1.length d)->KU (ds.foldl GL w)=0:=by
  intro ds
  induction ds with
  | nil=>exact λw _ hw _=>hw
  | cons d ds O=>
   intro w K hw hd;obtain⟨v1,v2,Z,v4,_⟩:=hd d List.mem_cons_self;have l1:(Fh w d.2.1 d.2.2).length=5:=by unfold Fh;rw [List.length_set];exact K
   refine O _ (by unfold GL Fh;rw [List.length_set,List.length_set];exact K) ?_ λx U=>hd x (List.mem_cons_of_mem _ U);unfold GL;rw [SV l1 (by omega) (by omega),SV K (by omega) (by omega),hw];omega
 exact this _ _ V V h.ds
open Go Go.Conc Go.Proofs Go.Proofs.Tryz
end Pal
namespace Pal
def F3(x y:Int)(d:DT):Bool:=decide (d.1=x)&&decide (d.2.1=y)
def cnt(x y:Int)(L:List (List DT)):Nat:=L.flatten.countP (F3 x y)
theorem XE{x y:Int}{L L':List (List DT)}(h:L.Perm L'):cnt x y L=cnt x y L':=by unfold cnt;exact h.flatten.countP_eq _
theorem Ua{x y:Int}:∀{L:List (List DT)},(∀s∈L,s.countP (F3 x y)<=1)->cnt x y L<=L.length
 | [],_=>Nat.le_refl _
 | s::L,h=>by
  have U:=h s List.mem_cons_self
  have K:=Ua (L:=L) λt O=>h t (List.mem_cons_of_mem _ O)
  unfold cnt at K ⊢
  rw [List.flatten_cons,List.countP_append,List.length_cons];omega
def LU(d:DT):PR:=(min d.1 d.2.1,max d.1 d.2.1)
theorem bl{n p:Nat}{x:PR}{m:Int}(O:VP n x)(K:BE p x=true):LU (dP p x m)=x:=by
 obtain⟨v1,v2,U⟩:=O;unfold BE at K;simp at K;obtain⟨Y,x2⟩:=x;simp only at v1 v2 U K;unfold LU dP;split <;> simp only [Prod.mk.injEq] <;> omega
theorem Rx{n:Nat}:∀(k:Nat) (l:List PR) (w:List Int) (out r:List DT),l.length=k->(∀x∈l,VP n x)->Cr n k l w out=some r->(r.map LU).Perm (out.map LU++l)
 | 0,l,w,out,r,Z,U,h=>by
  unfold Cr at h
  split at h
  ·cases h
   rw [List.length_eq_zero_iff.1 Z,List.append_nil]
  ·cases h
 | k+1,l,w,out,r,Z,U,h=>by
  unfold Cr at h;obtain⟨p,ac,h⟩:=bind_some h;split at h
  ·cases h
  unfold IA at ac;obtain⟨c1,c2,c3⟩:=List.find?_range_eq_some.1 ac;have hc:l.countP (BE p)=1:=by simpa using c1
  have O:l.findIdx (BE p)<l.length:=by
   obtain⟨x,K,Y⟩:=List.countP_pos_iff.1 (show 0<l.countP (BE p) by omega);exact List.findIdx_lt_length_of_exists ⟨x,K,Y⟩
  rw [PG O] at h;have Y:BE p l[l.findIdx (BE p)]=true:=List.findIdx_getElem;have K:=U _ (List.getElem_mem O);have:=Rx k _ _ _ r (by rw [List.length_eraseIdx_of_lt O];omega) (λx K=>U x (List.mem_of_mem_eraseIdx K)) h;refine this.trans ?_;rw [List.map_append,List.map_singleton,bl K Y,List.append_assoc];exact List.Perm.append_left _ (Wq O)
theorem Pj:∀{m:Nat} {l c:List PR},c∈Fx m l->c.Sublist l
 | 0,l,c,h=>by
  rw [show Fx 0 l= [[]] by cases l <;> rfl] at h
  cases List.mem_singleton.1 h
  exact List.nil_sublist _
 | m+1,[],c,h=>by cases h
 | m+1,y::ys,c,h=>by
  rcases List.mem_append.1 h with h | h
  ·obtain⟨O,K,rfl⟩:=List.mem_map.1 h
   exact(Pj K).cons_cons y
  ·exact(Pj h).cons y
theorem VN{n:Nat}(h:n<=5):(C5 n).Nodup:=by
 match n,h with
 | 0,_ | 1,_ | 2,_ | 3,_ | 4,_ | 5,_=>decide
theorem Sf{α:Type}{q:α->Bool}:∀{l:List α},l.Nodup->(∀a b,q a=true->q b=true->a=b)->l.countP q<=1
 | [],_,_=>Nat.zero_le _
 | x::xs,U,O=>by
  obtain⟨Y,Z⟩:=List.nodup_cons.1 U
  have ac:=Sf Z O
  by_cases K:q x=true
  ·rw [List.countP_cons_of_pos K]
   have:xs.countP q=0:=by
    rw [List.countP_eq_zero];intro y ag al;exact Y (O x y K al▸ag)
   omega
  ·rw [List.countP_cons_of_neg K];exact ac
theorem Xj{n:Nat}{w:List Int}{P:PR->Bool}{m:Nat}{s:List DT}{x y:Int}(ac:n<=5)(K:s∈Ct n w P m [] (C5 n)):s.countP (F3 x y)<=1:=by
 unfold Ct at K;obtain⟨c,hc,K⟩:=List.mem_filterMap.1 K;rw [List.nil_append] at K;unfold F0 at K;obtain⟨r,ag,rfl⟩:=Option.map_eq_some_iff.1 K;have O:=Pj hc;have al:∀x∈c,VP n x:=λx am=>PF (List.mem_filter.1 (O.subset am)).1;have ap:c.Nodup:=((VN ac).filter _).sublist O;have U:=Rx c.length c w [] r V al ag;rw [List.map_nil,List.nil_append] at U;have aq:∀l:List DT,(Cs l).Perm l:=by
  have ins:∀(d:DT) (l:List DT),(FM d l).Perm (d::l):=by
   intro d l
   induction l with
   | nil=>exact List.Perm.refl _
   | cons z av aw=>
    unfold FM;split
    ·exact List.Perm.refl _
    ·exact(aw.cons z).trans (List.Perm.swap d z av)
  refine KH (P:=λl=>(Cs l).Perm l) (List.Perm.refl _) λl d h=>?_;rw [La];exact(ins d _).trans ((h.cons d).trans (List.perm_append_singleton d l).symm)
 rw [(aq r).countP_eq];have Y:r.countP (F3 x y)<=r.countP ((λz:PR=>decide (z=(min x y,max x y)))∘LU):=by
  refine List.countP_mono_left λd _ hd=>?_;unfold F3 at hd;simp only [Bool.and_eq_true,decide_eq_true_eq] at hd;simp only [Function.comp,decide_eq_true_eq,LU,hd.1,hd.2]
 rw [← List.countP_map,U.countP_eq] at Y;refine Nat.le_trans Y (Sf ap λa b Z hb=>?_);rw [decide_eq_true_eq] at Z hb;rw [Z,hb]
theorem ZL{n:Nat}{w:List Int}{P:PR->Bool}{x y:Int}(K:n<=5):∀s∈FW n w P,s.countP (F3 x y)<=1:=by
 rcases TI (n:=n) (w:=w) (P:=P) with h | ⟨m,hm,h,_⟩
 ·rw [h];simp
 ·rw [h];exact λs O=>Xj K O
end Pal
