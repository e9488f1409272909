/- DebtDouble, row of debt: for every input the law is true and its argument reads behind the call as before it. Part 5 of 8. -/
import Derived.Test.YtmeophcclkejkaaGreatDbb
import Derived.Test.YtmeophcclkejkaaGreatDbc
import Derived.Test.YtmeophcclkejkaaGreatDbd
set_option linter.all false
set_option maxRecDepth 100000
namespace Pal
open Go Go.Conc Go.Conc.Lib Go.Proofs Go.ConcR.Gen
theorem XZ{P:Program}{J:Judge P}{Q:GP}{n:Nat}{L:Env}{ds:Ld_}{c:Code}{k:Li_}{cs:Lf_}{s:St}{b:Frame}(h:∀K,K=k->JL J Q b n L ds (.code c::K) cs s):JL J Q b n L ds (.code c::k) cs s:=h _ rfl
theorem Ty{P:Program}{J:Judge P}{Q:GP}{n:Nat}{L:Env}{ds:Ld_}{k:Li_}{cs:Lf_}{s:St}{b:Frame}(h:∀K,K=k->JL J Q b n L ds K cs s):JL J Q b n L ds k cs s:=h _ rfl
theorem Ij:(Tryz.prog.funcs[189]?).any (·.norace)=true:=by rw [Tryz.func189];rfl
theorem Zr:(Tryz.prog.funcs[163]?).any (·.norace)=true:=by rw [Tryz.func163];rfl
theorem ZD:(Tryz.prog.funcs[191]?).any (·.norace)=true:=by rw [Tryz.func191];rfl
theorem PF:(Tryz.prog.funcs[211]?).any (·.norace)=true:=by rw [Tryz.func211];rfl
theorem OP:(Tryz.prog.info? 140).map (λi=>decide (i.size=0))=some false:=(congrArg (Option.map (λi=>decide (i.size=0))) Tryz.type140).trans rfl
abbrev GQ:=Bool×Bool×Nat×M4×Int
def TG(a:GQ):Prop:=(a.2.1=true->a.2.2.2.1.k=true)/\a.2.2.1<=4/\CR a.2.2.2.1
def Pw(a:GQ):LP:= .Cd a.1 a.2.1 a.2.2.1 a.2.2.2.1
theorem W1{F:Fam}{sv aw:Bool}{it:Nat}{old:M4}{q:Nat}(h:old.l=false/\old.s=false):(mN sv aw old,q,#[Fam.B6 F.uA,Fam.Ej F.uA],some LP.len)∈F.BR (.Cd sv aw it old) old q:=by
 obtain⟨l,k,s,w⟩:=old;obtain⟨K,O⟩:=h;simp only at K O;subst K O;simp [Fam.BR,Fam.Fq,mN]
theorem Re{F:Fam}{sv aw:Bool}{it:Nat}{old:M4}{q:Nat}(h:¬(old.l=false/\old.s=false))(x:LP)(K:x= .Ig sv∨x= .Ck sv):(mN sv aw old,q,#[Fam.B6 F.uA,Fam.Ej F.uA],some x)∈F.BR (.Cd sv aw it old) old q:=by
 obtain⟨l,k,s,w⟩:=old;show _∈F.Fq _ _ _ _ _ _;unfold Fam.Fq;rw [List.mem_append];right;rw [if_pos rfl,if_neg h];cases l <;> cases s <;> simp [mN] at h ⊢ <;> rcases K with rfl | rfl <;> simp
theorem V5{F:Fam}{sv aw:Bool}{it:Nat}{old m:M4}{q:Nat}(h:m≠old):(m,q,#[Fam.B6 F.uA],some (LP.DY sv aw it))∈F.BR (.Cd sv aw it old) m q:=by
 show _∈F.Fq _ _ _ _ _ _;unfold Fam.Fq;rw [List.mem_append];right;rw [if_neg h];exact List.mem_singleton.2 rfl
theorem XQ{F:Fam}{sv:Bool}{it:Nat}{old:M4}{q:Nat}(K:old.l=true/\old.s=false)(O:it<4)(U:old.k=false)(Y:old.w≠0):(({old with k:=true}:M4),q,#[Fam.B6 F.uA,Fam.Ej F.uA],some (LP.DY sv true (it+1)))∈F.BR (.Cd sv false it old) old q:=by
 show _∈F.Fq _ _ _ _ _ _;unfold Fam.Fq;rw [List.mem_append];left;rw [if_pos ⟨K.1,K.2,O⟩,if_pos ⟨rfl,U,Y⟩,if_pos rfl];exact List.mem_singleton.2 rfl
theorem XF{F:Fam}{sv:Bool}{it:Nat}{old m:M4}{q:Nat}(K:old.l=true/\old.s=false)(O:it<4)(U:old.k=false)(Y:old.w≠0)(hm:m≠old):(m,q,#[Fam.B6 F.uA],some (LP.DY sv false (it+1)))∈F.BR (.Cd sv false it old) m q:=by
 show _∈F.Fq _ _ _ _ _ _;unfold Fam.Fq;rw [List.mem_append];left;rw [if_pos ⟨K.1,K.2,O⟩,if_pos ⟨rfl,U,Y⟩,if_neg hm];exact List.mem_singleton.2 rfl
theorem OR{F:Fam}{sv aw:Bool}{it:Nat}{old m:M4}{q:Nat}(K:old.l=true/\old.s=false)(O:it<4)(U:¬(aw=false/\old.k=false/\old.w≠0)):(m,q,#[],some (LP.Cd sv aw (it+1) m))∈F.BR (.Cd sv aw it old) m q:=by
 show _∈F.Fq _ _ _ _ _ _;unfold Fam.Fq;rw [List.mem_append];left;rw [if_pos ⟨K.1,K.2,O⟩,if_neg U];exact List.mem_singleton.2 rfl
theorem GW(m:M4)(h:m.s=true):m={m with l:=m.l || !m.s}:=by
 obtain⟨l,k,s,w⟩:=m;simp only at h;subst h;simp
set_option maxHeartbeats 4000000 in
theorem Vf{F:Fam}{n:Nat}{L:Env}{ds:Ld_}{k:Li_}{cs:Lf_}{s:St}{b:Frame}{ops:Ao_}{i:Nat}{rest:List Nat}{d:Option Tmp}{x:Operand}{ats:Array TypeId}{ty:TypeId}{pp:String}{af:Ae_}{g:On_}{kk:Nat}(ac:s.q=false)(bo:ops[i]? =some ⟨d,.call ⟨.value (.func 189),#[x],ats⟩,ty,pp,af,g⟩)(hw:AJ L ops ⟨d,.call ⟨.value (.func 189),#[x],ats⟩,ty,pp,af,g⟩=some true)(bp:((b.kind != .early)&&Bd n d)=true)(bq:ev L x=some (.pointer (some F.uA)))
  (h:JL (AP Tryz.prog false) (Stop Tryz.prog F (.lk kk .Fw)) b n (As L d (.tuple #[])) ds (.inRegion ops rest::k) cs s):
  JL (AP Tryz.prog false) (Stop Tryz.prog F (.lk kk (.DY false false 0))) b n L ds (.inRegion ops (i::rest)::k) cs s:=by
 refine G3 (vs:= [.pointer (some F.uA)]) bo hw bp Tryz.func189 (by decide+kernel) rfl (by simp [evs,bq]) (Nat.le_of_ble_eq_true rfl) λa7 back=>zg 20 rfl (Al (v:= .pointer (some F.uA)) rfl (λρ h=>Cp (a:=F.uA) 0 0 Tryz.underlying140 Dg rfl rfl rfl (h _ _ rfl)) ?_);refine G2 (kk:=kk) (p:= .DY false false 0) CK.stop ac rfl rfl rfl rfl rfl GZ Ij rfl λa8 bF a2=>⟨some (.Cd false false 0 a8),List.mem_singleton.2 rfl,?_⟩;refine zg 3 rfl (XZ λbr bu=>?_);have aJ:∀X:Ph->GP,CK Tryz.prog F X->(∀p g s,Stop Tryz.prog F p g s->X p g s)->∀L',look L' 0=some (.pointer (some F.uA))->JL (AP Tryz.prog false) (X (.lk kk .len)) (base 189) Tryz.f189.ntmps L' [] br (a7::cs) s:=by
  intro X O ay L' bv;rw [bu];refine EX (L':= [(0,.pointer (some F.uA))]) ⟨bv,trivial⟩ (zg 3 rfl ?_);refine KW (kk:=kk) (p:= .len) O ac rfl (λ_ _=>rfl) rfl rfl rfl rfl (by simp) NL (zg 3 rfl ?_);refine Ou (kk:=kk) (p:= .Kw) O ac rfl (λ_ _=>rfl) rfl rfl rfl rfl Tryz.underlying229 Tryz.underlying185 OP rfl (O3 (kk:=kk) (p:= .JH) (ad:=F.uA) O ac rfl (λ_ _=>rfl) rfl rfl rfl rfl (by simp) TB rfl rfl ?_);refine JL.done (JL.fin rfl rfl (Bx.none Tryz.func189 rfl) (back _ _ _ _ ?_));exact ME (λg s=>ay _ g s) h
 refine JL.block (IC ?_);refine Ep [(0,.pointer (some F.uA)),(2,iV 0),(3,.bool false),(4,.bool false),(5,iV ((0:Nat):Int)),(6,.int .i32 (a8:M4).num)] rfl (Ty λa9 aO=>?_);refine Tl (P:=Tryz.prog) (F:=F) (s:=s) (kk:=kk) (ph:=Pw) (ok:=TG) (head:=λ(X:Ph->GP) (a:GQ)=>JL (AP Tryz.prog false) (X (.lk kk (Pw a))) (base 189) Tryz.f189.ntmps ([(0,.pointer (some F.uA)),(2,iV a.2.2.2.2),(3,.bool a.1),(4,.bool a.2.1),(5,iV (a.2.2.1:Int)),(6,.int .i32 (a.2.2.2.1:M4).num)]) [] a9 (a7::cs) s) ?_ (false,false,0,a8,0) ⟨(λe=>by cases e),Nat.zero_le _,a2.2.2.1⟩;intro Y a3 bG hC;have key:∀N (a:GQ),4 - a.2.2.1<N->TG a->(λ(X:Ph->GP) (a:GQ)=>JL (AP Tryz.prog false) (X (.lk kk (Pw a))) (base 189) Tryz.f189.ntmps ([(0,.pointer (some F.uA)),(2,iV a.2.2.2.2),(3,.bool a.1),(4,.bool a.2.1),(5,iV (a.2.2.1:Int)),(6,.int .i32 (a.2.2.2.1:M4).num)]) [] a9 (a7::cs) s) Y a:=by
  intro N
  induction N with
  | zero=>intro a be;omega
  | succ N a4=>
   rintro⟨sv,aw,it,old,wt⟩ bw a2;simp only at bw;have bx:aw=true->old.k=true:=a2.1;have ba:CR old:=a2.2.2;have aK:Ce old:=ba.Ce;show JL (AP Tryz.prog false) (Y (.lk kk (.Cd sv aw it old))) (base 189) Tryz.f189.ntmps [(0,.pointer (some F.uA)),(2,iV wt),(3,.bool sv),(4,.bool aw),(5,iV (it:Int)),(6,.int .i32 (old:M4).num)] [] a9 (a7::cs) s;rw [aO];refine zg 2 rfl (Bu (λL s'=>s=s'/\L= [(0,.pointer (some F.uA)),(2,iV wt),(3,.bool sv),(4,.bool aw),(5,iV (it:Int)),(6,.int .i32 (old:M4).num)]) ?_ ?_)
   rotate_left
   ·intro az;refine zg 3 rfl (Al (v:=CB (Bv old&&& 5)) rfl (λρ h=>Em (c:=5) aK (h _ _ rfl) (h _ _ rfl) (by decide)) ?_);refine zg 2 rfl (Lw (q:=((Bv old&&& 5:Nat):Int)=1) (i:=17) rfl (λbf=>?_) (λbf=>?_))
    ·refine Al (v:=iV (it:Int)) rfl (λρ h=>Yl.move (h _ _ rfl)) (JL.canSpin (it:=(it:Int)) ac rfl rfl rfl rfl Yt rfl (λGj=>?_) ?_)
     ·refine Al (v:= .bool true) rfl (λρ h=>Lt (h _ _ rfl) (h _ _ rfl)) ?_;have aL:=(aj old).1 bf;refine zg 5 rfl ?_;have a5:it<4:=by omega
      refine zg 1 rfl (Al (v:= .bool (!aw)) rfl (λρ h=>Yl.not (h _ _ rfl)) ?_);refine zg 1 rfl (Kb (c:= !aw) (i:=23) rfl (λc1=>?_) (λc1=>?_))
      ·refine Al (v:= .int .i32 (old:M4).num) rfl (λρ h=>Yl.move (h _ _ rfl)) (Al (v:=CB (Bv old&&& 2)) rfl (λρ h=>Em (c:=2) aK (h _ _ rfl) (h _ _ rfl) (by decide)) ?_);refine zg 3 rfl (Lw (q:=((Bv old&&& 2:Nat):Int)=0) (i:=28) rfl (λc2=>?_) (λc2=>?_))
       ·refine Al (v:= .int .i32 (old:M4).num) rfl (λρ h=>Yl.move (h _ _ rfl)) (Al (v:=CB old.w) rfl (λρ h=>IE aK (h _ _ rfl) (h _ _ rfl)) ?_);refine zg 3 rfl (Lw (q:=(old.w:Int)≠0) (i:=33) rfl (λc3=>?_) (λc3=>?_))
        ·have bz:aw=false:=by simpa using c1
         subst bz;have bg:=(Pv old).1 c2;have bh:old.w≠0:=by omega
         refine zg 2 rfl (Al (v:= .pointer (some F.uA)) rfl (λρ h=>Cp (a:=F.uA) 0 0 Tryz.underlying140 Dg rfl rfl rfl (h _ _ rfl)) ?_);refine zg 2 rfl (Al (v:= .int .i32 ({old with k:=true}:M4).num) rfl (λρ h=>Na (c:=2) aK (by decide) (P0 old) rfl (h _ _ rfl) (h _ _ rfl)) ?_);refine Rr (kk:=kk) (p:= .Cd sv false it old) (old:=old) (nw:={old with k:=true}) a3 ac rfl rfl rfl rfl rfl Nt rfl rfl rfl (λq aM=>⟨some (.DY sv true (it+1)),XQ aL a5 bg bh,?_⟩) (λm q hm aM=>⟨some (.DY sv false (it+1)),XF aL a5 bg bh hm,?_⟩)
         ·refine Al (v:= .bool true) rfl (λρ h=>Lt (h _ _ rfl) (h _ _ rfl)) (zg 7 rfl ?_);refine JL.ext (v:= .tuple #[]) rfl rfl rfl Ly rfl rfl (zg 4 rfl ?_);refine Al (v:=iV ((it+1:Nat):Int)) rfl (λρ h=>FR (h _ _ rfl) (h _ _ rfl) (by unfold Aw;rw [if_pos (by omega)];congr 1)) (zg 6 rfl ?_);refine Al (v:= .pointer (some F.uA)) rfl (λρ h=>Cp (a:=F.uA) 0 0 Tryz.underlying140 Dg rfl rfl rfl (h _ _ rfl)) (G2 (kk:=kk) (p:= .DY sv true (it+1)) a3 ac rfl rfl rfl rfl rfl GZ Ij rfl λaP bi aX=>⟨some (.Cd sv true (it+1) aP),List.mem_singleton.2 rfl,?_⟩);refine zg 3 rfl (JL.again ?_);rw [← aO];exact Ep [(0,.pointer (some F.uA)),(2,iV wt),(3,.bool sv),(4,.bool true),(5,iV ((it+1:Nat):Int)),(6,.int .i32 (aP:M4).num)] rfl (a4 (sv,true,it+1,aP,wt) (by show 4 - (it+1)<N;omega) ⟨aX.2.2.2,(by show it+1<=4;omega),aX.2.2.1⟩)
         ·refine Al (v:= .bool false) rfl (λρ h=>Lt (h _ _ rfl) (h _ _ rfl)) (zg 5 rfl ?_);refine JL.ext (v:= .tuple #[]) rfl rfl rfl Ly rfl rfl (zg 4 rfl ?_);refine Al (v:=iV ((it+1:Nat):Int)) rfl (λρ h=>FR (h _ _ rfl) (h _ _ rfl) (by unfold Aw;rw [if_pos (by omega)];congr 1)) (zg 6 rfl ?_);refine Al (v:= .pointer (some F.uA)) rfl (λρ h=>Cp (a:=F.uA) 0 0 Tryz.underlying140 Dg rfl rfl rfl (h _ _ rfl)) (G2 (kk:=kk) (p:= .DY sv false (it+1)) a3 ac rfl rfl rfl rfl rfl GZ Ij rfl λaP bi aX=>⟨some (.Cd sv false (it+1) aP),List.mem_singleton.2 rfl,?_⟩);refine zg 3 rfl (JL.again ?_);rw [← aO];exact Ep [(0,.pointer (some F.uA)),(2,iV wt),(3,.bool sv),(4,.bool false),(5,iV ((it+1:Nat):Int)),(6,.int .i32 (aP:M4).num)] rfl (a4 (sv,false,it+1,aP,wt) (by show 4 - (it+1)<N;omega) ⟨aX.2.2.2,(by show it+1<=4;omega),aX.2.2.1⟩)
        ·refine Ie rfl rfl rfl (zg 12 rfl ?_);refine JL.ext (v:= .tuple #[]) rfl rfl rfl Ly rfl rfl (zg 4 rfl ?_);refine Al (v:=iV ((it+1:Nat):Int)) rfl (λρ h=>FR (h _ _ rfl) (h _ _ rfl) (by unfold Aw;rw [if_pos (by omega)];congr 1)) (zg 6 rfl ?_);refine Al (v:= .pointer (some F.uA)) rfl (λρ h=>Cp (a:=F.uA) 0 0 Tryz.underlying140 Dg rfl rfl rfl (h _ _ rfl)) (G2 (kk:=kk) (p:= .Cd sv aw it old) a3 ac rfl rfl rfl rfl rfl GZ Ij rfl λm q aM=>⟨some (.Cd sv aw (it+1) m),OR aL a5 (λe=>c3 (by omega)),?_⟩);refine zg 3 rfl (JL.again ?_);rw [← aO];exact Ep [(0,.pointer (some F.uA)),(2,iV wt),(3,.bool sv),(4,.bool aw),(5,iV ((it+1:Nat):Int)),(6,.int .i32 (m:M4).num)] rfl (a4 (sv,aw,it+1,m,wt) (by show 4 - (it+1)<N;omega) ⟨aM.2.2.2.2.2,(by show it+1<=4;omega),aM.2.2.2.2.1⟩)
       ·refine Ie rfl rfl rfl (zg 17 rfl ?_);refine JL.ext (v:= .tuple #[]) rfl rfl rfl Ly rfl rfl (zg 4 rfl ?_);refine Al (v:=iV ((it+1:Nat):Int)) rfl (λρ h=>FR (h _ _ rfl) (h _ _ rfl) (by unfold Aw;rw [if_pos (by omega)];congr 1)) (zg 6 rfl ?_);refine Al (v:= .pointer (some F.uA)) rfl (λρ h=>Cp (a:=F.uA) 0 0 Tryz.underlying140 Dg rfl rfl rfl (h _ _ rfl)) (G2 (kk:=kk) (p:= .Cd sv aw it old) a3 ac rfl rfl rfl rfl rfl GZ Ij rfl λm q aM=>⟨some (.Cd sv aw (it+1) m),OR aL a5 (λe=>c2 ((Pv old).2 e.2.1)),?_⟩);refine zg 3 rfl (JL.again ?_);rw [← aO];exact Ep [(0,.pointer (some F.uA)),(2,iV wt),(3,.bool sv),(4,.bool aw),(5,iV ((it+1:Nat):Int)),(6,.int .i32 (m:M4).num)] rfl (a4 (sv,aw,it+1,m,wt) (by show 4 - (it+1)<N;omega) ⟨aM.2.2.2.2.2,(by show it+1<=4;omega),aM.2.2.2.2.1⟩)
      ·refine Ie rfl rfl rfl (zg 22 rfl ?_);refine JL.ext (v:= .tuple #[]) rfl rfl rfl Ly rfl rfl (zg 4 rfl ?_);refine Al (v:=iV ((it+1:Nat):Int)) rfl (λρ h=>FR (h _ _ rfl) (h _ _ rfl) (by unfold Aw;rw [if_pos (by omega)];congr 1)) (zg 6 rfl ?_);refine Al (v:= .pointer (some F.uA)) rfl (λρ h=>Cp (a:=F.uA) 0 0 Tryz.underlying140 Dg rfl rfl rfl (h _ _ rfl)) (G2 (kk:=kk) (p:= .Cd sv aw it old) a3 ac rfl rfl rfl rfl rfl GZ Ij rfl λm q aM=>⟨some (.Cd sv aw (it+1) m),OR aL a5 (λe=>by rw [e.1] at c1;cases c1),?_⟩);refine zg 3 rfl (JL.again ?_);rw [← aO];exact Ep [(0,.pointer (some F.uA)),(2,iV wt),(3,.bool sv),(4,.bool aw),(5,iV ((it+1:Nat):Int)),(6,.int .i32 (m:M4).num)] rfl (a4 (sv,aw,it+1,m,wt) (by show 4 - (it+1)<N;omega) ⟨aM.2.2.2.2.2,(by show it+1<=4;omega),aM.2.2.2.2.1⟩)
     ·refine Al (v:= .bool false) rfl (λρ h=>Lt (h _ _ rfl) (h _ _ rfl)) (zg 3 rfl ?_);exact AB (az _ _ ⟨rfl,rfl⟩) rfl
    ·refine Ie rfl rfl rfl (zg 5 rfl ?_);exact AB (az _ _ ⟨rfl,rfl⟩) rfl
   rintro _ _ ⟨rfl,rfl⟩;refine zg 6 rfl (Bu (λL s'=>s=s'/\L= [(0,.pointer (some F.uA)),(2,iV wt),(3,.bool sv),(4,.bool aw),(5,iV (it:Int)),(6,.int .i32 (old:M4).num),(7,.int .i32 ({old with l:=old.l || !old.s}:M4).num)]) ?_ ?_)
   rotate_left
   ·intro az;refine zg 3 rfl (Al (v:=CB (Bv old&&& 4)) rfl (λρ h=>Em (c:=4) aK (h _ _ rfl) (h _ _ rfl) (by decide)) ?_);refine zg 2 rfl (F8 (p:=((Bv old&&& 4:Nat):Int)=0) rfl (λc=>?_) (λc=>?_))
    ·refine JL.region (zg 1 rfl ?_);refine Al (v:= .int .i32 ({old with l:=true}:M4).num) rfl (λρ h=>Na (c:=1) aK (by decide) (aB old) rfl (h _ _ rfl) (h _ _ rfl)) (zg 2 rfl ?_);refine EX ?_ (az _ _ ⟨rfl,rfl⟩);exact⟨rfl,rfl,rfl,rfl,rfl,rfl,congrArg (λm:M4=>some (Value.int .i32 m.num)) (by rw [(HC old).1 c];simp),trivial⟩
    ·refine JL.skip (EX ?_ (az _ _ ⟨rfl,rfl⟩));exact⟨rfl,rfl,rfl,rfl,rfl,rfl,congrArg (λm:M4=>some (Value.int .i32 m.num)) ((Bool.eq_false_or_eq_true old.s).elim (GW old) (λhh=>absurd ((HC old).2 hh) c)),trivial⟩
   rintro _ _ ⟨rfl,rfl⟩;have bH:Ce {old with l:=old.l || !old.s}:=aK;refine JL.seq (Bu (λL s'=>s=s'/\L= [(0,.pointer (some F.uA)),(2,iV wt),(3,.bool sv),(4,.bool aw),(5,iV (it:Int)),(6,.int .i32 (old:M4).num),(7,.int .i32 ({old with l:=old.l || !old.s,w:=if old.l=true∨old.s=true then old.w+1 else old.w}:M4).num)]) ?_ ?_)
   rotate_left
   ·intro az;refine zg 3 rfl (Al (v:=CB (Bv old&&& 5)) rfl (λρ h=>Em (c:=5) aK (h _ _ rfl) (h _ _ rfl) (by decide)) ?_);refine zg 2 rfl (F8 (p:=((Bv old&&& 5:Nat):Int)≠0) rfl (λc=>?_) (λc=>?_))
    ·refine JL.region (zg 1 rfl ?_);refine Al (v:= .int .i32 ({old with l:=old.l || !old.s,w:=old.w+1}:M4).num) rfl (λρ h=>XK (m:={old with l:=old.l || !old.s}) ba (h _ _ rfl) (h _ _ rfl)) (zg 2 rfl ?_);refine EX ?_ (az _ _ ⟨rfl,rfl⟩);exact⟨rfl,rfl,rfl,rfl,rfl,rfl,congrArg (λm:M4=>some (Value.int .i32 m.num)) (by rw [if_pos (by have:=λe=>c ((LW old).2 e);cases bI:old.l <;> cases bJ:old.s <;> simp_all)]),trivial⟩
    ·refine JL.skip (EX ?_ (az _ _ ⟨rfl,rfl⟩));exact⟨rfl,rfl,rfl,rfl,rfl,rfl,congrArg (λm:M4=>some (Value.int .i32 m.num)) (by rw [if_neg (by have:=(LW old).1 (Decidable.not_not.1 c);rw [this.1,this.2];simp)]),trivial⟩
   rintro _ _ ⟨rfl,rfl⟩;have bj:Ce ({old with l:=old.l || !old.s,w:=if old.l=true∨old.s=true then old.w+1 else old.w}:M4):=by unfold CR at ba;unfold Ce;simp only;split <;> omega
   refine JL.seq (Bu (λL s'=>s=s'/\L= [(0,.pointer (some F.uA)),(2,iV wt),(3,.bool sv),(4,.bool aw),(5,iV (it:Int)),(6,.int .i32 (old:M4).num),(7,.int .i32 ({old with l:=old.l || !old.s,s:=old.s || (sv&&old.l),w:=if old.l=true∨old.s=true then old.w+1 else old.w}:M4).num)]) ?_ ?_)
   rotate_left
   ·intro az;refine zg 4 rfl (Kb (c:=sv) (i:=61) rfl (λc1=>?_) (λc1=>?_))
    ·refine Al (v:= .int .i32 (old:M4).num) rfl (λρ h=>Yl.move (h _ _ rfl)) (Al (v:=CB (Bv old&&& 1)) rfl (λρ h=>Em (c:=1) aK (h _ _ rfl) (h _ _ rfl) (by decide)) ?_);refine zg 3 rfl (F8 (p:=((Bv old&&& 1:Nat):Int)≠0) rfl (λc=>?_) (λc=>?_))
     ·refine JL.region (zg 1 rfl ?_);refine Al (v:= .int .i32 ({old with s:=true,l:=old.l || !old.s,w:=if old.l=true∨old.s=true then old.w+1 else old.w}:M4).num) rfl (λρ h=>Na (c:=4) (m:={old with l:=old.l || !old.s,w:=if old.l=true∨old.s=true then old.w+1 else old.w}) bj (by decide) (aE _) rfl (h _ _ rfl) (h _ _ rfl)) ?_
      refine zg 2 rfl (EX ?_ (az _ _ ⟨rfl,rfl⟩));exact⟨rfl,rfl,rfl,rfl,rfl,rfl,congrArg (λm:M4=>some (Value.int .i32 m.num)) (by rcases Bool.eq_false_or_eq_true old.l with hh | hh <;> first | exact absurd ((PI old).2 hh) c | (rw [c1,hh];simp)),trivial⟩
     ·refine JL.skip (EX ?_ (az _ _ ⟨rfl,rfl⟩));exact⟨rfl,rfl,rfl,rfl,rfl,rfl,congrArg (λm:M4=>some (Value.int .i32 m.num)) (by have:=(PI old).1 (Decidable.not_not.1 c);rw [this];simp),trivial⟩
    ·refine Ie rfl rfl rfl (zg 6 rfl ?_);refine EX ?_ (az _ _ ⟨rfl,rfl⟩);exact⟨rfl,rfl,rfl,rfl,rfl,rfl,congrArg (λm:M4=>some (Value.int .i32 m.num)) (by rw [c1];simp),trivial⟩
   rintro _ _ ⟨rfl,rfl⟩;have bl:Ce ({old with l:=old.l || !old.s,s:=old.s || (sv&&old.l),w:=if old.l=true∨old.s=true then old.w+1 else old.w}:M4):=bj
   refine JL.seq (Bu (λL s'=>s=s'/\L= [(0,.pointer (some F.uA)),(2,iV wt),(3,.bool sv),(4,.bool aw),(5,iV (it:Int)),(6,.int .i32 (old:M4).num),(7,.int .i32 (mN sv aw old:M4).num)]) ?_ ?_)
   rotate_left
   ·intro az;refine zg 4 rfl (OH (t:=aw) rfl (λc=>?_) (λc=>?_))
    ·have bm:old.k=true:=bx c;refine zg 4 rfl ?_;refine Al (v:=CB (Bv ({old with l:=old.l || !old.s,s:=old.s || (sv&&old.l),w:=if old.l=true∨old.s=true then old.w+1 else old.w}:M4)&&& 2)) rfl (λρ h=>Em (c:=2) (m:={old with l:=old.l || !old.s,s:=old.s || (sv&&old.l),w:=if old.l=true∨old.s=true then old.w+1 else old.w}) bl (h _ _ rfl) (h _ _ rfl) (by decide)) ?_
     refine Al (v:= .bool false) rfl (λρ h=>Yl.to (Yl.eql (h _ _ rfl) (h _ _ rfl)) (by rw [decide_eq_false (λe=>by have q:=(Pv _).1 e;simp only at q;rw [bm] at q;cases q)])) (zg 5 rfl ?_);refine Al (v:= .int .i32 ({old with k:=false,l:=old.l || !old.s,s:=old.s || (sv&&old.l),w:=if old.l=true∨old.s=true then old.w+1 else old.w}:M4).num) rfl (λρ h=>Yl.O0 (m:={old with l:=old.l || !old.s,s:=old.s || (sv&&old.l),w:=if old.l=true∨old.s=true then old.w+1 else old.w}) bl bm (h _ _ rfl) (h _ _ rfl)) ?_
     refine zg 2 rfl (EX ?_ (az _ _ ⟨rfl,rfl⟩));exact⟨rfl,rfl,rfl,rfl,rfl,rfl,congrArg (λm:M4=>some (Value.int .i32 m.num)) (by simp [mN,c]),trivial⟩
    ·refine JL.skip (EX ?_ (az _ _ ⟨rfl,rfl⟩));exact⟨rfl,rfl,rfl,rfl,rfl,rfl,congrArg (λm:M4=>some (Value.int .i32 m.num)) (by simp [mN,c]),trivial⟩
   rintro _ _ ⟨rfl,rfl⟩;refine zg 4 rfl (Al (v:= .pointer (some F.uA)) rfl (λρ h=>Cp (a:=F.uA) 0 0 Tryz.underlying140 Dg rfl rfl rfl (h _ _ rfl)) ?_);refine zg 2 rfl (λT bA=>(AP Tryz.prog false).stop (hC (sv,aw,it,old,wt) _ a2 λX bK bB O ay a6=>?_));refine OG (kk:=kk) (p:= .Cd sv aw it old) (old:=old) (nw:=mN sv aw old) bB ac rfl rfl rfl rfl rfl Nt rfl rfl rfl (λq aM=>?_) (λm q hm aM=>⟨some (.DY sv aw it),V5 hm,?_⟩) T bA
   ·by_cases aL:old.l=false/\old.s=false
    ·refine⟨some .len,W1 aL,?_⟩;refine zg 6 rfl (Al (v:=CB (Bv old&&& 5)) rfl (λρ h=>Em (c:=5) aK (h _ _ rfl) (h _ _ rfl) (by decide)) ?_);refine Al (v:= .bool true) rfl (λρ h=>Yl.to (Yl.eql (h _ _ rfl) (h _ _ rfl)) (by rw [decide_eq_true ((LW old).2 aL)])) (zg 3 rfl ?_);exact aJ X O ay _ rfl
    ·by_cases bn:wt=0
     ·refine⟨some ((.Ig sv)),Re aL _ (.inl rfl),?_⟩;refine zg 6 rfl (Al (v:=CB (Bv old&&& 5)) rfl (λρ h=>Em (c:=5) aK (h _ _ rfl) (h _ _ rfl) (by decide)) ?_);refine Al (v:= .bool false) rfl (λρ h=>Yl.to (Yl.eql (h _ _ rfl) (h _ _ rfl)) (by rw [decide_eq_false (λe=>aL ((LW old).1 e))])) ?_;refine zg 13 rfl (Al (v:= .bool true) rfl (λρ h=>Yl.to (Yl.eql (h _ _ rfl) (h _ _ rfl)) (by rw [decide_eq_true bn])) ?_);refine zg 3 rfl (Oq (kk:=kk) (p:= .Ig sv) O ac rfl rfl rfl rfl rfl O7 PF λm aN v al=>⟨some (.Ck sv),List.mem_singleton.2 rfl,?_⟩);refine zg 6 rfl (Al (v:= .pointer (some F.qA)) rfl (λρ h=>Cp (a:=F.uA) 0 1 Tryz.underlying140 Mn rfl rfl rfl (h _ _ rfl)) ?_);refine zg 1 rfl (QU (kk:=kk) (sv:=sv) O ac rfl rfl rfl rfl SR rfl rfl ?_);refine JL.done ?_;cases sv
      ·rw [if_neg (by decide)];refine zg 4 rfl (Oq (kk:=kk) (p:= .FV) O ac rfl rfl rfl rfl rfl O7 PF λbC bD v2 bE=>⟨some (.Es (decide (IntKind.i64.wrap (v2 - v)>1000000))),by (cases decide (IntKind.i64.wrap (v2 - v)>1000000) <;> simp [Fam.BR]),?_⟩);refine zg 1 rfl (Al (v:= .int .i64 (IntKind.i64.wrap (v2 - v))) rfl (λρ h=>Yl.sub (h _ _ rfl) (h _ _ rfl)) ?_);refine zg 4 rfl ?_;generalize decide (IntKind.i64.wrap (v2 - v)>1000000)=av;refine zg 4 rfl (Al (v:= .pointer (some F.uA)) rfl (λρ h=>Cp (a:=F.uA) 0 0 Tryz.underlying140 Dg rfl rfl rfl (h _ _ rfl)) ?_);refine G2 (kk:=kk) (p:= .Es av) O ac rfl rfl rfl rfl rfl GZ Ij rfl ?_;intro m bb aI;have aQ:CR m:=aI.2.2;have am:Ce m:=aQ.Ce;by_cases ag:m.s=true
       ·refine⟨some (.DW (!av || m.w==1)),by simp [Fam.BR,ag],?_⟩;refine zg 2 rfl ?_;obtain⟨aY,aZ,a0⟩:=aI.1 ag;refine zg 4 rfl (Al (v:=CB (Bv m&&& 4)) rfl (λρ h=>Em (c:=4) am (h _ _ rfl) (h _ _ rfl) (by decide)) ?_);refine Al (v:= .bool true) rfl (λρ h=>Yl.to (Hs (h _ _ rfl) (h _ _ rfl)) (by have a1:(((Bv m&&& 4:Nat):Int)≠0):=(λe=>by rw [(HC m).1 e] at ag;cases ag);rw [decide_eq_true a1])) ?_;refine zg 6 rfl (Al (v:=CB (Bv m&&& 3)) rfl (λρ h=>Em (c:=3) am (h _ _ rfl) (h _ _ rfl) (by decide)) ?_);refine Al (v:= .bool false) rfl (λρ h=>Yl.to (Hs (h _ _ rfl) (h _ _ rfl)) (by rw [(ND m).2 ⟨aY,aZ⟩];rfl)) (zg 2 rfl ?_);refine Al (v:=CB m.w) rfl (λρ h=>IE am (h _ _ rfl) (h _ _ rfl)) (Al (v:= .bool false) rfl (λρ h=>Yl.to (Yl.eql (h _ _ rfl) (h _ _ rfl)) (by rw [decide_eq_false (λe=>a0 (by omega))])) ?_);refine zg 12 rfl (Al (v:= .bool (!av)) rfl (λρ h=>Yl.not (h _ _ rfl)) ?_);refine zg 1 rfl (Kb (c:= !av) (i:=119) rfl (λd1=>?_) (λd1=>?_))
        ·refine Ie rfl rfl rfl (zg 5 rfl ?_);have hex:(!av || m.w==1)=true:=by rw [d1];simp
         rw [hex];refine zg 2 rfl (Al (v:= .int .i32 (-11)) rfl (λρ h=>Yl.to (Yl.sub (h _ _ rfl) (h _ _ rfl)) rfl) ?_);refine zg 6 rfl (Al (v:= .pointer (some F.uA)) rfl (λρ h=>Cp (a:=F.uA) 0 0 Tryz.underlying140 Dg rfl rfl rfl (h _ _ rfl)) ?_);refine zg 1 rfl (G0 (kk:=kk) (p:= .DW true) (dl:= -11) O ac rfl rfl rfl rfl rfl G9 rfl rfl λK aN al=>⟨⟨true,K.k,false,K.w - 1⟩,some .len,?_,List.mem_singleton.2 rfl,?_⟩)
         ·obtain⟨aR,aS,aT,w3⟩:=K;obtain⟨U,g2,Z,ap,aU,aq⟩:=al;simp only at U g2 Z ap;subst U g2 Z;have aV:w3<134217728:=aq;have e:(⟨false,false,true,w3⟩:M4).num+(-11)=((8*(w3 - 1)+1:Nat):Int):=by simp only [M4.num,Bool.toNat_true,Bool.toNat_false];omega
          rw [e,Fo (by omega)];simp only [M4.num,Bool.toNat_true,Bool.toNat_false];omega
         exact zg 2 rfl (aJ X O ay _ rfl)
        ·refine Al (v:= .int .i32 (m:M4).num) rfl (λρ h=>Yl.move (h _ _ rfl)) (Al (v:=CB m.w) rfl (λρ h=>IE am (h _ _ rfl) (h _ _ rfl)) ?_);refine zg 3 rfl (F8 (p:=(m.w:Int)=1) rfl (λd2=>?_) (λd2=>?_))
         ·have hex:(!av || m.w==1)=true:=by rw [d1];simp;omega
          rw [hex];refine zg 2 rfl (Al (v:= .int .i32 (-11)) rfl (λρ h=>Yl.to (Yl.sub (h _ _ rfl) (h _ _ rfl)) rfl) ?_);refine zg 6 rfl (Al (v:= .pointer (some F.uA)) rfl (λρ h=>Cp (a:=F.uA) 0 0 Tryz.underlying140 Dg rfl rfl rfl (h _ _ rfl)) ?_);refine zg 1 rfl (G0 (kk:=kk) (p:= .DW true) (dl:= -11) O ac rfl rfl rfl rfl rfl G9 rfl rfl λK aN al=>⟨⟨true,K.k,false,K.w - 1⟩,some .len,?_,List.mem_singleton.2 rfl,?_⟩)
          ·obtain⟨aR,aS,aT,w3⟩:=K;obtain⟨U,g2,Z,ap,aU,aq⟩:=al;simp only at U g2 Z ap;subst U g2 Z;have aV:w3<134217728:=aq;have e:(⟨false,false,true,w3⟩:M4).num+(-11)=((8*(w3 - 1)+1:Nat):Int):=by simp only [M4.num,Bool.toNat_true,Bool.toNat_false];omega
           rw [e,Fo (by omega)];simp only [M4.num,Bool.toNat_true,Bool.toNat_false];omega
          exact zg 2 rfl (aJ X O ay _ rfl)
         ·have hex:(!av || m.w==1)=false:=by rw [d1];simp;omega
          rw [hex];refine zg 5 rfl (Al (v:= .pointer (some F.uA)) rfl (λρ h=>Cp (a:=F.uA) 0 0 Tryz.underlying140 Dg rfl rfl rfl (h _ _ rfl)) ?_);refine zg 1 rfl (G0 (kk:=kk) (p:= .DW false) (dl:= -7) O ac rfl rfl rfl rfl rfl G9 rfl rfl λK aN al=>⟨⟨true,K.k,true,K.w - 1⟩,some .len,?_,List.mem_singleton.2 rfl,?_⟩)
          ·obtain⟨aR,aS,aT,w3⟩:=K;obtain⟨U,g2,Z,ap,aU,aq⟩:=al;simp only at U g2 Z ap;subst U g2 Z;have aV:w3<134217728:=aq;have e:(⟨false,false,true,w3⟩:M4).num+(-7)=((8*(w3 - 1)+5:Nat):Int):=by simp only [M4.num,Bool.toNat_true,Bool.toNat_false];omega
           rw [e,Fo (by omega)];simp only [M4.num,Bool.toNat_true,Bool.toNat_false];omega
          exact zg 2 rfl (aJ X O ay _ rfl)
       ·refine⟨some (.Cd av true 0 m),by simp [Fam.BR,ag],?_⟩;refine zg 2 rfl ?_;have aW:m.s=false:=by simpa using ag
        refine zg 4 rfl (Al (v:=CB (Bv m&&& 4)) rfl (λρ h=>Em (c:=4) am (h _ _ rfl) (h _ _ rfl) (by decide)) ?_);refine Al (v:= .bool false) rfl (λρ h=>Yl.to (Hs (h _ _ rfl) (h _ _ rfl)) (by rw [(HC m).2 aW];rfl)) (zg 11 rfl ?_);refine JL.again ?_;rw [← aO];exact Ep [(0,.pointer (some F.uA)),(2,iV v),(3,.bool av),(4,.bool true),(5,iV ((0:Nat):Int)),(6,.int .i32 (m:M4).num)] rfl (a6 (av,true,0,m,v) ⟨λ_=>aI.2.1 aW,Nat.zero_le _,aQ⟩)
      ·rw [if_pos rfl];refine zg 15 rfl (Al (v:= .pointer (some F.uA)) rfl (λρ h=>Cp (a:=F.uA) 0 0 Tryz.underlying140 Dg rfl rfl rfl (h _ _ rfl)) ?_);refine G2 (kk:=kk) (p:= .Es true) O ac rfl rfl rfl rfl rfl GZ Ij rfl ?_;intro m bb aI;have aQ:CR m:=aI.2.2;have am:Ce m:=aQ.Ce;by_cases ag:m.s=true
       ·refine⟨some (.DW (!true || m.w==1)),by simp [Fam.BR,ag],?_⟩;refine zg 2 rfl ?_;obtain⟨aY,aZ,a0⟩:=aI.1 ag;refine zg 4 rfl (Al (v:=CB (Bv m&&& 4)) rfl (λρ h=>Em (c:=4) am (h _ _ rfl) (h _ _ rfl) (by decide)) ?_);refine Al (v:= .bool true) rfl (λρ h=>Yl.to (Hs (h _ _ rfl) (h _ _ rfl)) (by have a1:(((Bv m&&& 4:Nat):Int)≠0):=(λe=>by rw [(HC m).1 e] at ag;cases ag);rw [decide_eq_true a1])) ?_;refine zg 6 rfl (Al (v:=CB (Bv m&&& 3)) rfl (λρ h=>Em (c:=3) am (h _ _ rfl) (h _ _ rfl) (by decide)) ?_);refine Al (v:= .bool false) rfl (λρ h=>Yl.to (Hs (h _ _ rfl) (h _ _ rfl)) (by rw [(ND m).2 ⟨aY,aZ⟩];rfl)) (zg 2 rfl ?_);refine Al (v:=CB m.w) rfl (λρ h=>IE am (h _ _ rfl) (h _ _ rfl)) (Al (v:= .bool false) rfl (λρ h=>Yl.to (Yl.eql (h _ _ rfl) (h _ _ rfl)) (by rw [decide_eq_false (λe=>a0 (by omega))])) ?_);refine zg 12 rfl (Al (v:= .bool (!true)) rfl (λρ h=>Yl.not (h _ _ rfl)) ?_);refine zg 1 rfl (Kb (c:= !true) (i:=119) rfl (λd1=>?_) (λd1=>?_))
        ·refine Ie rfl rfl rfl (zg 5 rfl ?_);have hex:(!true || m.w==1)=true:=by rw [d1];simp
         rw [hex];refine zg 2 rfl (Al (v:= .int .i32 (-11)) rfl (λρ h=>Yl.to (Yl.sub (h _ _ rfl) (h _ _ rfl)) rfl) ?_);refine zg 6 rfl (Al (v:= .pointer (some F.uA)) rfl (λρ h=>Cp (a:=F.uA) 0 0 Tryz.underlying140 Dg rfl rfl rfl (h _ _ rfl)) ?_);refine zg 1 rfl (G0 (kk:=kk) (p:= .DW true) (dl:= -11) O ac rfl rfl rfl rfl rfl G9 rfl rfl λK aN al=>⟨⟨true,K.k,false,K.w - 1⟩,some .len,?_,List.mem_singleton.2 rfl,?_⟩)
         ·obtain⟨aR,aS,aT,w3⟩:=K;obtain⟨U,g2,Z,ap,aU,aq⟩:=al;simp only at U g2 Z ap;subst U g2 Z;have aV:w3<134217728:=aq;have e:(⟨false,false,true,w3⟩:M4).num+(-11)=((8*(w3 - 1)+1:Nat):Int):=by simp only [M4.num,Bool.toNat_true,Bool.toNat_false];omega
          rw [e,Fo (by omega)];simp only [M4.num,Bool.toNat_true,Bool.toNat_false];omega
         exact zg 2 rfl (aJ X O ay _ rfl)
        ·refine Al (v:= .int .i32 (m:M4).num) rfl (λρ h=>Yl.move (h _ _ rfl)) (Al (v:=CB m.w) rfl (λρ h=>IE am (h _ _ rfl) (h _ _ rfl)) ?_);refine zg 3 rfl (F8 (p:=(m.w:Int)=1) rfl (λd2=>?_) (λd2=>?_))
         ·have hex:(!true || m.w==1)=true:=by rw [d1];simp;omega
          rw [hex];refine zg 2 rfl (Al (v:= .int .i32 (-11)) rfl (λρ h=>Yl.to (Yl.sub (h _ _ rfl) (h _ _ rfl)) rfl) ?_);refine zg 6 rfl (Al (v:= .pointer (some F.uA)) rfl (λρ h=>Cp (a:=F.uA) 0 0 Tryz.underlying140 Dg rfl rfl rfl (h _ _ rfl)) ?_);refine zg 1 rfl (G0 (kk:=kk) (p:= .DW true) (dl:= -11) O ac rfl rfl rfl rfl rfl G9 rfl rfl λK aN al=>⟨⟨true,K.k,false,K.w - 1⟩,some .len,?_,List.mem_singleton.2 rfl,?_⟩)
          ·obtain⟨aR,aS,aT,w3⟩:=K;obtain⟨U,g2,Z,ap,aU,aq⟩:=al;simp only at U g2 Z ap;subst U g2 Z;have aV:w3<134217728:=aq;have e:(⟨false,false,true,w3⟩:M4).num+(-11)=((8*(w3 - 1)+1:Nat):Int):=by simp only [M4.num,Bool.toNat_true,Bool.toNat_false];omega
           rw [e,Fo (by omega)];simp only [M4.num,Bool.toNat_true,Bool.toNat_false];omega
          exact zg 2 rfl (aJ X O ay _ rfl)
         ·have hex:(!true || m.w==1)=false:=by rw [d1];simp;omega
          rw [hex];refine zg 5 rfl (Al (v:= .pointer (some F.uA)) rfl (λρ h=>Cp (a:=F.uA) 0 0 Tryz.underlying140 Dg rfl rfl rfl (h _ _ rfl)) ?_);refine zg 1 rfl (G0 (kk:=kk) (p:= .DW false) (dl:= -7) O ac rfl rfl rfl rfl rfl G9 rfl rfl λK aN al=>⟨⟨true,K.k,true,K.w - 1⟩,some .len,?_,List.mem_singleton.2 rfl,?_⟩)
          ·obtain⟨aR,aS,aT,w3⟩:=K;obtain⟨U,g2,Z,ap,aU,aq⟩:=al;simp only at U g2 Z ap;subst U g2 Z;have aV:w3<134217728:=aq;have e:(⟨false,false,true,w3⟩:M4).num+(-7)=((8*(w3 - 1)+5:Nat):Int):=by simp only [M4.num,Bool.toNat_true,Bool.toNat_false];omega
           rw [e,Fo (by omega)];simp only [M4.num,Bool.toNat_true,Bool.toNat_false];omega
          exact zg 2 rfl (aJ X O ay _ rfl)
       ·refine⟨some (.Cd true true 0 m),by simp [Fam.BR,ag],?_⟩;refine zg 2 rfl ?_;have aW:m.s=false:=by simpa using ag
        refine zg 4 rfl (Al (v:=CB (Bv m&&& 4)) rfl (λρ h=>Em (c:=4) am (h _ _ rfl) (h _ _ rfl) (by decide)) ?_);refine Al (v:= .bool false) rfl (λρ h=>Yl.to (Hs (h _ _ rfl) (h _ _ rfl)) (by rw [(HC m).2 aW];rfl)) (zg 11 rfl ?_);refine JL.again ?_;rw [← aO];exact Ep [(0,.pointer (some F.uA)),(2,iV v),(3,.bool true),(4,.bool true),(5,iV ((0:Nat):Int)),(6,.int .i32 (m:M4).num)] rfl (a6 (true,true,0,m,v) ⟨λ_=>aI.2.1 aW,Nat.zero_le _,aQ⟩)
     ·refine⟨some ((.Ck sv)),Re aL _ (.inr rfl),?_⟩;refine zg 6 rfl (Al (v:=CB (Bv old&&& 5)) rfl (λρ h=>Em (c:=5) aK (h _ _ rfl) (h _ _ rfl) (by decide)) ?_);refine Al (v:= .bool false) rfl (λρ h=>Yl.to (Yl.eql (h _ _ rfl) (h _ _ rfl)) (by rw [decide_eq_false (λe=>aL ((LW old).1 e))])) ?_;refine zg 13 rfl (Al (v:= .bool false) rfl (λρ h=>Yl.to (Yl.eql (h _ _ rfl) (h _ _ rfl)) (by rw [decide_eq_false bn])) ?_);refine zg 7 rfl (Al (v:= .pointer (some F.qA)) rfl (λρ h=>Cp (a:=F.uA) 0 1 Tryz.underlying140 Mn rfl rfl rfl (h _ _ rfl)) ?_);refine zg 1 rfl (QU (kk:=kk) (sv:=sv) O ac rfl rfl rfl rfl SR rfl rfl ?_);refine JL.done ?_;cases sv
      ·rw [if_neg (by decide)];refine zg 4 rfl (Oq (kk:=kk) (p:= .FV) O ac rfl rfl rfl rfl rfl O7 PF λbC bD v2 bE=>⟨some (.Es (decide (IntKind.i64.wrap (v2 - wt)>1000000))),by (cases decide (IntKind.i64.wrap (v2 - wt)>1000000) <;> simp [Fam.BR]),?_⟩);refine zg 1 rfl (Al (v:= .int .i64 (IntKind.i64.wrap (v2 - wt))) rfl (λρ h=>Yl.sub (h _ _ rfl) (h _ _ rfl)) ?_);refine zg 4 rfl ?_;generalize decide (IntKind.i64.wrap (v2 - wt)>1000000)=av;refine zg 4 rfl (Al (v:= .pointer (some F.uA)) rfl (λρ h=>Cp (a:=F.uA) 0 0 Tryz.underlying140 Dg rfl rfl rfl (h _ _ rfl)) ?_);refine G2 (kk:=kk) (p:= .Es av) O ac rfl rfl rfl rfl rfl GZ Ij rfl ?_;intro m bb aI;have aQ:CR m:=aI.2.2;have am:Ce m:=aQ.Ce;by_cases ag:m.s=true
       ·refine⟨some (.DW (!av || m.w==1)),by simp [Fam.BR,ag],?_⟩;refine zg 2 rfl ?_;obtain⟨aY,aZ,a0⟩:=aI.1 ag;refine zg 4 rfl (Al (v:=CB (Bv m&&& 4)) rfl (λρ h=>Em (c:=4) am (h _ _ rfl) (h _ _ rfl) (by decide)) ?_);refine Al (v:= .bool true) rfl (λρ h=>Yl.to (Hs (h _ _ rfl) (h _ _ rfl)) (by have a1:(((Bv m&&& 4:Nat):Int)≠0):=(λe=>by rw [(HC m).1 e] at ag;cases ag);rw [decide_eq_true a1])) ?_;refine zg 6 rfl (Al (v:=CB (Bv m&&& 3)) rfl (λρ h=>Em (c:=3) am (h _ _ rfl) (h _ _ rfl) (by decide)) ?_);refine Al (v:= .bool false) rfl (λρ h=>Yl.to (Hs (h _ _ rfl) (h _ _ rfl)) (by rw [(ND m).2 ⟨aY,aZ⟩];rfl)) (zg 2 rfl ?_);refine Al (v:=CB m.w) rfl (λρ h=>IE am (h _ _ rfl) (h _ _ rfl)) (Al (v:= .bool false) rfl (λρ h=>Yl.to (Yl.eql (h _ _ rfl) (h _ _ rfl)) (by rw [decide_eq_false (λe=>a0 (by omega))])) ?_);refine zg 12 rfl (Al (v:= .bool (!av)) rfl (λρ h=>Yl.not (h _ _ rfl)) ?_);refine zg 1 rfl (Kb (c:= !av) (i:=119) rfl (λd1=>?_) (λd1=>?_))
        ·refine Ie rfl rfl rfl (zg 5 rfl ?_);have hex:(!av || m.w==1)=true:=by rw [d1];simp
         rw [hex];refine zg 2 rfl (Al (v:= .int .i32 (-11)) rfl (λρ h=>Yl.to (Yl.sub (h _ _ rfl) (h _ _ rfl)) rfl) ?_);refine zg 6 rfl (Al (v:= .pointer (some F.uA)) rfl (λρ h=>Cp (a:=F.uA) 0 0 Tryz.underlying140 Dg rfl rfl rfl (h _ _ rfl)) ?_);refine zg 1 rfl (G0 (kk:=kk) (p:= .DW true) (dl:= -11) O ac rfl rfl rfl rfl rfl G9 rfl rfl λK aN al=>⟨⟨true,K.k,false,K.w - 1⟩,some .len,?_,List.mem_singleton.2 rfl,?_⟩)
         ·obtain⟨aR,aS,aT,w3⟩:=K;obtain⟨U,g2,Z,ap,aU,aq⟩:=al;simp only at U g2 Z ap;subst U g2 Z;have aV:w3<134217728:=aq;have e:(⟨false,false,true,w3⟩:M4).num+(-11)=((8*(w3 - 1)+1:Nat):Int):=by simp only [M4.num,Bool.toNat_true,Bool.toNat_false];omega
          rw [e,Fo (by omega)];simp only [M4.num,Bool.toNat_true,Bool.toNat_false];omega
         exact zg 2 rfl (aJ X O ay _ rfl)
        ·refine Al (v:= .int .i32 (m:M4).num) rfl (λρ h=>Yl.move (h _ _ rfl)) (Al (v:=CB m.w) rfl (λρ h=>IE am (h _ _ rfl) (h _ _ rfl)) ?_);refine zg 3 rfl (F8 (p:=(m.w:Int)=1) rfl (λd2=>?_) (λd2=>?_))
         ·have hex:(!av || m.w==1)=true:=by rw [d1];simp;omega
          rw [hex];refine zg 2 rfl (Al (v:= .int .i32 (-11)) rfl (λρ h=>Yl.to (Yl.sub (h _ _ rfl) (h _ _ rfl)) rfl) ?_);refine zg 6 rfl (Al (v:= .pointer (some F.uA)) rfl (λρ h=>Cp (a:=F.uA) 0 0 Tryz.underlying140 Dg rfl rfl rfl (h _ _ rfl)) ?_);refine zg 1 rfl (G0 (kk:=kk) (p:= .DW true) (dl:= -11) O ac rfl rfl rfl rfl rfl G9 rfl rfl λK aN al=>⟨⟨true,K.k,false,K.w - 1⟩,some .len,?_,List.mem_singleton.2 rfl,?_⟩)
          ·obtain⟨aR,aS,aT,w3⟩:=K;obtain⟨U,g2,Z,ap,aU,aq⟩:=al;simp only at U g2 Z ap;subst U g2 Z;have aV:w3<134217728:=aq;have e:(⟨false,false,true,w3⟩:M4).num+(-11)=((8*(w3 - 1)+1:Nat):Int):=by simp only [M4.num,Bool.toNat_true,Bool.toNat_false];omega
           rw [e,Fo (by omega)];simp only [M4.num,Bool.toNat_true,Bool.toNat_false];omega
          exact zg 2 rfl (aJ X O ay _ rfl)
         ·have hex:(!av || m.w==1)=false:=by rw [d1];simp;omega
          rw [hex];refine zg 5 rfl (Al (v:= .pointer (some F.uA)) rfl (λρ h=>Cp (a:=F.uA) 0 0 Tryz.underlying140 Dg rfl rfl rfl (h _ _ rfl)) ?_);refine zg 1 rfl (G0 (kk:=kk) (p:= .DW false) (dl:= -7) O ac rfl rfl rfl rfl rfl G9 rfl rfl λK aN al=>⟨⟨true,K.k,true,K.w - 1⟩,some .len,?_,List.mem_singleton.2 rfl,?_⟩)
          ·obtain⟨aR,aS,aT,w3⟩:=K;obtain⟨U,g2,Z,ap,aU,aq⟩:=al;simp only at U g2 Z ap;subst U g2 Z;have aV:w3<134217728:=aq;have e:(⟨false,false,true,w3⟩:M4).num+(-7)=((8*(w3 - 1)+5:Nat):Int):=by simp only [M4.num,Bool.toNat_true,Bool.toNat_false];omega
           rw [e,Fo (by omega)];simp only [M4.num,Bool.toNat_true,Bool.toNat_false];omega
          exact zg 2 rfl (aJ X O ay _ rfl)
       ·refine⟨some (.Cd av true 0 m),by simp [Fam.BR,ag],?_⟩;refine zg 2 rfl ?_;have aW:m.s=false:=by simpa using ag
        refine zg 4 rfl (Al (v:=CB (Bv m&&& 4)) rfl (λρ h=>Em (c:=4) am (h _ _ rfl) (h _ _ rfl) (by decide)) ?_);refine Al (v:= .bool false) rfl (λρ h=>Yl.to (Hs (h _ _ rfl) (h _ _ rfl)) (by rw [(HC m).2 aW];rfl)) (zg 11 rfl ?_);refine JL.again ?_;rw [← aO];exact Ep [(0,.pointer (some F.uA)),(2,iV wt),(3,.bool av),(4,.bool true),(5,iV ((0:Nat):Int)),(6,.int .i32 (m:M4).num)] rfl (a6 (av,true,0,m,wt) ⟨λ_=>aI.2.1 aW,Nat.zero_le _,aQ⟩)
      ·rw [if_pos rfl];refine zg 15 rfl (Al (v:= .pointer (some F.uA)) rfl (λρ h=>Cp (a:=F.uA) 0 0 Tryz.underlying140 Dg rfl rfl rfl (h _ _ rfl)) ?_);refine G2 (kk:=kk) (p:= .Es true) O ac rfl rfl rfl rfl rfl GZ Ij rfl ?_;intro m bb aI;have aQ:CR m:=aI.2.2;have am:Ce m:=aQ.Ce;by_cases ag:m.s=true
       ·refine⟨some (.DW (!true || m.w==1)),by simp [Fam.BR,ag],?_⟩;refine zg 2 rfl ?_;obtain⟨aY,aZ,a0⟩:=aI.1 ag;refine zg 4 rfl (Al (v:=CB (Bv m&&& 4)) rfl (λρ h=>Em (c:=4) am (h _ _ rfl) (h _ _ rfl) (by decide)) ?_);refine Al (v:= .bool true) rfl (λρ h=>Yl.to (Hs (h _ _ rfl) (h _ _ rfl)) (by have a1:(((Bv m&&& 4:Nat):Int)≠0):=(λe=>by rw [(HC m).1 e] at ag;cases ag);rw [decide_eq_true a1])) ?_;refine zg 6 rfl (Al (v:=CB (Bv m&&& 3)) rfl (λρ h=>Em (c:=3) am (h _ _ rfl) (h _ _ rfl) (by decide)) ?_);refine Al (v:= .bool false) rfl (λρ h=>Yl.to (Hs (h _ _ rfl) (h _ _ rfl)) (by rw [(ND m).2 ⟨aY,aZ⟩];rfl)) (zg 2 rfl ?_);refine Al (v:=CB m.w) rfl (λρ h=>IE am (h _ _ rfl) (h _ _ rfl)) (Al (v:= .bool false) rfl (λρ h=>Yl.to (Yl.eql (h _ _ rfl) (h _ _ rfl)) (by rw [decide_eq_false (λe=>a0 (by omega))])) ?_);refine zg 12 rfl (Al (v:= .bool (!true)) rfl (λρ h=>Yl.not (h _ _ rfl)) ?_);refine zg 1 rfl (Kb (c:= !true) (i:=119) rfl (λd1=>?_) (λd1=>?_))
        ·refine Ie rfl rfl rfl (zg 5 rfl ?_);have hex:(!true || m.w==1)=true:=by rw [d1];simp
         rw [hex];refine zg 2 rfl (Al (v:= .int .i32 (-11)) rfl (λρ h=>Yl.to (Yl.sub (h _ _ rfl) (h _ _ rfl)) rfl) ?_);refine zg 6 rfl (Al (v:= .pointer (some F.uA)) rfl (λρ h=>Cp (a:=F.uA) 0 0 Tryz.underlying140 Dg rfl rfl rfl (h _ _ rfl)) ?_);refine zg 1 rfl (G0 (kk:=kk) (p:= .DW true) (dl:= -11) O ac rfl rfl rfl rfl rfl G9 rfl rfl λK aN al=>⟨⟨true,K.k,false,K.w - 1⟩,some .len,?_,List.mem_singleton.2 rfl,?_⟩)
         ·obtain⟨aR,aS,aT,w3⟩:=K;obtain⟨U,g2,Z,ap,aU,aq⟩:=al;simp only at U g2 Z ap;subst U g2 Z;have aV:w3<134217728:=aq;have e:(⟨false,false,true,w3⟩:M4).num+(-11)=((8*(w3 - 1)+1:Nat):Int):=by simp only [M4.num,Bool.toNat_true,Bool.toNat_false];omega
          rw [e,Fo (by omega)];simp only [M4.num,Bool.toNat_true,Bool.toNat_false];omega
         exact zg 2 rfl (aJ X O ay _ rfl)
        ·refine Al (v:= .int .i32 (m:M4).num) rfl (λρ h=>Yl.move (h _ _ rfl)) (Al (v:=CB m.w) rfl (λρ h=>IE am (h _ _ rfl) (h _ _ rfl)) ?_);refine zg 3 rfl (F8 (p:=(m.w:Int)=1) rfl (λd2=>?_) (λd2=>?_))
         ·have hex:(!true || m.w==1)=true:=by rw [d1];simp;omega
          rw [hex];refine zg 2 rfl (Al (v:= .int .i32 (-11)) rfl (λρ h=>Yl.to (Yl.sub (h _ _ rfl) (h _ _ rfl)) rfl) ?_);refine zg 6 rfl (Al (v:= .pointer (some F.uA)) rfl (λρ h=>Cp (a:=F.uA) 0 0 Tryz.underlying140 Dg rfl rfl rfl (h _ _ rfl)) ?_);refine zg 1 rfl (G0 (kk:=kk) (p:= .DW true) (dl:= -11) O ac rfl rfl rfl rfl rfl G9 rfl rfl λK aN al=>⟨⟨true,K.k,false,K.w - 1⟩,some .len,?_,List.mem_singleton.2 rfl,?_⟩)
          ·obtain⟨aR,aS,aT,w3⟩:=K;obtain⟨U,g2,Z,ap,aU,aq⟩:=al;simp only at U g2 Z ap;subst U g2 Z;have aV:w3<134217728:=aq;have e:(⟨false,false,true,w3⟩:M4).num+(-11)=((8*(w3 - 1)+1:Nat):Int):=by simp only [M4.num,Bool.toNat_true,Bool.toNat_false];omega
           rw [e,Fo (by omega)];simp only [M4.num,Bool.toNat_true,Bool.toNat_false];omega
          exact zg 2 rfl (aJ X O ay _ rfl)
         ·have hex:(!true || m.w==1)=false:=by rw [d1];simp;omega
          rw [hex];refine zg 5 rfl (Al (v:= .pointer (some F.uA)) rfl (λρ h=>Cp (a:=F.uA) 0 0 Tryz.underlying140 Dg rfl rfl rfl (h _ _ rfl)) ?_);refine zg 1 rfl (G0 (kk:=kk) (p:= .DW false) (dl:= -7) O ac rfl rfl rfl rfl rfl G9 rfl rfl λK aN al=>⟨⟨true,K.k,true,K.w - 1⟩,some .len,?_,List.mem_singleton.2 rfl,?_⟩)
          ·obtain⟨aR,aS,aT,w3⟩:=K;obtain⟨U,g2,Z,ap,aU,aq⟩:=al;simp only at U g2 Z ap;subst U g2 Z;have aV:w3<134217728:=aq;have e:(⟨false,false,true,w3⟩:M4).num+(-7)=((8*(w3 - 1)+5:Nat):Int):=by simp only [M4.num,Bool.toNat_true,Bool.toNat_false];omega
           rw [e,Fo (by omega)];simp only [M4.num,Bool.toNat_true,Bool.toNat_false];omega
          exact zg 2 rfl (aJ X O ay _ rfl)
       ·refine⟨some (.Cd true true 0 m),by simp [Fam.BR,ag],?_⟩;refine zg 2 rfl ?_;have aW:m.s=false:=by simpa using ag
        refine zg 4 rfl (Al (v:=CB (Bv m&&& 4)) rfl (λρ h=>Em (c:=4) am (h _ _ rfl) (h _ _ rfl) (by decide)) ?_);refine Al (v:= .bool false) rfl (λρ h=>Yl.to (Hs (h _ _ rfl) (h _ _ rfl)) (by rw [(HC m).2 aW];rfl)) (zg 11 rfl ?_);refine JL.again ?_;rw [← aO];exact Ep [(0,.pointer (some F.uA)),(2,iV wt),(3,.bool true),(4,.bool true),(5,iV ((0:Nat):Int)),(6,.int .i32 (m:M4).num)] rfl (a6 (true,true,0,m,wt) ⟨λ_=>aI.2.1 aW,Nat.zero_le _,aQ⟩)
   ·refine JL.done (zg 4 rfl ?_);refine Al (v:= .pointer (some F.uA)) rfl (λρ h=>Cp (a:=F.uA) 0 0 Tryz.underlying140 Dg rfl rfl rfl (h _ _ rfl)) (G2 (kk:=kk) (p:= .DY sv aw it) O ac rfl rfl rfl rfl rfl GZ Ij rfl λaP bi aX=>⟨some (.Cd sv aw it aP),List.mem_singleton.2 rfl,?_⟩);refine zg 3 rfl (JL.again ?_);rw [← aO];exact Ep [(0,.pointer (some F.uA)),(2,iV wt),(3,.bool sv),(4,.bool aw),(5,iV (it:Int)),(6,.int .i32 (aP:M4).num)] rfl (a6 (sv,aw,it,aP,wt) ⟨aX.2.2.2,a2.2.1,aX.2.2.1⟩)
 exact λa be=>key 5 a (by omega) be
set_option maxHeartbeats 4000000 in
theorem UM{F:Fam}{n:Nat}{L:Env}{ds:Ld_}{k:Li_}{cs:Lf_}{s:St}{b:Frame}{ops:Ao_}{i:Nat}{rest:List Nat}{d:Option Tmp}{x:Operand}{ats:Array TypeId}{ty:TypeId}{pp:String}{af:Ae_}{g:On_}{kk:Nat}(K:s.q=false)(O:ops[i]? =some ⟨d,.call ⟨.value (.func 162),#[x],ats⟩,ty,pp,af,g⟩)(hw:AJ L ops ⟨d,.call ⟨.value (.func 162),#[x],ats⟩,ty,pp,af,g⟩=some true)(U:((b.kind != .early)&&Bd n d)=true)(Y:ev L x=some (.pointer (some F.uA)))
  (h:JL (AP Tryz.prog false) (Stop Tryz.prog F (.lk kk .Fw)) b n (As L d (.tuple #[])) ds (.inRegion ops rest::k) cs s):
  JL (AP Tryz.prog false) (Stop Tryz.prog F (.lk kk .FY)) b n L ds (.inRegion ops (i::rest)::k) cs s:=by
 refine G3 (vs:= [.pointer (some F.uA)]) O hw U Tryz.func162 (by decide+kernel) rfl (by simp [evs,Y]) (Nat.le_of_ble_eq_true rfl) λac back=>zg 2 rfl (KW (kk:=kk) (p:= .FY) CK.stop K rfl (λ_ _=>rfl) rfl rfl rfl rfl (by simp) Tw ?_);refine zg 6 rfl (Al (v:= .pointer (some F.uA)) rfl (λρ h=>Cp (a:=F.uA) 0 0 Tryz.underlying140 Dg rfl rfl rfl (h _ _ rfl)) ?_);refine Rr (kk:=kk) (p:= .G8) (old:=M4.zero) (nw:=⟨true,false,false,0⟩) CK.stop K rfl rfl rfl rfl rfl Nt rfl rfl rfl (λq Z=>⟨some .len,by simp [Fam.BR],?_⟩) (λm q hm Z=>⟨some (.DY false false 0),by simp [Fam.BR,hm],?_⟩)
 ·refine JL.done (zg 5 rfl ?_);refine KW (kk:=kk) (p:= .len) CK.stop K rfl (λ_ _=>rfl) rfl rfl rfl rfl (by simp) NL (zg 3 rfl ?_);refine Ou (kk:=kk) (p:= .Kw) CK.stop K rfl (λ_ _=>rfl) rfl rfl rfl rfl Tryz.underlying229 Tryz.underlying185 OP rfl (O3 (kk:=kk) (p:= .JH) (ad:=F.uA) CK.stop K rfl (λ_ _=>rfl) rfl rfl rfl rfl (by simp) TB rfl rfl ?_);exact JL.done (JL.ret rfl rfl (Bx.none Tryz.func162 rfl) (back _ _ _ _ h))
 ·refine JL.done (zg 4 rfl ?_);refine Vf (kk:=kk) K rfl rfl rfl rfl (JL.done ?_);exact JL.fin rfl rfl (Bx.none Tryz.func162 rfl) (back _ _ _ _ h)
set_option maxHeartbeats 4000000 in
theorem Vj{F:Fam}{n:Nat}{L:Env}{ds:Ld_}{k:Li_}{cs:Lf_}{s:St}{b:Frame}{ops:Ao_}{i:Nat}{rest:List Nat}{d:Option Tmp}{x:Operand}{ats:Array TypeId}{ty:TypeId}{pp:String}{af:Ae_}{g:On_}{kk:Nat}(K:s.q=false)(O:ops[i]? =some ⟨d,.call ⟨.value (.func 121),#[x],ats⟩,ty,pp,af,g⟩)(hw:AJ L ops ⟨d,.call ⟨.value (.func 121),#[x],ats⟩,ty,pp,af,g⟩=some true)(U:((b.kind != .early)&&Bd n d)=true)(Y:ev L x=some (.pointer (some F.uA)))
  (h:JL (AP Tryz.prog false) (Stop Tryz.prog F (.lk kk .Fw)) b n (As L d (.tuple #[])) ds (.inRegion ops rest::k) cs s):
  JL (AP Tryz.prog false) (Stop Tryz.prog F (.lk kk .FY)) b n L ds (.inRegion ops (i::rest)::k) cs s:=by
 refine G3 (vs:= [.pointer (some F.uA)]) O hw U Tryz.func121 (by decide+kernel) rfl (by simp [evs,Y]) (Nat.le_of_ble_eq_true rfl) λZ back=>zg 3 rfl (Al (v:= .pointer (some F.uA)) rfl (λρ h=>Cp (a:=F.uA) 1 0 Tryz.underlying142 (AQ Tryz.type140) rfl rfl rfl (h _ _ rfl)) ?_);refine UM (kk:=kk) K rfl rfl rfl rfl (JL.done ?_);exact JL.fin rfl rfl (Bx.none Tryz.func121 rfl) (back _ _ _ _ h)
end Pal
namespace Pal
open Go Go.Conc Go.Conc.Lib Go.Proofs Go.ConcR.Gen
def Ix(m:M4):LP:=if m.l=false/\m.k=false/\m.s=false/\m.w≠0 then .Ez m else .ET
def PY(m:M4):LP:=if m.s=true then .ER true else if m.k=false/\m.w≠0 then .Ez {m with l:=false} else .ET
set_option maxHeartbeats 4000000 in
theorem UN{F:Fam}{n:Nat}{L:Env}{ds:Ld_}{k:Li_}{cs:Lf_}{s:St}{b:Frame}{ops:Ao_}{i:Nat}{rest:List Nat}{d:Option Tmp}{x Z:Operand}{nw:M4}{ats:Array TypeId}{ty:TypeId}{pp:String}{af:Ae_}{g:On_}{kk:Nat}(U:s.q=false)(aL:ops[i]? =some ⟨d,.call ⟨.value (.func 191),#[x,Z],ats⟩,ty,pp,af,g⟩)(hw:AJ L ops ⟨d,.call ⟨.value (.func 191),#[x,Z],ats⟩,ty,pp,af,g⟩=some true)(aM:((b.kind != .early)&&Bd n d)=true)(aN:ev L x=some (.pointer (some F.uA)))(aO:ev L Z=some (.int .i32 nw.num))(al:nw.l=false)(aP:CR nw)(ac:Ce nw)
  (h:JL (AP Tryz.prog false) (Stop Tryz.prog F (.lk kk .ET)) b n (As L d (.tuple #[])) ds (.inRegion ops rest::k) cs s):
  JL (AP Tryz.prog false) (Stop Tryz.prog F (.lk kk (if nw.s=true then .ER true else if nw.k=false/\nw.w≠0 then .Ez nw else .ET))) b n L ds (.inRegion ops (i::rest)::k) cs s:=by
 refine G3 (vs:= [.pointer (some F.uA),.int .i32 nw.num]) aL hw aM Tryz.func191 (by decide+kernel) rfl (by simp [evs,aN,aO]) (Nat.le_of_ble_eq_true rfl) λam back=>zg 4 rfl (Al (v:= .int .i32 ({nw with l:=true}:M4).num) rfl (λρ h=>XO ac al (h _ _ rfl) (h _ _ rfl)) ?_);refine Al (v:=CB (Bv ({nw with l:=true}:M4)&&& 1)) rfl (λρ h=>Em (c:=1) (m:={nw with l:=true}) ac (h _ _ rfl) (h _ _ rfl) (by decide)) (Al (v:= .bool false) rfl (λρ h=>Yl.to (Yl.eql (h _ _ rfl) (h _ _ rfl)) (by rw [decide_eq_false (λe=>by have q:=(PI _).1 e;cases q)])) ?_);refine zg 6 rfl (Al (v:=CB (Bv nw&&& 4)) rfl (λρ h=>Em (c:=4) ac (h _ _ rfl) (h _ _ rfl) (by decide)) ?_);refine zg 2 rfl (F8 (p:=((Bv nw&&& 4:Nat):Int)=0) rfl (λc=>?_) (λc=>?_))
 ·have ap:=(HC nw).1 c;rw [if_neg (by rw [ap];exact Bool.false_ne_true)];refine zg 6 rfl ?_;refine IC ?_;refine Ep [(0,.pointer (some F.uA)),(4,.int .i32 nw.num)] rfl ?_;refine Ty λaq av=>?_;have aQ:(if nw.k=false/\nw.w≠0 then LP.Ez nw else .ET)=Ix nw:=by unfold Ix;rw [al,ap];simp
  rw [aQ];refine Tl (P:=Tryz.prog) (F:=F) (s:=s) (kk:=kk) (ph:=λm=>LP.Ez m) (ok:=CR) (head:=λ(X:Ph->GP) (a:M4)=>JL (AP Tryz.prog false) (X (.lk kk (Ix a))) (base 191) Tryz.f191.ntmps ([(0,.pointer (some F.uA)),(4,.int .i32 (a:M4).num)]) [] aq (am::cs) s) ?_ nw aP;intro Y aZ aw hC old ay;have K:Ce old:=ay.Ce;show JL (AP Tryz.prog false) (Y (.lk kk (Ix old))) (base 191) Tryz.f191.ntmps [(0,.pointer (some F.uA)),(4,.int .i32 old.num)] [] aq (am::cs) s;rw [av];refine zg 5 rfl (Al (v:=CB old.w) rfl (λρ h=>IE K (h _ _ rfl) (h _ _ rfl)) ?_);refine zg 2 rfl (Lw (q:=(old.w:Int)=0) (i:=17) rfl (λc2=>?_) (λc2=>?_))
  ·have O:Ix old= .ET:=by unfold Ix;rw [if_neg (λe=>e.2.2.2 (by omega))]
   refine zg 6 rfl ?_;rw [O];exact JL.ret rfl rfl (Bx.none Tryz.func191 rfl) (back _ _ _ _ (ME (λg s=>aw _ g s) h))
  ·refine Al (v:= .int .i32 (old:M4).num) rfl (λρ h=>Yl.move (h _ _ rfl)) (Al (v:=CB (Bv old&&& 7)) rfl (λρ h=>Em (c:=7) K (h _ _ rfl) (h _ _ rfl) (by decide)) ?_);refine zg 3 rfl (F8 (p:=((Bv old&&& 7:Nat):Int)≠0) rfl (λc3=>?_) (λc3=>?_))
   ·have O:Ix old= .ET:=by unfold Ix;rw [if_neg (λe=>c3 ((Tu old).2 ⟨e.1,e.2.1,e.2.2.1⟩))]
    rw [O];exact JL.ret rfl rfl (Bx.none Tryz.func191 rfl) (back _ _ _ _ (ME (λg s=>aw _ g s) h))
   ·have aR:=(Tu old).1 (Decidable.not_not.1 c3);obtain⟨l0,a0,a1,w0⟩:=old;obtain⟨z1,az,aI⟩:=aR;simp only at z1 az aI c2;subst z1 az aI;have aJ:w0≠0:=by omega
    have O:Ix ⟨false,false,false,w0⟩= .Ez ⟨false,false,false,w0⟩:=by unfold Ix;rw [if_pos ⟨rfl,rfl,rfl,aJ⟩]
    rw [O];refine zg 4 rfl (Al (v:= .int .i32 (⟨false,false,false,w0 - 1⟩:M4).num) rfl (λρ h=>Xu (m:=⟨false,false,false,w0⟩) K aJ (h _ _ rfl) (h _ _ rfl)) ?_);refine Al (v:= .int .i32 (⟨false,true,false,w0 - 1⟩:M4).num) rfl (λρ h=>Na (c:=2) (m:=⟨false,false,false,w0 - 1⟩) (by unfold Ce at K ⊢;simp only at K ⊢;omega) (by decide) (P0 _) rfl (h _ _ rfl) (h _ _ rfl)) (zg 7 rfl ?_);refine Al (v:= .pointer (some F.uA)) rfl (λρ h=>Cp (a:=F.uA) 0 0 Tryz.underlying140 Dg rfl rfl rfl (h _ _ rfl)) (zg 2 rfl ?_);refine λT aS=>(AP Tryz.prog false).stop (hC ⟨false,false,false,w0⟩ _ ay λX a2 aT aK aU aV=>?_);refine OG (kk:=kk) (p:= .Ez ⟨false,false,false,w0⟩) (old:=⟨false,false,false,w0⟩) (nw:=⟨false,true,false,w0 - 1⟩) aT U rfl rfl rfl rfl rfl Nt rfl rfl rfl (λq aW=>⟨some (.ER false),by simp [Fam.BR],?_⟩) (λm q hm aW=>⟨some .Hd,by simp [Fam.BR,hm],?_⟩) T aS
    ·refine JL.done (zg 5 rfl ?_);refine Al (v:= .pointer (some F.qA)) rfl (λρ h=>Cp (a:=F.uA) 0 1 Tryz.underlying140 Mn rfl rfl rfl (h _ _ rfl)) (QT (kk:=kk) (st:=false) aK U rfl rfl rfl rfl S3 rfl rfl ?_);exact JL.done (JL.ret rfl rfl (Bx.none Tryz.func191 rfl) (back _ _ _ _ (ME (λg s=>aU _ g s) h)))
    ·refine JL.done (zg 5 rfl ?_);refine Al (v:= .pointer (some F.uA)) rfl (λρ h=>Cp (a:=F.uA) 0 0 Tryz.underlying140 Dg rfl rfl rfl (h _ _ rfl)) (G2 (kk:=kk) (p:= .Hd) aK U rfl rfl rfl rfl rfl GZ ZD rfl λag a3 aX=>⟨some (Ix ag),List.mem_singleton.2 rfl,?_⟩);refine zg 3 rfl (JL.again ?_);rw [← av];exact Ep [(0,.pointer (some F.uA)),(4,.int .i32 ag.num)] rfl (aV ag aX)
 ·have aY:nw.s=true:=by rcases Bool.eq_false_or_eq_true nw.s with hh | hh;exact hh;exact absurd ((HC nw).2 hh) c
  rw [if_pos aY];refine zg 3 rfl (Al (v:= .pointer (some F.qA)) rfl (λρ h=>Cp (a:=F.uA) 0 1 Tryz.underlying140 Mn rfl rfl rfl (h _ _ rfl)) ?_);refine QT (kk:=kk) (st:=true) CK.stop U rfl rfl rfl rfl S3 rfl rfl (JL.done ?_);exact JL.fin rfl rfl (Bx.none Tryz.func191 rfl) (back _ _ _ _ h)
set_option maxHeartbeats 4000000 in
theorem Uh{F:Fam}{n:Nat}{L:Env}{ds:Ld_}{k:Li_}{cs:Lf_}{s:St}{b:Frame}{ops:Ao_}{i:Nat}{rest:List Nat}{d:Option Tmp}{x:Operand}{ats:Array TypeId}{ty:TypeId}{pp:String}{af:Ae_}{g:On_}{kk:Nat}(K:s.q=false)(al:ops[i]? =some ⟨d,.call ⟨.value (.func 163),#[x],ats⟩,ty,pp,af,g⟩)(hw:AJ L ops ⟨d,.call ⟨.value (.func 163),#[x],ats⟩,ty,pp,af,g⟩=some true)(am:((b.kind != .early)&&Bd n d)=true)(ap:ev L x=some (.pointer (some F.uA)))
  (h:JL (AP Tryz.prog false) (Stop Tryz.prog F .HJ) b n (As L d (.tuple #[])) ds (.inRegion ops rest::k) cs s):
  JL (AP Tryz.prog false) (Stop Tryz.prog F (.lk kk .Gy)) b n L ds (.inRegion ops (i::rest)::k) cs s:=by
 refine G3 (vs:= [.pointer (some F.uA)]) al hw am Tryz.func163 (by decide+kernel) rfl (by simp [evs,ap]) (Nat.le_of_ble_eq_true rfl) λaI back=>zg 6 rfl (Al (v:= .pointer (some F.uA)) rfl (λρ h=>Cp (a:=F.uA) 0 0 Tryz.underlying140 Dg rfl rfl rfl (h _ _ rfl)) ?_);refine G2 (kk:=kk) (p:= .Gy) CK.stop K rfl rfl rfl rfl rfl GZ Zr rfl λaJ aK aL=>⟨some .JW,List.mem_singleton.2 rfl,?_⟩;refine zg 4 rfl (Ou (kk:=kk) (p:= .JW) CK.stop K rfl (λ_ _=>rfl) rfl rfl rfl rfl Tryz.underlying229 Tryz.underlying185 OP rfl ?_);refine O3 (kk:=kk) (p:= .JX) (ad:=F.uA) CK.stop K rfl (λ_ _=>rfl) rfl rfl rfl rfl (by simp) ao rfl rfl (zg 2 rfl ?_);refine KW (kk:=kk) (p:= .JI) CK.stop K rfl (λ_ _=>rfl) rfl rfl rfl rfl (by simp) Tw (zg 5 rfl ?_);refine Al (v:= .pointer (some F.uA)) rfl (λρ h=>Cp (a:=F.uA) 0 0 Tryz.underlying140 Dg rfl rfl rfl (h _ _ rfl)) (G0 (kk:=kk) (p:= .HE) (dl:= -1) CK.stop K rfl rfl rfl rfl rfl G9 rfl rfl λm q Y=>⟨{m with l:=false},some (PY m),?_,List.mem_singleton.2 rfl,?_⟩)
 ·obtain⟨aq,O,U,w3⟩:=m;obtain⟨Z,av⟩:=Y;simp only at Z;subst Z;have aM:w3<134217728:=av;have aN:=Bool.toNat_le O;have aO:=Bool.toNat_le U;have e:(⟨true,O,U,w3⟩:M4).num+(-1)=((2*O.toNat+4*U.toNat+8*w3:Nat):Int):=by simp only [M4.num,Bool.toNat_true];omega
  rw [e,Fo (by omega)];simp only [M4.num,Bool.toNat_false];omega
 ·have ac:CR m:=Y.2;have aw:Ce ({m with l:=false}:M4):=(show CR ({m with l:=false}:M4) from ac).Ce;refine zg 8 rfl ?_;refine F8 (p:=({m with l:=false}:M4).num≠0) rfl (λc=>?_) (λc=>?_)
  ·refine JL.region (zg 2 rfl ?_);refine UN (kk:=kk) (nw:={m with l:=false}) K rfl rfl rfl rfl rfl rfl ac aw (zg 2 rfl ?_);refine KW (kk:=kk) (p:= .ET) CK.stop K rfl (λ_ _=>rfl) rfl rfl rfl rfl (by simp) NL (JL.done ?_);exact JL.fin rfl rfl (Bx.none Tryz.func163 rfl) (back _ _ _ _ h)
  ·have ay:({m with l:=false}:M4).num=0:=Decidable.not_not.1 c;have ag:m.k=false/\m.s=false/\m.w=0:=by
    obtain⟨aq,O,U,w3⟩:=m;cases O <;> cases U <;> simp [M4.num] at ay ⊢ <;> omega
   have az:PY m= .ET:=by unfold PY;rw [if_neg (by rw [ag.2.1];exact Bool.false_ne_true),if_neg (λe=>e.2 ag.2.2)]
   rw [az];refine zg 2 rfl (KW (kk:=kk) (p:= .ET) CK.stop K rfl (λ_ _=>rfl) rfl rfl rfl rfl (by simp) NL ?_);exact JL.done (JL.fin rfl rfl (Bx.none Tryz.func163 rfl) (back _ _ _ _ h))
theorem JO.Xa{F:Fam}{n:Nat}{M:Env}{ds:Ld_}{cs:Lf_}{s:St}{b:Frame}{kk:Nat}(K:b.roundOf=none)(O:s.q=false)(h:JO (AP Tryz.prog false) (Stop Tryz.prog F .HJ) b n M ds cs s):
  JO (AP Tryz.prog false) (Stop Tryz.prog F (.lk kk .Gy)) b n M (dcall 122 #[.pointer (some F.uA)]::ds) cs s:=by
 refine JO.enter (vs:= [.pointer (some F.uA)]) K Tryz.func122 (by decide+kernel) rfl (Nat.le_of_ble_eq_true rfl) λT U todo=>zg 3 rfl (Al (v:= .pointer (some F.uA)) rfl (λρ h=>Cp (a:=F.uA) 1 0 Tryz.underlying142 (AQ Tryz.type140) rfl rfl rfl (h _ _ rfl)) ?_);refine Uh (kk:=kk) O rfl rfl rfl rfl (JL.done ?_);exact JL.out rfl (JO.leaveD rfl Tryz.func122 rfl (.inl rfl) (h T U todo))
end Pal
namespace Pal
open Go Go.Conc
open Go.ConcN (upd)
section
variable {P:Program}{F:Fam}{n:Nat}{L L':Env}{ds:Ld_}{k:Li_}{cs:Lf_}{s s':St}{b:Frame}
variable {ops:Ao_}{i:Nat}{rest:List Nat}{d:Option Tmp}{f:FuncId}{x y z:Operand}{ats:Array TypeId}{ty t u tw:TypeId}{pp:String}{af:Ae_}{g:On_}{kk:Nat}
theorem Uk{m:Nat}(h:Bh P t=some m)(w:World):(Go.sizeOf t).run P w= .ok m w:=by
 unfold Bh at h;simp only [Go.sizeOf,typeInfo,bind,Sem.bind,program,Sem.run];cases hi:P.info? t with
 | none=>rw [hi] at h;cases h
 | some j=>rw [hi] at h;simp at h;subst h;rfl
theorem W8{w:World}{K:Nat->Value}(h:F.FD w K)(O:kk<F.n):w.cell? ⟨F.fd,kk,none⟩=some (K kk)/\w.frozen? ⟨F.fd,kk,none⟩=false:=by
 unfold Fam.FD Fam.Is at h;constructor
 ·simp [World.cell?,h,O]
 ·simp [World.frozen?,h]
theorem UG{w:World}{O:Nat->Value}{v:Value}(h:F.FD w O)(ac:kk<F.n):w.setCell ⟨F.fd,kk,none⟩ v=F.He w (upd O kk v):=by
 unfold Fam.He World.setCell;congr 1;apply Array.ext_getElem?;intro i;unfold Fam.FD Fam.Is at h;rw [Array.getElem?_modify];have U:F.fd<w.heap.size:=by
  rcases Nat.lt_or_ge F.fd w.heap.size with K | K
  ·exact K
  ·simp [Array.getElem?_eq_none K] at h
 by_cases e:F.fd=i
 ·subst e;rw [Array.getElem?_setIfInBounds_self_of_lt U,h];simp only [if_true,Option.map_some,Fam.Is,Option.some.injEq,Obj.cells.injEq,and_true];apply Array.ext
  ·simp
  ·intro j ag Y;by_cases e2:kk=j
   ·subst e2;simp [upd]
   ·have Z:¬j=kk:=λe=>e2 e.symm;simp [upd,Z];rw [Array.getElem_setIfInBounds (by simpa using Y),if_neg e2];simp
 ·rw [Array.getElem?_setIfInBounds_ne e,if_neg e]
theorem UI{X:Ph->GP}(av:CK P F X){a:Option Addr}{l c:Nat}(aw:s.q=false)(Y:kk<F.n)
  (ay:ops[i]? =some ⟨d,.store t x y,ty,pp,af,g⟩) (Z:b.roundOf=none) (hw:AJ L ops ⟨d,.store t x y,ty,pp,af,g⟩=some true) (U:((b.kind != .early)&&Bd n d)=true)
  (az:Bh P t=some 1) (aI:(P.funcs[b.fn]?).any (·.norace)=false) (aJ:ev L x=some (.pointer (some ⟨F.fd,kk,none⟩))) (aK:ev L y=some (.slice a l c)) (hm:F.msg kk (.slice a l c) s.E)
  (h:JL (AP P false) (X (.lk kk .Gy)) b n (As L d undef) ds (.inRegion ops rest::k) cs s):
  JL (AP P false) (X (.lk kk .Fw)) b n L ds (.inRegion ops (i::rest)::k) cs s:=λT K=>by
 simp only [Bool.and_eq_true] at U
 refine(AP P _).stop (av _ _ _ {
  run:=rfl,offers:=rfl,quiet:=(by simp [Fam.Cx]),live:=λ_=>aw,act:=(by simp [Fam.act]),IL:=(by simp),ES:=(by simp),go:=(by simp),lk:=λk' l e aL=>by cases e;exact absurd rfl aL
  Ck:=(by simp),store:=λk' e=>?_,fin:=(by simp)})
 cases e
 refine⟨_,hm,G (fr b (Cv T d undef) ds (.inRegion ops rest::k)) cs,rfl,λw aM ac=>?_,h _ (K.put U.2 _)⟩
 obtain⟨c1,c2⟩:=W8 ac Y
 have ag:execOp (⟨T,ds⟩:Act).eval ⟨d,.store t x y,ty,pp,af,g⟩=(do Instr.storeAt t (.pointer (some ⟨F.fd,kk,none⟩)) (.slice a l c);pure Next.skip):=by
  rw [KG];simp only [execOp,K.ev aJ,K.ev aK]
 have al:(Value.slice a l c).cells= #[.slice a l c]:=rfl;have am:(Value.slice a l c).oneCell'=true:=rfl;have ap:(Addr.add ⟨F.fd,kk,none⟩ 0)=⟨F.fd,kk,none⟩:=by rw [Dz rfl];rfl
 have aq:=Uk (P:=P) az w;have O:=run_store P w ⟨F.fd,kk,none⟩ (.slice a l c) .plain am;rw [c1] at O;simp only [c2,Bool.false_eq_true,if_false] at O;rw [BC Z,BC Z,stepG_none (a:=⟨T,ds⟩) (w':=F.He w (upd aM kk (.slice a l c))) ay (B3 K hw) (by simpa using U.1) (by
  rw [ag]
  simp [Instr.storeAt,Instr.sureAddr,storeVar,al,aq,storeCells,ap,O,UG ac Y,Result.andThen]),DL]
 have e2:listed P b.fn ⟨T,ds⟩ ⟨d,.store t x y,ty,pp,af,g⟩ w= #[⟨.cell ⟨F.fd,kk,none⟩,true,false⟩]:=by
  unfold listed;rw [ag];have aN:=events_store (P:=P) (w:=w) (es:= #[]) ⟨F.fd,kk,none⟩ (.slice a l c) .plain am;have aO:(do Instr.storeAt t (.pointer (some ⟨F.fd,kk,none⟩)) (.slice a l c);pure Next.skip:Sem Next).events P w #[]= #[⟨.cell ⟨F.fd,kk,none⟩,true,false⟩]:=by
   simp [Instr.storeAt,Instr.sureAddr,storeVar,al,aq,storeCells,ap,O,c1,c2,aN,Result.evThen]
  rw [aO,seen_def];simp [seenStep,aI]
 rw [e2]
end
end Pal
namespace Pal
open Go Go.Conc Go.Proofs
open Go.Proofs.Tryz
open Go.Conc.Lib Go.ConcR.Gen
theorem Zq:(Tryz.prog.funcs[117]?).any (·.norace)=false:=by rw [func117];rfl
def Km(fu_:Nat)(K:A6)(p:Ax)(j:Nat):Option (List Int):=
 (f120 fu_ K).bind λO=>
 (f119 fu_ ([O]:List (List (AA))) ((j:Nat):Int) p ([]:List ((Nat×Bc)×Bool))).bind λU=>
 some U.1
set_option maxHeartbeats 1000000 in
theorem Y9{F:Fam}{j:Nat}{E:LH}{ap a1 aq:Ao}{Z c2 av ac op ag al am oi kf off:Nat}{p:Ax}{O:A6}(aK:At E ac op [.slice ap p.length Z])(aL:Am Ay E ap Z p)(aM:At E ag al [sV a1 O.1 c2,sV aq O.2 av])(aN:Am (rL rI) E a1 c2 O.1)(aO:Am Ay E aq av O.2)(hi:At E am oi [iV ((j:Nat):Int)])(aP:At E kf off [.slice (some ⟨F.fd,0,none⟩) F.n F.n]){fu_:Nat}{r:List Int}(az:Km fu_ O p j=some r)(aI:j<F.n)(aQ:∀E' a c,Le E E'->Am rI E' a c r->(r= []->a=none)->F.msg j (.slice a r.length c) E'):
  Way Tryz.prog false (Stop Tryz.prog F (F.start j)) (born Tryz.prog ⟨.fn (.func 117) [.pointer (some F.sA),Ak ac op,Ak ag al,Ak am oi,.pointer (some F.uA),Ak kf off].toArray,#[]⟩) ⟨E,λ_=>none,false⟩:=by
 refine V8 (fn:=Tryz.f117) (vs:= [.pointer (some F.sA),Ak ac op,Ak ag al,Ak am oi,.pointer (some F.uA),Ak kf off]) func117 (by decide+kernel) rfl (by simp) (Nat.le_of_ble_eq_true rfl) ?_;obtain⟨H,aR⟩:∃H:LH,H=λ_=>none:=⟨_,rfl⟩;rw [← aR];have aS:Aq E H []:=trivial;refine(?_:JL (AP Tryz.prog false) (Stop Tryz.prog F (.lk j .FY)) (baseD 117) Tryz.f117.ntmps (Ga 0 [.pointer (some F.sA),Ak ac op,Ak ag al,Ak am oi,.pointer (some F.uA),Ak kf off]) [] [.code _] [K6 Tryz.prog] (Aj E H []));unfold Km at az;refine zg 2 rfl (JL.defer (vs:= [.pointer (some F.sA)]) rfl rfl rfl rfl rfl ?_);refine zg 3 rfl (C4 0 aK By rfl rfl rfl ?_);refine JS.makeMap rfl rfl rfl aS λr1 aT=>Al (v:= .agg #[sV ap p Z,.map (some r1)]) rfl (λρ h=>Da [(0,1),(1,1)] h (Dh type153) underlying153 ⟨rfl,AQ type80,rfl,AQ type151,trivial⟩ rfl rfl) (JS.box (v:= .agg #[sV ap p Z,.map (some r1)]) rfl rfl rfl aT rfl λbg aU=>?_);refine zg 3 rfl (DJ 1 aU rfl λbh K aV aW=>?_);refine EK 5 λaw=>Dw 0 aw rfl rfl (Jy 1 aw (aM.Ah K) F3 DI rfl rfl rfl ?_);refine Db 4 aw 0 (hi.Ah K) Ba rfl rfl rfl rfl ?_;obtain⟨aJ,aX,aY⟩:=bs az;refine JG.call (i:=2) (vs:= [.agg #[sV a1 O.1 c2,sV aq O.2 av]]) (Ze (aN.Ah K) (aO.Ah K) aX) (by decide+kernel) rfl rfl rfl (A7 func120 rfl) rfl aW ?_;rintro _ bi _ U ⟨aZ,a0,rfl,rfl,a2⟩ a3;refine JG.one (i:=3) rfl (by decide+kernel) (Take.EP (pp:=(rL (rM rI false rI false))) [sV aZ aJ a0] ([aJ]:List (List AA)) a3 rfl rfl rfl underlying158 Jk Mh (by decide) rfl rfl rfl ⟨⟨_,_,rfl,a2⟩,trivial⟩ λbj bl a4 a5=>?_);refine Dp [5,6] (B8 3 a4 a5 rfl λbm Y a6 a7=>?_);obtain⟨a8,a9,ba⟩:=bs aY;refine Cn 0 (Zb a6 (aV.Ah (U.Ad Y)) (aL.Ah ((K.Ad U).Ad Y)) Bz.nil a9) rfl rfl (A7 func119 rfl) a7 rfl ?_;rintro _ bn _ ay ⟨bo,bp,bq,rfl,rfl,bb,be,br⟩ bu;refine zg 3 rfl ?_;have bf:r=a8.1:=(Option.some.inj ba).symm;subst bf;refine JL.region (Vj (kk:=j) rfl rfl rfl rfl rfl ?_);refine zg 3 rfl (JL.defer (vs:= [.pointer (some F.uA)]) rfl rfl rfl rfl rfl ?_);refine zg 2 rfl (C4 0 (aP.Ah (((K.Ad U).Ad Y).Ad ay)) F2 rfl rfl rfl ?_);refine C4 0 (hi.Ah (((K.Ad U).Ad Y).Ad ay)) Ba rfl rfl rfl (zg 1 rfl ?_);refine Al (v:= Ak F.fd j) rfl (λρ h=>Yl.to (Fh (xs:=List.replicate F.n ()) (m:=((j:Nat):Int)) (xv:=()) (List.length_replicate) (by simp [ix,aI]) underlying22 Fy (h _ _ rfl) (h _ _ rfl)) (by show Ak F.fd (j*1)=_;rw [Nat.mul_one])) (UI (kk:=j) CK.stop rfl aI rfl rfl rfl rfl Fy Zq rfl rfl (aQ _ _ _ (((K.Ad U).Ad Y).Ad ay) bb be) ?_);exact JL.done (JL.out rfl (JO.Xa (kk:=j) rfl rfl (JO.ZL Tryz.Kh rfl rfl (JO.leaveD rfl func117 rfl (.inr rfl) Uy))))
end Pal
namespace Pal
open Go Go.Conc Go.Proofs
open Go.Proofs.Tryz
open Go.Conc.Lib Go.ConcR.Gen
theorem OL.Yi{e:TypeId}{E:LH}{r c:Nat}{seg:Seg}{xs:Lv_}(h:OL e rV E (AR r) c seg xs)(Y:c=xs.length):seg= [(r,.cells xs.toArray e (0,0))]:=by
 obtain⟨wss,ag,K,Z⟩:=h;rcases ag with⟨al,_⟩ | ⟨bk,f,am,e2,ac,ap,O⟩
 ·cases al
 cases am;have hw:wss=xs.map λx=> [x]:=by
  apply List.ext_getElem?;intro i;rw [List.getElem?_map];cases U:xs[i]? with
  | none=>rw [List.getElem?_eq_none (by rw [K];exact List.getElem?_eq_none_iff.1 U)];rfl
  | some x=>
   have hi:i<wss.length:=by rw [K];exact(List.getElem?_eq_some_iff.1 U).1
   have:=(Z i x wss[i] U (List.getElem?_eq_getElem hi)).1;rw [List.getElem?_eq_getElem hi,this];rfl
 have aq:wss.flatten=xs:=by
  rw [hw];clear hw O Z K ac ap Y
  induction xs with
  | nil=>rfl
  | cons x xs av=>simp [av]
 rw [aq] at O;have ay:rV.n=1:=rfl;have aw:f.toList=xs:=by
  rw [O];rw [List.take_of_length_le (by rw [Array.length_toList,ac,Y];exact Nat.le_refl _)]
 rw [e2,← aw]
noncomputable def Kt:Code:=match(Tryz.f77.body).bind (Jb 0) with | some (.loop c)=>c | _=> .skip
noncomputable def TS:Code:=match(Tryz.f77.body).bind (Jb 2) with | some (.loop c)=>c | _=> .skip
set_option maxHeartbeats 1000000 in
theorem Xg{F:Fam}{n:Nat}(aw:F.n=n)(aY:0<n)(aZ:n<=1000){E:LH}{ap a1 al:Ao}{am c2 aq:Nat}{p:Ax}{O:A6}(ay:Am Ay E ap am p)(az:Am (rL rI) E a1 c2 O.1)(aI:Am Ay E al aq O.2)(hlen:p.length=n){Y Z kf:Nat}(aJ:At E Y 0 [.slice ap p.length am])(aK:At E Z 0 [sV a1 O.1 c2,sV al O.2 aq])(aL:At E kf 0 [.slice (some ⟨F.fd,0,none⟩) F.n F.n]){fu_:Nat}{xs:Nat->List Int}(aM:∀j,j<n->Km fu_ O p j=some (xs j))(aN:∀j,j<n->∀E' a c,Am rI E' a c (xs j)->(xs j= []->a=none)->F.msg j (.slice a (xs j).length c) E'){j:Nat}(ac:j<n){ag H:LH}(hle:Le E ag)(aO:Aq ag H []){k:Li_}{cs:Lf_}
  (h:∀U,Le E U->Aq U H []->JL (AP Tryz.prog true) (Stop Tryz.prog F (F.Eu j)) (base 77) Tryz.f77.ntmps [(2,Ak Z 0),(3,Ak Y 0),(6,.pointer (some F.uA)),(7,.pointer (some F.sA)),(8,Ak kf 0),(19,iV (p.length:Int)),(20,iV ((j+1:Nat):Int))] [] (.inLoop Kt::k) cs (Aj U H [])):
  JL (AP Tryz.prog true) (Stop Tryz.prog F (.Gf j)) (base 77) Tryz.f77.ntmps [(2,Ak Z 0),(3,Ak Y 0),(6,.pointer (some F.uA)),(7,.pointer (some F.sA)),(8,Ak kf 0),(19,iV (p.length:Int)),(20,iV ((j:Nat):Int))] [] (.code Kt:: .inLoop Kt::k) cs (Aj ag H []):=by
 refine zg 2 rfl (Al (v:= .bool true) rfl (λρ h=>Yl.to (Yl.lss (h _ _ rfl) (h _ _ rfl)) (by rw [decide_eq_true (show((j:Nat):Int)<(p.length:Int) by omega)])) ?_);refine zg 9 rfl (BT aO CI λrn aP=>?_);refine BF 0 aP AG λaQ=>?_;refine DJ 0 aQ rfl λU aR aS aT=>H7 (S':= []) (by simp) aT λaU=>?_;have K:=hle.trans aR;refine zg 3 rfl (VI Tryz.Kh rfl rfl rfl rfl rfl rfl ?_);refine zg 2 rfl (Al (v:= .func (.func 117) #[] ([.pointer (some F.sA),Ak Y 0,Ak Z 0,Ak rn 0,.pointer (some F.uA),Ak kf 0]:Lv_).toArray) rfl (λρ h=>KD (by simp) (by simp [h (.tmp 7) _ rfl,h (.tmp 3) _ rfl,h (.tmp 2) _ rfl,h (.tmp 9) _ rfl,h (.tmp 6) _ rfl,h (.tmp 8) _ rfl])) ?_);have av:=Y9 (F:=F) (j:=j) (aJ.Ah K) (ay.Ah K) (aK.Ah K) (az.Ah K) (aI.Ah K) aS (aL.Ah K) (aM j ac) (by rw [aw];exact ac) (λE' a c _ aV aW=>aN j ac E' a c aV aW);refine XT (fi:= #[]) rfl rfl rfl rfl rfl rfl rfl (by first | exact av | (simp only [List.append_toArray,List.nil_append,Array.append_empty,Array.empty_append];exact av)) ?_
 refine zg 3 rfl ?_;have aX:Aw (((j:Nat):Int)+1)=some (((j+1:Nat)):Int):=by unfold Aw;rw [if_pos (by omega)];simp
 refine Bq aX rfl rfl rfl (zg 2 rfl ?_);exact AB (h U K aU) rfl
theorem UE{F:Fam}{n:Nat}(Y:F.n=n)(aw:0<n)(ay:n<=1000){E:LH}{ap a1 ag:Ao}{al c2 am:Nat}{p:Ax}{O:A6}(az:Am Ay E ap al p)(aI:Am (rL rI) E a1 c2 O.1)(aJ:Am Ay E ag am O.2)(hlen:p.length=n){Z ac kf:Nat}(aK:At E Z 0 [.slice ap p.length al])(aL:At E ac 0 [sV a1 O.1 c2,sV ag O.2 am])(aM:At E kf 0 [.slice (some ⟨F.fd,0,none⟩) F.n F.n]){fu_:Nat}{xs:Nat->List Int}(aN:∀j,j<n->Km fu_ O p j=some (xs j))(aO:∀j,j<n->∀E' a c,Am rI E' a c (xs j)->(xs j= []->a=none)->F.msg j (.slice a (xs j).length c) E'){H:LH}{k:Li_}{cs:Lf_}
  (h:∀K,Le E K->Aq K H []->JL (AP Tryz.prog true) (Stop Tryz.prog F .De) (base 77) Tryz.f77.ntmps [(2,Ak ac 0),(3,Ak Z 0),(6,.pointer (some F.uA)),(7,.pointer (some F.sA)),(8,Ak kf 0),(19,iV (p.length:Int)),(20,iV (p.length:Int))] [] (.code Kt:: .inLoop Kt::k) cs (Aj K H [])):
  ∀(m j:Nat),j+m=n->0<m->∀U,Le E U->Aq U H []->JL (AP Tryz.prog true) (Stop Tryz.prog F (.Gf j)) (base 77) Tryz.f77.ntmps [(2,Ak ac 0),(3,Ak Z 0),(6,.pointer (some F.uA)),(7,.pointer (some F.sA)),(8,Ak kf 0),(19,iV (p.length:Int)),(20,iV ((j:Nat):Int))] [] (.code Kt:: .inLoop Kt::k) cs (Aj U H []):=by
 intro m
 induction m with
 | zero=>intro j _ aP;cases aP
 | succ m aQ=>
  intro j aT _ U hle aR;refine Xg Y aw ay az aI aJ hlen aK aL aM aN aO (by omega) hle aR λK aq av=>JL.again ?_;by_cases hm:m=0
  ·subst hm;have aS:j+1=F.n:=by rw [Y];omega
   have e:F.Eu j= .De:=by unfold Fam.Eu;rw [if_pos aS]
   rw [e];have e2:((j+1:Nat):Int)=(p.length:Int):=by rw [hlen];omega
   rw [e2];exact h K aq av
  ·have e:F.Eu j= .Gf (j+1):=by unfold Fam.Eu;rw [if_neg (by rw [Y];omega)]
   rw [e];exact aQ (j+1) (by omega) (by omega) K aq av
def NK(fu_:Nat)(K:A6)(p:Ax)(j:Nat):List Int:=(Km fu_ K p j).getD []
def LL(n:Nat)(xs:Nat->List Int):(List Int)×Bool:=match(List.range n).find? (λj=> !(xs j).isEmpty) with | some j=>(xs j,true) | none=>([],false)
def f77(fu_:Nat)(K:A6)(p:Ax):Option ((List Int)×Bool):= if p.length=0 then some ([],true) else if p.length<=1000/\(List.range p.length).all (λj=>(Km fu_ K p j).isSome)=true then some (LL p.length (NK fu_ K p)) else none
theorem Va{n:Nat}{xs:Nat->List Int}{i:Nat}(hi:i<n)(K:xs i≠ [])(O:∀k,k<i->xs k= []):LL n xs=(xs i,true):=by
 unfold LL;have:(List.range n).find? (λj=> !(xs j).isEmpty)=some i:=by
  rw [List.find?_range_eq_some];refine⟨by simp [K],by simpa using hi,λj U=>by simp [O j U]⟩
 rw [this]
theorem VM{n:Nat}{xs:Nat->List Int}(K:∀k,k<n->xs k= []):LL n xs=([],false):=by
 unfold LL;have:(List.range n).find? (λj=> !(xs j).isEmpty)=none:=by
  rw [List.find?_eq_none];intro j O;simp [K j (List.mem_range.1 O)]
 rw [this]
theorem XB{E:LH}{a:Ao}{c:Nat}{xs:List Int}(h:Am rI E a c xs)(K:xs≠ []):a.isNone=false:=by
 rcases h.2 with⟨e,_⟩ | ⟨bk,off,e,_⟩
 ·exact absurd e K
 ·rw [e];rfl
set_option maxHeartbeats 1000000 in
theorem Y6{J:Judge Tryz.prog}{Q:Gs_}{Y:Frame}{cs:Lf_}{fd n:Nat}{f:Nat->Value}{xs:Nat->List Int}(ay:n<=1000){E H:LH}{k:Li_}(ag:Aq E H [[(fd,.cells (Array.ofFn λi:Fin n=>f i) 28 (0,0))]])(hm:∀k,k<n->∃a c,f k= .slice a (xs k).length c/\Am rI E a c (xs k)/\(xs k= []->a=none))
  (al:∀i a c L',i<n->xs i≠ []->(∀k,k<i->xs k= [])->Am rI E a c (xs i)->look L' 4=some (.slice a (xs i).length c)->look L' 5=some (.bool true)->∀k',JL J Q (base 77) Tryz.f77.ntmps L' [] (.code .ret::k') (Y::cs) (Aj E H [[(fd,.cells (Array.ofFn λi:Fin n=>f i) 28 (0,0))]]))
  (am:(∀k,k<n->xs k= [])->JL J Q (base 77) Tryz.f77.ntmps [] [] k (Y::cs) (Aj E H [[(fd,.cells (Array.ofFn λi:Fin n=>f i) 28 (0,0))]])):
  ∀m i,i+m=n->(∀k,k<i->xs k= [])->JL J Q (base 77) Tryz.f77.ntmps [(27,.slice (AR fd) n n),(28,iV (n:Int)),(29,iV (i:Int))] [] (.code TS:: .inLoop TS:: .inBlock 2::k) (Y::cs) (Aj E H [[(fd,.cells (Array.ofFn λi:Fin n=>f i) 28 (0,0))]]):=by
 intro m
 induction m with
 | zero=>
  intro i hi K;refine zg 2 rfl (Al (v:= .bool false) rfl (λρ h=>Yl.to (Yl.lss (h _ _ rfl) (h _ _ rfl)) (by rw [decide_eq_false (show ¬((i:Int)<(n:Int)) by omega)])) ?_);refine zg 4 rfl (Ep [] rfl ?_);exact am λk az=>K k (by omega)
 | succ m ap=>
  intro i hi K;have O:i<n:=by omega
  obtain⟨a,c,aq,ac,av⟩:=hm i O;refine zg 2 rfl (Al (v:= .bool true) rfl (λρ h=>Yl.to (Yl.lss (h _ _ rfl) (h _ _ rfl)) (by rw [decide_eq_true (show(i:Int)<(n:Int) by omega)])) ?_);refine zg 8 rfl (Al (v:= Ak fd i) rfl (λρ h=>Yl.to (Fh (xs:=List.replicate n ()) (m:=((i:Nat):Int)) (xv:=()) (List.length_replicate) (by simp [ix,O]) underlying22 Fy (h _ _ rfl) (h _ _ rfl)) (by show Ak fd (i*1)=_;rw [Nat.mul_one])) ?_);refine Al (v:= .slice a (xs i).length c) rfl (λρ h=>Yl.load Jj (h _ _ rfl) (BU (j:=0) (off:=i) ag rfl (by simp [O,aq]))) (zg 5 rfl ?_);refine Al (v:= .bool (!a.isNone)) rfl (λρ h=>U2 underlying28 (h _ _ rfl) (h _ _ rfl)) (JL.done ?_);by_cases U:xs i= []
  ·have Z:(!a.isNone)=false:=by rw [av U];rfl
   rw [Z];refine zg 4 rfl ?_;have aw:Aw (((i:Nat):Int)+1)=some (((i+1:Nat)):Int):=by unfold Aw;rw [if_pos (by omega)];simp
   refine Bq aw rfl rfl rfl ?_;refine zg 2 rfl ?_;refine JL.again ?_;refine EX ?_ (ap (i+1) (by omega) (λk aI=>by
    by_cases e:k=i
    ·subst e;exact U
    ·exact K k (by omega)))
   exact⟨rfl,rfl,rfl,trivial⟩
  ·have Z:(!a.isNone)=true:=by rw [XB ac U];rfl
   rw [Z];exact zg 7 rfl (al i a c _ O U K ac rfl rfl _)
end Pal
namespace Pal
open Go Go.Conc Go.Proofs
open Go.Proofs.Tryz
open Go.Conc.Lib Go.ConcR.Gen
set_option maxHeartbeats 2000000 in
theorem ZF{E:LH}{a1:Ao}{c2:Nat}{aP:Ao}{aQ:Nat}{ap:Ao}{aR:Nat}{O:A6}{p:Ax}(a9:Am (rL rI) E a1 c2 O.1)(ba:Am Ay E aP aQ O.2)(bb:Am Ay E ap aR p){fu_:Nat}{r:(List Int)×Bool}(U:f77 fu_ O p=some r):
  AO (GG Tryz.prog) 77 [.agg #[sV a1 O.1 c2,sV aP O.2 aQ],sV ap p aR] E [] (λw E' B'=>∃(aS:Ao) (aT:Nat),w= .tuple #[sV aS r.1 aT,.bool r.2]/\B'= []/\Am rI E' aS aT r.1):=by
 refine Po func77 rfl rfl λQ bO cs H be Y=>?_;unfold f77 at U;refine zg 2 rfl (DD be λbf bP bg bh bi=>?_);refine DD bi λbj bQ aU am bl=>?_;refine H7 (S':= []) (by simp) bl λaV=>?_;have aW:=bg.Ad aU;refine zg 6 rfl (C4 0 am By rfl rfl rfl ?_);refine JL.ln underlying80 rfl rfl rfl (zg 2 rfl ?_);refine F8 (p:=(p.length:Int)=0) rfl (λbm=>?_) (λbm=>?_)
 ·rw [if_pos (by omega)] at U;have Z:=(Option.some.inj U).symm;subst Z;refine zg 5 rfl (A2 func77 rfl rfl ?_);exact Y _ _ _ _ aW rfl ⟨none,0,rfl,rfl,Am.nil⟩ aV
 rw [if_neg (by omega)] at U;split at U
 rotate_left
 ·cases U
 rename_i hb;obtain⟨aX,bn⟩:=hb;have Z:=(Option.some.inj U).symm;have ag:∀j,j<p.length->Km fu_ O p j=some (NK fu_ O p j):=λj az=>by
  have aq:=List.all_eq_true.1 bn j (List.mem_range.2 az);obtain⟨x,aI⟩:=Option.isSome_iff_exists.1 aq;unfold NK;rw [aI];rfl
 generalize bR:NK fu_ O p=xs at ag Z;have aY:0<p.length:=by omega
 refine zg 3 rfl (BT aV (Dh type142) λmu bo=>?_);refine zg 3 rfl (BT bo (Dh type148) λwg bp=>?_);refine JL.done (H7 (S':= [[(mu,.cells #[.int .i32 0,.int .u32 0] 142 (0,0))],[(wg,.cells #[.int .u64 0,.int .u32 0] 148 (0,0))]]) (by simp [Value.cells]) bp λbq=>?_);refine zg 2 rfl (C4 0 am By rfl rfl rfl ?_);refine JL.ln underlying80 rfl rfl rfl ?_;have br:Jz (p.length:Int) (Value.slice none 0 0)=some (List.replicate p.length nS):=by unfold Jz;rw [if_pos (by omega)];simp
 refine JS.make (pp:=rV) br rfl rfl rfl rfl rfl underlying22 Fy (Dl type28) (by decide) KB (by decide) ⟨rfl,rfl⟩ bq λfd bS bu aZ=>?_;have bv:=OL.Yi bu rfl;subst bv;obtain⟨K,a0⟩:∃K,K=List.replicate p.length (Value.slice none 0 0):=⟨_,rfl⟩;have a2:(List.replicate p.length (Value.slice none 0 0)).length=p.length:=by simp
 rw [← a0] at aZ a2 ⊢;rw [a2];refine BT aZ (Dh type22) λkf bw=>?_;refine BF 3 bw FN λbx=>?_;refine DJ 3 bx rfl λac av a3 bz=>H7 (S':= [[(mu,.cells #[.int .i32 0,.int .u32 0] 142 (0,0))],[(wg,.cells #[.int .u64 0,.int .u32 0] 148 (0,0))],[(fd,.cells K.toArray 28 (0,0))]]) (by simp) bz λal=>?_;have aw:=aW.Ad av;refine zg 4 rfl (C4 0 (am.Ah av) By rfl rfl rfl ?_);refine JL.ln underlying80 rfl rfl rfl (zg 3 rfl ?_);refine IC (Ep [(2,Ak bf 0),(3,Ak bj 0),(6,.pointer (some (⟨mu,0,none⟩:Addr))),(7,.pointer (some (⟨wg,0,none⟩:Addr))),(8,Ak kf 0),(19,iV (p.length:Int)),(20,iV ((0:Nat):Int))] rfl ?_);have a4:=Nd.iff.1 al;intro T bA;let F:Fam:=⟨wg,mu,fd,148,142,28,p.length,λkk v E=>kk<p.length/\∃a c,v= .slice a (xs kk).length c/\Am rI E a c (xs kk)/\(xs kk= []->a=none),λg s=>(GG Tryz.prog).ok Q g s⟩;have ay:=a4.1;simp only [List.flatten_cons,List.flatten_nil,List.append_nil,List.cons_append,List.nil_append,List.map_cons,List.map_nil,List.nodup_cons,List.mem_cons,List.not_mem_nil,not_or,or_false,not_false_eq_true,and_true,List.nodup_nil] at ay;have bB:(Aj ac H [[(mu,.cells #[.int .i32 0,.int .u32 0] 142 (0,0))],[(wg,.cells #[.int .u64 0,.int .u32 0] 148 (0,0))],[(fd,.cells K.toArray 28 (0,0))]]).H fd=some (F.Is λ_=> nS):=by
  rw [JK (j:=2) al rfl];have:(Array.ofFn λ_:Fin p.length=>Value.slice none 0 0)=K.toArray:=by
   rw [a0];apply Array.ext
   ·simp
   ·intro i aq a5;simp
  show some (Obj.cells K.toArray 28 (0,0))=some (Obj.cells (Array.ofFn λ_:Fin p.length=>Value.slice none 0 0) 28 (0,0));rw [this]
 refine Xd F (f₀:=λ_=> .slice none 0 0) (show 1<=p.length by omega) (show p.length<134217728 by omega) ?_ ay.1.1 (λe=>ay.2 e.symm) (λe=>ay.1.2 e.symm) (JK (j:=1) al rfl) (JK (j:=0) al rfl) bB ?_ (λg s h=>h)
 ·rintro kk v bT bU bC ⟨aq,a,c,a5,aJ,aK⟩;exact⟨aq,a,c,a5,aJ.Ah bC,aK⟩
 have bD:=UA al;show Way Tryz.prog true (Stop Tryz.prog F (.Gf 0)) _ (⟨(Aj ac H [[(mu,.cells #[.int .i32 0,.int .u32 0] 142 (0,0))],[(wg,.cells #[.int .u64 0,.int .u32 0] 148 (0,0))],[(fd,.cells K.toArray 28 (0,0))]]).E,Ju (Aj ac H [[(mu,.cells #[.int .i32 0,.int .u32 0] 142 (0,0))],[(wg,.cells #[.int .u64 0,.int .u32 0] 148 (0,0))],[(fd,.cells K.toArray 28 (0,0))]]).H wg mu fd,false⟩:St);rw [show(Aj ac H [[(mu,.cells #[.int .i32 0,.int .u32 0] 142 (0,0))],[(wg,.cells #[.int .u64 0,.int .u32 0] 148 (0,0))],[(fd,.cells K.toArray 28 (0,0))]]).E=ac from rfl,bD];have bE:Aq ac H []:=trivial;have bF:H fd=none:=(a4.2 (fd,.cells K.toArray 28 (0,0)) (by simp)).2;refine UE (F:=F) (n:=p.length) rfl aY aX (bb.Ah aw) (a9.Ah aw) (ba.Ah aw) rfl (am.Ah av) (bh.Ah (aU.Ad av)) a3 ag (λj az E' a c bG bH=>⟨az,a,c,rfl,bG,bH⟩) (λbI a6 bV=>?_) p.length 0 (by omega) aY ac Az bE T bA;refine zg 2 rfl ?_;refine Al (v:= .bool false) rfl (λρ h=>Yl.to (Yl.lss (h _ _ rfl) (h _ _ rfl)) (by rw [decide_eq_false (show ¬((p.length:Int)<(p.length:Int)) by omega)])) ?_;refine zg 6 rfl ?_;refine JL.wait Tryz.Kh (F:=F) (show p.length<2147483648 by omega) rfl rfl rfl rfl rfl (Q:=Q) (λg s h=>h) λaL f a7 bJ bW bK=>?_;have aM:Aq aL H [[(fd,F.Is f)]]:=Nd.iff.2 ⟨by simp,λq ag=>by
  simp at ag;subst ag;exact⟨bJ,bF⟩⟩
 have es:(⟨aL,F.Jw (Aj bI H []).H f,false⟩:St)=Aj aL H [[(fd,F.Is f)]]:=by
  unfold Aj mk;congr 1
 rw [es];have a8:=(aw.Ad a6).Ad a7;refine zg 4 rfl (C4 0 (a3.Ah (a6.Ad a7)) F2 rfl rfl rfl ?_);refine JL.ln underlying22 rfl rfl rfl (zg 3 rfl ?_);refine IC (Ep [(27,.slice (AR fd) p.length p.length),(28,iV (p.length:Int)),(29,iV ((0:Nat):Int))] rfl ?_);refine Y6 (n:=p.length) (f:=f) (xs:=xs) aX aM (λk Y=>?_) (λi a c L' hi aI aN bL aJ aK k'=>?_) (λaN=>?_) p.length 0 (by omega) (λk Y=>absurd Y (Nat.not_lt_zero _))
 ·obtain⟨_,a,c,bM,e2,bN⟩:=bK k Y;exact⟨a,c,bM,e2,bN⟩
 ·rw [Va hi aI aN] at Z;subst Z;exact JL.ret (v:= .tuple #[.slice a (xs i).length c,.bool true]) rfl rfl (Bx.list func77 rfl (vs:= [.slice a (xs i).length c,.bool true]) ⟨aJ,aK,trivial⟩) (Qy aM λaO=>Y _ _ _ _ a8 rfl ⟨a,c,rfl,rfl,bL⟩ aO)
 ·rw [VM aN] at Z;subst Z;refine zg 5 rfl (A2 func77 rfl rfl ?_);exact Qy aM λaO=>Y _ _ _ _ a8 rfl ⟨none,0,rfl,rfl,Am.nil⟩ aO
end Pal
namespace Pal
open Go Go.Conc Go.Proofs
open Go.Proofs.Tryz
def SV(fu_:Nat)(Z:A6×Int)(O:AS)(K:Int):Option (Bn Int ((Ax×(List Int)×Int)⊕(Unit))):= if K<(O.length:Int) then((ix O K).bind λU=> (f77 fu_ Z.1 U).bind λY=> if Y.2=true then(some (.done (Sum.inl (U,Y.1,0)))) else((Aw (K+1)).bind λac=> some (.more ac))) else(some (.done (Sum.inr ())))
def f27(fu_:Nat)(p0:A6):Option (Ax×(List Int)×Int):= (f70 fu_ p0 ([])).bind λK=> if K.2≠0 then(some ([],[],K.2)) else((f71 fu_ K.1 0).bind λO=> (f76 fu_ O).bind λU=> Option.bind (iter (SV fu_ K U) fu_ 0) λY=> Sum.elim (λr=>some r) (λZ=> some ([],[],11)) Y)
theorem Zu{E:LH}{a1:Ao}{c2:Nat}{al:Ao}{am:Nat}{p0:A6}(ba:Am (rL rI) E a1 c2 p0.1)(bb:Am Ay E al am p0.2){fu_:Nat}{r:Ax×(List Int)×Int}(aP:f27 fu_ p0=some r):AO (GG Tryz.prog) 27 [.agg #[sV a1 p0.1 c2,sV al p0.2 am]] E [] (λw E' B'=>∃(aQ:Ao) (aR:Nat) (aS:Ao) (aT:Nat),w= .tuple #[sV aQ r.1 aR,sV aS r.2.1 aT,iV r.2.2]/\B'= []/\Am Ay E' aQ aR r.1/\Am rI E' aS aT r.2.1):=by
 refine Bj func27 λQ b9 cs H be aJ=>?_;unfold f27 at aP;refine zg 2 rfl (DD be λbf ca Y bg bh=>?_);refine zg 6 rfl (CL bg EV CJ rfl rfl ?_);obtain⟨K,bi,bj⟩:=bs aP;refine BX (K5 (ba.Ah Y) (bb.Ah Y) Am.nil bi) rfl rfl Kx bh ?_;rintro _ cb _ aK ⟨ap,aq,av,aw,rfl,rfl,aU,aV⟩ bl;refine zg 3 rfl (BT bl HV λaW bm=>?_);refine BF 3 bm DI λbn=>?_;refine DJ 3 bn rfl λcc O aX aY=>zg 8 rfl (A0 bj (λbo bp=>?_) (λbo bq=>?_))
 ·refine zg 7 rfl ?_;obtain rfl:=oi bp;exact A2 func27 rfl rfl (aJ ((Y.Ad aK).Ad O) rfl ⟨none,0,none,0,rfl,rfl,Am.nil,Am.nil⟩ aY)
 ·refine zg 3 rfl (CL aX F3 DI rfl rfl ?_);obtain⟨cd,br,bu⟩:=bs bq;refine BX (PN (aU.Ah O) (aV.Ah O) br) rfl rfl N8 aY ?_;rintro _ ce cf Z ⟨ay,az,_,rfl,rfl,bv⟩ bw;obtain⟨ac,bx,bz⟩:=bs bu;refine zg 5 rfl (Cn 4 (YC bv bx) rfl rfl (A7 func76 rfl) bw rfl ?_);rintro _ bA bB ag ⟨rfl,bC,aL⟩ bD;refine EX (L':= [(23,.tuple #[]),(0,.agg #[.slice a1 p0.1.length c2,.slice al p0.2.length am]),(1,Ak bf 0),(2,.slice none 0 0),(3,.slice none 0 0),(4,iV 0),(13,.agg #[.slice a1 p0.1.length c2,.slice al p0.2.length am]),(14,.tuple #[.agg #[.slice ap K.1.1.length aq,.slice av K.1.2.length aw],iV K.2]),(12,.tuple #[.agg #[.slice ap K.1.1.length aq,.slice av K.1.2.length aw],iV K.2]),(15,.agg #[.slice ap K.1.1.length aq,.slice av K.1.2.length aw]),(16,iV K.2),(5,Ak aW 0),(6,iV K.2),(17,iV K.2),(18,.bool (decide (K.2≠0))),(20,.agg #[.slice ap K.1.1.length aq,.slice av K.1.2.length aw]),(21,.slice ay ac.length az),(7,.slice ay ac.length az),(22,.slice ay ac.length az)]) ⟨rfl,rfl,rfl,rfl,rfl,rfl,rfl,rfl,rfl,rfl,rfl,rfl,rfl,rfl,rfl,rfl,by rw [aL];rfl,by rw [aL];rfl,by rw [aL];rfl,trivial⟩ ?_;refine zg 5 rfl (JL.ln underlying83 rfl rfl rfl ?_);obtain⟨aZ,bE,a0⟩:=bs bz;refine zg 2 rfl (Bu (λL s=>∃(a2:Unit) (a3:LH),aZ=Sum.inr a2/\Jm bA H a3 [] [] L s) ?_ ?_)
  ·rintro _ _ ⟨a2,a3,rfl,rfl,rfl,bF,bG⟩;have bH:=elim_inr a0;refine zg 6 rfl ?_;obtain rfl:=oi bH;exact A2 func27 rfl rfl (aJ (((((Y.Ad aK).Ad O).Ad Z).Ad ag).Ad bF) rfl ⟨none,0,none,0,rfl,rfl,Am.nil,Am.nil⟩ bG)
  ·intro bI;refine JL.block (DO bE (λaM=> [bB]) (λaM=> [(5,Ak aW 0),(24,sV ay ac az),(25,iV (ac.length:Int)),(26,iV aM)]) Az bD ?_);rintro aM bJ U aN a4 ⟨cg,aI⟩ bK;have a5:=aI;unfold SV at a5;refine zg 5 rfl (A0 a5 (λbL bM=>?_) (λbL bN=>?_))
   ·obtain⟨bO,bP,bQ⟩:=bs bM;refine zg 5 rfl (MO 0 (bC.Ah U) bP rfl rfl rfl rfl rfl rfl underlying83 Bb ?_);rintro ci ck f93 _ bR ⟨a6,a7,rfl,a8⟩ bS cm cn co cp;refine Al (v:= sV a6 bO a7) rfl (λρ h=>Yl.load By (h _ _ rfl) (BU (j:=0) aN bR (bS 0 _ rfl))) (zg 4 rfl ?_);refine CL (aX.Ah ((Z.Ad ag).Ad U)) F3 DI rfl rfl ?_;obtain⟨cq,bT,bU⟩:=bs bQ;refine zg 1 rfl (BX (ZF (aU.Ah (((O.Ad Z).Ad ag).Ad U)) (aV.Ah (((O.Ad Z).Ad ag).Ad U)) a8 bT) rfl rfl (A7 func77 rfl) aN ?_);rintro _ cr _ aO ⟨bV,bW,rfl,rfl,bY⟩ a9;refine zg 10 rfl (Cz bU (λbZ b0=>?_) (λbZ b1=>?_))
    ·refine zg 8 rfl (JS.drop 0 a9 rfl λb2=>?_);obtain rfl:=oi b0;obtain rfl:=a4 _ aI;have b3:=elim_inl a0;obtain rfl:=oi b3;exact A2 func27 rfl rfl (aJ ((((((Y.Ad aK).Ad O).Ad Z).Ad ag).Ad U).Ad aO) rfl ⟨a6,a7,bV,bW,rfl,rfl,(a8.Ah aO),bY⟩ b2)
    ·obtain⟨b4,b5,b6⟩:=bs b1;refine zg 3 rfl (Bq b5 rfl rfl rfl ?_);refine zg 2 rfl ?_;obtain rfl:=oi b6;exact bK b4 (U.Ad aO) a9 rfl aI
   ·refine JL.exit rfl (JS.drop 0 aN rfl λb7=>?_);obtain rfl:=oi bN;have b8:aZ=(Sum.inr ()):=(a4 _ aI).symm;exact AB (bI _ _ ⟨(),bJ,b8,rfl,rfl,U,b7⟩) rfl
end Pal
namespace Pal
open Go Go.Conc Go.Proofs
open Go.Proofs.Tryz
variable {J:Judge Tryz.prog}{E:LH}
def Tg(fu_:Nat)(p0:List Int)(K:Ax×Int):Option (Bn (Ax×Int) (Ax)):= (Aw (K.2+2)).bind λO=> if O<(p0.length:Int) then((ix p0 K.2).bind λU=> (Aw (K.2+1)).bind λY=> (ix p0 Y).bind λZ=> (Aw (K.2+2)).bind λac=> (ix p0 ac).bind λag=> (C3 K.1 ([(U,Z,ag)]:Ax)).bind λal=> (Aw (K.2+3)).bind λam=> some (.more (al,am))) else(some (.done K.1))
def f67(fu_:Nat)(p0:List Int):Option (Ax):= Option.bind (iter (Tg fu_ p0) fu_ ([],0)) λK=> some K
theorem Nu{a1:Ao}{c2:Nat}{p0:List Int}(aq:Am rI E a1 c2 p0){fu_:Nat}{r:Ax}(aJ:f67 fu_ p0=some r):AO J 67 [sV a1 p0 c2] E [] (λw E' B'=>∃(aK:Ao) (aL:Nat) (g0:Seg),w= sV aK r aL/\B'=g0/\OL 27 Ay E' aK aL g0 r):=by
 refine Bj func67 λQ bJ cs H aS aT=>?_;unfold f67 at aJ;obtain⟨aM,aU,aV⟩:=bs aJ;refine zg 13 rfl (Bu (λL s=>∃(av:LH) (Y:Ao) (Z:Nat) (ac:Seg),Jn E H av [ac] [(3,sV Y aM Z)] L s (OL 27 Ay av Y Z ac aM)) ?_ ?_)
 ·rintro _ _ ⟨av,Y,Z,ac,rfl,rfl,aW,aX,aY⟩;refine zg 5 rfl ?_;obtain rfl:=oi aV;exact A2 func67 rfl rfl (aT aW rfl ⟨Y,Z,ac,rfl,(by first | rfl | simp | (simp [Value.cells])),aY⟩ aX)
 ·intro aZ;refine JL.block (CP aU (λL s ag=>∃(al:LH) (am:Ao) (ap:Nat) (O:Seg),Jn E H al [O] [(0,sV a1 p0 c2),(3,sV am ag.1 ap),(4,iV ag.2)] L s (OL 27 Ay al am ap O ag.1)) ⟨E,none,0,[],rfl,rfl,Az,aS,OL.nil⟩ ?_);rintro _ _ ag ⟨al,am,ap,O,rfl,rfl,U,aN,aO⟩ a0 ⟨bK,aw⟩ a2;have aP:=aw;unfold Tg at aP;obtain⟨bL,a3,a4⟩:=bs aP;refine zg 4 rfl (Bq a3 rfl rfl rfl ?_);refine zg 1 rfl (JL.ln underlying28 rfl rfl rfl ?_);refine zg 2 rfl (A0 a4 (λa5 a6=>?_) (λa5 a7=>?_))
  ·refine zg 3 rfl (EK 17 λK=>?_);refine A3 K rfl [0,1,2] rfl ?_;obtain⟨ay,a8,a9⟩:=bs a6;refine Ei 3 (aq.Ah U) a8 K underlying28 AG ?_;rintro bM bN _ rfl ba;refine Db 4 K 0 ba Ba rfl rfl rfl rfl (A3 K rfl [5,6] rfl ?_);obtain⟨bO,bb,be⟩:=bs a9;refine AN 7 K rfl rfl (λρ h s' aQ=>FR (h _ _ rfl) (h _ _ rfl) bb) ?_;obtain⟨az,bf,bg⟩:=bs be;refine Ei 8 (aq.Ah U) bf K underlying28 AG ?_;rintro bP bQ _ rfl bh;refine Db 9 K 0 bh Ba rfl rfl rfl rfl (A3 K rfl [10,11] rfl ?_);obtain⟨bR,bi,bj⟩:=bs bg;refine AN 12 K rfl rfl (λρ h s' aQ=>FR (h _ _ rfl) (h _ _ rfl) bi) ?_;obtain⟨aI,bl,bm⟩:=bs bj;refine Ei 13 (aq.Ah U) bl K underlying28 AG ?_;rintro bS bT _ rfl bn;refine Db 14 K 0 bn Ba rfl rfl rfl rfl (AN (v:= .agg #[iV ay,iV az,iV aI]) 15 K rfl rfl (λρ h s' aQ=>Da [(0,1),(1,1),(2,1)] h BK underlying27 ⟨rfl,AQ type3,rfl,AQ type3,rfl,AQ type3,trivial⟩ rfl rfl) ?_);refine JG.one (i:=16) rfl (by decide+kernel) (Take.EP (pp:=Ay) [.agg #[iV ay,iV az,iV aI]] ([(ay,az,aI)]:Ax) aN rfl rfl rfl underlying23 Bf BK (by decide) rfl rfl rfl ⟨⟨_,_,rfl,rfl,⟨_,_,rfl,rfl,rfl⟩⟩,trivial⟩ λbU bo bp bq=>?_);refine Dp [17,18] (Bw (S':= [O,bo]) rfl bq λbr=>?_);refine B8 1 bp br rfl λbu aR bv bw=>?_;obtain⟨bx,bz,bA⟩:=bs bm;refine H9 (pp:=Ay) 0 bz rfl rfl rfl rfl rfl rfl rfl underlying23 underlying23 Bf (Dl type27) BK rfl (by decide) (by decide) (aO.Ah aR) bv bw rfl λbB bC bD bE bF=>?_;obtain⟨bG,bH,bI⟩:=bs bA;refine zg 5 rfl (Bq bH rfl rfl rfl ?_);refine zg 2 rfl ?_;obtain rfl:=oi bI;exact AB (a2 _ _ (bx,bG) ⟨bu,bB,bC,bD,rfl,rfl,(U.Ad aR),bF,bE⟩ aw) rfl
  ·refine JL.exit rfl ?_;obtain rfl:=oi a7;obtain rfl:=a0 _ aw;exact AB (aZ _ _ ⟨al,am,ap,O,rfl,rfl,U,aN,aO⟩) rfl
def f110(fu_:Nat)(p0:List Int)(K:List Int):Option (A6):= (f67 fu_ ([0,1,5,1,2,5,2,3,2,0,3,1,3,1,1]:List Int)).bind λO=> (f67 fu_ K).bind λU=> (C3 O U).bind λY=> some (([p0,[],([3]:List Int),([1]:List Int)]:Bc),Y)
theorem O8{a1:Ao}{c2:Nat}{ay:Ao}{az:Nat}{p0:List Int}{al:List Int}(aQ:Am rI E a1 c2 p0)(aR:Am rI E ay az al){fu_:Nat}{r:A6}(aI:f110 fu_ p0 al=some r):AO J 110 [sV a1 p0 c2,sV ay al az] E [] (λw E' B'=>∃(aJ:Ao) (aK:Nat) (aL:Ao) (aM:Nat),w= .agg #[sV aJ r.1 aK,sV aL r.2 aM]/\B'= []/\Am (rL rI) E' aJ aK r.1/\Am Ay E' aL aM r.2):=by
 refine Bj func110 λQ bK cs H aS aT=>?_;unfold f110 at aI;refine zg 2 rfl (BT aS HU λY aU=>?_);refine zg 4 rfl (FT (pp:=rI) [iV 3] [3] rfl rfl rfl underlying28 AG CI (by decide) rfl rfl rfl ⟨rfl,trivial⟩ aU λaV aW aX aY=>?_);refine FT (pp:=rI) [iV 1] [1] rfl rfl rfl underlying28 AG CI (by decide) rfl rfl rfl ⟨rfl,trivial⟩ aY λaZ a0 a2 a3=>Bw (S':= [[],[(Y,.cells #[nS,nS] 25 (0,0))],aW,a0]) rfl a3 λa4=>B8 2 aX a4 rfl λbL ac a5 a6=>B8 3 (a2.Ah ac) a6 rfl λbM ag a7 a8=>FT (pp:=(rL rI)) [sV a1 p0 c2,nS,.slice (AR aV) (([3]:List Int)).length 1,.slice (AR aZ) (([1]:List Int)).length 1] [p0,[],([3]:List Int),([1]:List Int)] rfl rfl rfl underlying22 Fy KB (by decide) rfl rfl rfl ⟨⟨_,_,rfl,(aQ.Ah (ac.Ad ag))⟩,⟨_,_,rfl,Am.nil⟩,⟨_,_,rfl,(a5.Ah ag)⟩,⟨_,_,rfl,a7⟩,trivial⟩ a8 λK am a9 ba=>Bw (S':= [[],[(Y,.cells #[nS,nS] 25 (0,0))],[],[],am]) rfl ba λbb=>FT (pp:=rI) [iV 0,iV 1,iV 5,iV 1,iV 2,iV 5,iV 2,iV 3,iV 2,iV 0,iV 3,iV 1,iV 3,iV 1,iV 1] [0,1,5,1,2,5,2,3,2,0,3,1,3,1,1] rfl rfl rfl underlying28 AG CI (by decide) rfl rfl rfl ⟨rfl,rfl,rfl,rfl,rfl,rfl,rfl,rfl,rfl,rfl,rfl,rfl,rfl,rfl,rfl,trivial⟩ bb λbN bO be bf=>B8 5 be bf rfl λbP ap bg bh=>?_;obtain⟨bQ,bi,bj⟩:=bs aI;refine BX (Nu bg bi) rfl rfl Mi bh ?_;rintro _ bR bl aq ⟨bS,bT,_,rfl,rfl,bm⟩ bn;refine Bw (S':= [[],[(Y,.cells #[nS,nS] 25 (0,0))],[],[],am,[],bl]) rfl bn λbo=>?_;obtain⟨bU,bp,bq⟩:=bs bj;refine zg 1 rfl (BX (Nu (aR.Ah (((ac.Ad ag).Ad ap).Ad aq)) bp) rfl rfl Mi bo ?_);rintro _ bV bW av ⟨bY,bZ,_,rfl,rfl,br⟩ bu;refine B8 7 br bu rfl λb0 aw bv bw=>?_;obtain⟨Z,bx,bz⟩:=bs bq;refine H9 (pp:=Ay) 6 bx rfl rfl rfl rfl rfl rfl rfl underlying23 underlying23 Bf (Dl type27) BK rfl (by decide) (by decide) (bm.Ah (av.Ad aw)) bv bw rfl λO U bA bB bC=>Bw (S':= [[],[(Y,.cells #[nS,nS] 25 (0,0))],[],[],am,[],bA,[]]) rfl bC λbD=>Al (v:= .agg #[.slice (AR K) (([p0,[],([3]:List Int),([1]:List Int)]:Bc)).length 4,sV O Z U]) rfl (λρ h=>Da [(0,1),(1,1)] h HU underlying25 ⟨rfl,AQ type22,rfl,AQ type23,trivial⟩ rfl rfl) (BF 1 bD CJ λbE=>?_);refine JL.done (B8 4 (a9.Ah (((ap.Ad aq).Ad av).Ad aw)) bE rfl λb1 aN bF bG=>?_);refine B8 6 (bB.Ah aN) bG rfl λb2 aO bH bI=>Bw (S':= [[],[(Y,.cells #[.slice (AR K) (([p0,[],([3]:List Int),([1]:List Int)]:Bc)).length 4,sV O Z U] 25 (0,0))],[],[],[],[],[],[]]) rfl bI λaP=>?_;obtain rfl:=oi bz;refine JL.ret (v:= .agg #[.slice (AR K) (([p0,[],([3]:List Int),([1]:List Int)]:Bc)).length 4,sV O Z U]) rfl rfl (Bx.list func110 rfl (vs:= [.agg #[.slice (AR K) (([p0,[],([3]:List Int),([1]:List Int)]:Bc)).length 4,sV O Z U]]) ⟨⟨_,rfl,Ld.many (vs:= [.slice (AR K) (([p0,[],([3]:List Int),([1]:List Int)]:Bc)).length 4,sV O Z U]) EV CJ (F6 (off:=0) 1 aP rfl rfl)⟩,trivial⟩) (Ef 1 aP rfl λbJ=>?_);exact aT (((((((ac.Ad ag).Ad ap).Ad aq).Ad av).Ad aw).Ad aN).Ad aO) rfl ⟨(AR K),4,O,U,rfl,rfl,(bF.Ah aO),bH⟩ bJ
def f63(fu_:Nat):Option (A6):= (f110 fu_ ([1,2,3]:List Int) ([])).bind λK=> some K
theorem Ny{fu_:Nat}{r:A6}(ac:f63 fu_=some r):AO J 63 [] E [] (λw E' B'=>∃(ag:Ao) (al:Nat) (am:Ao) (ap:Nat),w= .agg #[sV ag r.1 al,sV am r.2 ap]/\B'= []/\Am (rL rI) E' ag al r.1/\Am Ay E' am ap r.2):=by
 refine Bj func63 λQ aT cs H av aw=>?_;unfold f63 at ac;refine zg 2 rfl (BT av HU λr1 ay=>?_);refine zg 3 rfl (FT (pp:=rI) [iV 1,iV 2,iV 3] [1,2,3] rfl rfl rfl underlying28 AG CI (by decide) rfl rfl rfl ⟨rfl,rfl,rfl,trivial⟩ ay λaU aV az aI=>?_);refine B8 2 az aI rfl λaW aJ aK aL=>?_;obtain⟨K,aM,aN⟩:=bs ac;refine BX (O8 aK Am.nil aM) rfl rfl N3 aL ?_;rintro _ aX _ aO ⟨O,U,Y,Z,rfl,rfl,aP,aQ⟩ aR;refine BF 1 aR CJ λaq=>?_;refine JL.done ?_;obtain rfl:=oi aN;refine JL.ret (v:= .agg #[sV O K.1 U,sV Y K.2 Z]) rfl rfl (Bx.list func63 rfl (vs:= [.agg #[sV O K.1 U,sV Y K.2 Z]]) ⟨⟨_,rfl,Ld.many (vs:= [sV O K.1 U,sV Y K.2 Z]) EV CJ (F6 (off:=0) 1 aq rfl rfl)⟩,trivial⟩) (Ef 1 aq rfl λaS=>?_);exact aw (aJ.Ad aO) rfl ⟨O,U,Y,Z,rfl,rfl,aP,aQ⟩ aS
def f64(fu_:Nat):Option (A6):= (f110 fu_ ([]) ([])).bind λK=> some K
theorem ZY{fu_:Nat}{r:A6}(ac:f64 fu_=some r):AO J 64 [] E [] (λw E' B'=>∃(ag:Ao) (al:Nat) (am:Ao) (ap:Nat),w= .agg #[sV ag r.1 al,sV am r.2 ap]/\B'= []/\Am (rL rI) E' ag al r.1/\Am Ay E' am ap r.2):=by
 refine Bj func64 λQ aO cs H av aw=>?_;unfold f64 at ac;refine zg 2 rfl (BT av HU λr1 ay=>?_);obtain⟨K,az,aI⟩:=bs ac;refine zg 3 rfl (BX (O8 Am.nil Am.nil az) rfl rfl N3 ay ?_);rintro _ aP _ aJ ⟨O,U,Y,Z,rfl,rfl,aK,aL⟩ aM;refine BF 1 aM CJ λaq=>?_;refine JL.done ?_;obtain rfl:=oi aI;refine JL.ret (v:= .agg #[sV O K.1 U,sV Y K.2 Z]) rfl rfl (Bx.list func64 rfl (vs:= [.agg #[sV O K.1 U,sV Y K.2 Z]]) ⟨⟨_,rfl,Ld.many (vs:= [sV O K.1 U,sV Y K.2 Z]) EV CJ (F6 (off:=0) 1 aq rfl rfl)⟩,trivial⟩) (Ef 1 aq rfl λaN=>?_);exact aw aJ rfl ⟨O,U,Y,Z,rfl,rfl,aK,aL⟩ aN
def f65(fu_:Nat):Option (A6):= (f110 fu_ ([5,1]:List Int) ([])).bind λK=> some K
theorem ZW{fu_:Nat}{r:A6}(ac:f65 fu_=some r):AO J 65 [] E [] (λw E' B'=>∃(ag:Ao) (al:Nat) (am:Ao) (ap:Nat),w= .agg #[sV ag r.1 al,sV am r.2 ap]/\B'= []/\Am (rL rI) E' ag al r.1/\Am Ay E' am ap r.2):=by
 refine Bj func65 λQ aT cs H av aw=>?_;unfold f65 at ac;refine zg 2 rfl (BT av HU λr1 ay=>?_);refine zg 3 rfl (FT (pp:=rI) [iV 5,iV 1] [5,1] rfl rfl rfl underlying28 AG CI (by decide) rfl rfl rfl ⟨rfl,rfl,trivial⟩ ay λaU aV az aI=>?_);refine B8 2 az aI rfl λaW aJ aK aL=>?_;obtain⟨K,aM,aN⟩:=bs ac;refine BX (O8 aK Am.nil aM) rfl rfl N3 aL ?_;rintro _ aX _ aO ⟨O,U,Y,Z,rfl,rfl,aP,aQ⟩ aR;refine BF 1 aR CJ λaq=>?_;refine JL.done ?_;obtain rfl:=oi aN;refine JL.ret (v:= .agg #[sV O K.1 U,sV Y K.2 Z]) rfl rfl (Bx.list func65 rfl (vs:= [.agg #[sV O K.1 U,sV Y K.2 Z]]) ⟨⟨_,rfl,Ld.many (vs:= [sV O K.1 U,sV Y K.2 Z]) EV CJ (F6 (off:=0) 1 aq rfl rfl)⟩,trivial⟩) (Ef 1 aq rfl λaS=>?_);exact aw (aJ.Ad aO) rfl ⟨O,U,Y,Z,rfl,rfl,aP,aQ⟩ aS
def f66(fu_:Nat):Option (Ax):= (f67 fu_ ([0,1,1,0,2,3,0,3,2]:List Int)).bind λK=> some K
theorem ZN{fu_:Nat}{r:Ax}(K:f66 fu_=some r):AO J 66 [] E [] (λw E' B'=>∃(O:Ao) (U:Nat),w= sV O r U/\B'= []/\Am Ay E' O U r):=by
 refine Bj func66 λQ aN cs H Y Z=>?_;unfold f66 at K;refine zg 6 rfl (FT (pp:=rI) [iV 0,iV 1,iV 1,iV 0,iV 2,iV 3,iV 0,iV 3,iV 2] [0,1,1,0,2,3,0,3,2] rfl rfl rfl underlying28 AG CI (by decide) rfl rfl rfl ⟨rfl,rfl,rfl,rfl,rfl,rfl,rfl,rfl,rfl,trivial⟩ Y λr1 g2 ac ag=>?_);refine B8 1 ac ag rfl λaO al am ap=>?_;obtain⟨aP,aq,av⟩:=bs K;refine BX (Nu am aq) rfl rfl Mi ap ?_;rintro _ aQ aR aw ⟨ay,az,_,rfl,rfl,aI⟩ aJ;refine zg 2 rfl (B8 2 aI aJ rfl λaS aK aL aM=>?_);obtain rfl:=oi av;exact A2 func66 rfl rfl (Z ((al.Ad aw).Ad aK) rfl ⟨ay,az,rfl,rfl,aL⟩ aM)
def Tf(fu_:Nat)(p0:List Int)(O:List Int)(K:Int):Option (Bn Int ((Bool)⊕(Unit))):= Option.bind (if K<(p0.length:Int) then(some (decide (K<(O.length:Int)))) else(some false)) λU=> if U=true then((ix p0 K).bind λY=> (ix O K).bind λZ=> if Y≠Z then(some (.done (Sum.inl false))) else((Aw (K+1)).bind λac=> some (.more ac))) else(some (.done (Sum.inr ())))
def f29(fu_:Nat)(p0:List Int)(K:List Int):Option Bool:= Option.bind (iter (Tf fu_ p0 K) fu_ 0) λO=> Sum.elim (λr=>some r) (λU=> some (decide ((p0.length:Int)=(K.length:Int)))) O
theorem Nw{a1:Ao}{c2:Nat}{U:Ao}{Y:Nat}{p0:List Int}{K:List Int}(aO:Am rI E a1 c2 p0)(aP:Am rI E U Y K){fu_:Nat}{r:Bool}(av:f29 fu_ p0 K=some r):AO J 29 [sV a1 p0 c2,sV U K Y] E [] (λw E' B'=>w= .bool r/\B'= []):=by
 refine Bj func29 λQ bo cs H aQ aw=>?_;unfold f29 at av;obtain⟨ay,aR,az⟩:=bs av;refine zg 9 rfl (Bu (λL s=>∃(aI:Unit) (aJ:LH),ay=Sum.inr aI/\Jm E H aJ [] [(0,sV a1 p0 c2),(1,sV U K Y)] L s) ?_ ?_)
 ·rintro _ _ ⟨aI,aJ,rfl,rfl,rfl,aS,aT⟩;have aU:=elim_inr az;refine zg 3 rfl (JL.ln underlying28 rfl rfl rfl ?_);refine zg 1 rfl (JL.ln underlying28 rfl rfl rfl ?_);refine zg 3 rfl ?_;obtain rfl:=oi aU;exact A2 func29 rfl rfl (aw aS rfl ⟨rfl,rfl⟩ aT)
 ·intro aV;refine JL.block (DO aR (λag=> []) (λag=> [(0,sV a1 p0 c2),(1,sV U K Y),(5,iV ag)]) Az aQ ?_);rintro ag am Z aK aL ⟨bp,al⟩ aW;have aM:=al;unfold Tf at aM;refine zg 5 rfl (JL.ln underlying28 rfl rfl rfl ?_);obtain⟨aX,aY,aZ⟩:=bs aM;refine zg 2 rfl (H6 [] (λL s=>∃(ap:LH),Jm am H ap [] [(0,sV a1 p0 c2),(1,sV U K Y),(5,iV ag),(15,.bool aX)] L s) ?_ ?_)
  ·rintro _ _ ⟨ap,rfl,rfl,ac,aq⟩;refine JL.done (Cz aZ (λa0 a2=>?_) (λa0 a3=>?_))
   ·refine zg 4 rfl (EK 8 λO=>?_);refine A3 O rfl [0,1] rfl ?_;obtain⟨bq,a4,a5⟩:=bs a2;refine Ei 2 (aO.Ah (Z.Ad ac)) a4 O underlying28 AG ?_;rintro br bu _ rfl a6;refine Db 3 O 0 a6 Ba rfl rfl rfl rfl (A3 O rfl [4,5] rfl ?_);obtain⟨bv,a7,a8⟩:=bs a5;refine Ei 6 (aP.Ah (Z.Ad ac)) a7 O underlying28 AG ?_;rintro bw bx _ rfl a9;refine Db 7 O 0 a9 Ba rfl rfl rfl rfl (Dp [8] ?_);refine zg 2 rfl (A0 a8 (λba bb=>?_) (λba be=>?_))
    ·refine zg 4 rfl ?_;obtain rfl:=oi bb;obtain rfl:=aL _ al;have bf:=elim_inl az;obtain rfl:=oi bf;exact A2 func29 rfl rfl (aw (Z.Ad ac) rfl ⟨rfl,rfl⟩ aq)
    ·obtain⟨bg,bh,bi⟩:=bs be;refine zg 4 rfl (Bq bh rfl rfl rfl ?_);refine zg 2 rfl ?_;obtain rfl:=oi bi;exact aW bg (Z.Ad ac) aq rfl al
   ·refine JL.exit rfl ?_;obtain rfl:=oi a3;have bj:ay=(Sum.inr ()):=(aL _ al).symm;exact AB (aV _ _ ⟨(),ap,bj,rfl,rfl,(Z.Ad ac),aq⟩) rfl
  ·intro aN;refine Ja 10 aY (λbl bm=>?_) (λbl bn=>?_)
   ·refine zg 2 rfl (JL.ln underlying28 rfl rfl rfl ?_);refine zg 2 rfl ?_;obtain rfl:=oi bm;exact AB (aN _ _ ⟨am,rfl,rfl,Az,aK⟩) rfl
   ·refine zg 5 rfl ?_;obtain rfl:=oi bn;exact AB (aN _ _ ⟨am,rfl,rfl,Az,aK⟩) rfl
def SW(fu_:Nat)(p0:Ax)(O:Ax)(K:Int):Option (Bn Int ((Bool)⊕(Unit))):= Option.bind (if K<(p0.length:Int) then(some (decide (K<(O.length:Int)))) else(some false)) λU=> if U=true then((ix p0 K).bind λY=> (ix O K).bind λZ=> if Y≠Z then(some (.done (Sum.inl false))) else((Aw (K+1)).bind λac=> some (.more ac))) else(some (.done (Sum.inr ())))
def f26(fu_:Nat)(p0:Ax)(K:Ax):Option Bool:= Option.bind (iter (SW fu_ p0 K) fu_ 0) λO=> Sum.elim (λr=>some r) (λU=> some (decide ((p0.length:Int)=(K.length:Int)))) O
theorem TC{a1:Ao}{c2:Nat}{U:Ao}{Y:Nat}{p0:Ax}{K:Ax}(aQ:Am Ay E a1 c2 p0)(aR:Am Ay E U Y K){fu_:Nat}{r:Bool}(ay:f26 fu_ p0 K=some r):AO J 26 [sV a1 p0 c2,sV U K Y] E [] (λw E' B'=>w= .bool r/\B'= []):=by
 refine Bj func26 λQ bq cs H aS az=>?_;unfold f26 at ay;obtain⟨aI,aT,aJ⟩:=bs ay;refine zg 9 rfl (Bu (λL s=>∃(aK:Unit) (aL:LH),aI=Sum.inr aK/\Jm E H aL [] [(0,sV a1 p0 c2),(1,sV U K Y)] L s) ?_ ?_)
 ·rintro _ _ ⟨aK,aL,rfl,rfl,rfl,aU,aV⟩;have aW:=elim_inr aJ;refine zg 3 rfl (JL.ln underlying23 rfl rfl rfl ?_);refine zg 1 rfl (JL.ln underlying23 rfl rfl rfl ?_);refine zg 3 rfl ?_;obtain rfl:=oi aW;exact A2 func26 rfl rfl (az aU rfl ⟨rfl,rfl⟩ aV)
 ·intro aX;refine JL.block (DO aT (λap=> []) (λap=> [(0,sV a1 p0 c2),(1,sV U K Y),(5,iV ap)]) Az aS ?_);rintro ap av Z aM aN ⟨br,aq⟩ aY;have aO:=aq;unfold SW at aO;refine zg 5 rfl (JL.ln underlying23 rfl rfl rfl ?_);obtain⟨aZ,a0,a2⟩:=bs aO;refine zg 2 rfl (H6 [] (λL s=>∃(ac:LH),Jm av H ac [] [(0,sV a1 p0 c2),(1,sV U K Y),(5,iV ap),(15,.bool aZ)] L s) ?_ ?_)
  ·rintro _ _ ⟨ac,rfl,rfl,ag,aw⟩;refine JL.done (Cz a2 (λa3 a4=>?_) (λa3 a5=>?_))
   ·refine zg 4 rfl (EK 8 λO=>?_);refine A3 O rfl [0,1] rfl ?_;obtain⟨al,a6,a7⟩:=bs a4;refine Ei 2 (aQ.Ah (Z.Ad ag)) a6 O underlying23 Bf ?_;rintro bu bv _ ⟨_,_,rfl,rfl,⟨_,_,rfl,rfl,rfl⟩⟩ a8;refine Jy 3 O a8 El Bf rfl rfl rfl (A3 O rfl [4,5] rfl ?_);obtain⟨am,a9,ba⟩:=bs a7;refine Ei 6 (aR.Ah (Z.Ad ag)) a9 O underlying23 Bf ?_;rintro bw bx _ ⟨_,_,rfl,rfl,⟨_,_,rfl,rfl,rfl⟩⟩ bb;refine Jy 7 O bb El Bf rfl rfl rfl (Dp [8] ?_);refine Al (v:= .bool (decide (al≠am))) rfl (λρ h=>RL (E:=ac) (E':=ac) (ws:= [iV al.1,iV al.2.1,iV al.2.2]) (ws':= [iV am.1,iV am.2.1,iV am.2.2]) (a:=al) (b:=am) ZU (by decide) (by decide+kernel) ⟨_,_,rfl,rfl,⟨_,_,rfl,rfl,rfl⟩⟩ ⟨_,_,rfl,rfl,⟨_,_,rfl,rfl,rfl⟩⟩ (h _ _ rfl) (h _ _ rfl)) (JL.done ?_);refine A0 ba (λbe bf=>?_) (λbe bg=>?_)
    ·refine zg 4 rfl ?_;obtain rfl:=oi bf;obtain rfl:=aN _ aq;have bh:=elim_inl aJ;obtain rfl:=oi bh;exact A2 func26 rfl rfl (az (Z.Ad ag) rfl ⟨rfl,rfl⟩ aw)
    ·obtain⟨bi,bj,bl⟩:=bs bg;refine zg 4 rfl (Bq bj rfl rfl rfl ?_);refine zg 2 rfl ?_;obtain rfl:=oi bl;exact aY bi (Z.Ad ag) aw rfl aq
   ·refine JL.exit rfl ?_;obtain rfl:=oi a5;have bm:aI=(Sum.inr ()):=(aN _ aq).symm;exact AB (aX _ _ ⟨(),ac,bm,rfl,rfl,(Z.Ad ag),aw⟩) rfl
  ·intro aP;refine Ja 10 a0 (λbn bo=>?_) (λbn bp=>?_)
   ·refine zg 2 rfl (JL.ln underlying23 rfl rfl rfl ?_);refine zg 2 rfl ?_;obtain rfl:=oi bo;exact AB (aP _ _ ⟨av,rfl,rfl,Az,aM⟩) rfl
   ·refine zg 5 rfl ?_;obtain rfl:=oi bp;exact AB (aP _ _ ⟨av,rfl,rfl,Az,aM⟩) rfl
def f18(fu_:Nat):Option Bool:= (f63 fu_).bind λag=> (f43 fu_ ag).bind λO=> (f63 fu_).bind λal=> (f33 fu_ al).bind λU=> (f63 fu_).bind λam=> (f22 fu_ am).bind λY=> (f63 fu_).bind λap=> (f24 fu_ ap).bind λZ=> (f64 fu_).bind λaq=> (f39 fu_ aq).bind λac=> (f65 fu_).bind λav=> (f27 fu_ av).bind λK=> Option.bind (if O.2=0 then(some (decide (U.2=0))) else(some false)) λaw=> Option.bind (if aw=true then(some (decide (Y.2=0))) else(some false)) λay=> Option.bind (if ay=true then(some (decide (Z.2=0))) else(some false)) λaz=> Option.bind (if az=true then(some (decide (ac.2=0))) else(some false)) λaI=> Option.bind (if aI=true then(some (decide (K.2.2=0))) else(some false)) λaJ=> Option.bind (if aJ=true then(some (decide (Z.1=16))) else(some false)) λaK=> Option.bind (if aK=true then((f29 fu_ O.1 ([(-6),1,3,2]:List Int)).bind λaL=> some aL) else(some false)) λaM=> Option.bind (if aM=true then((f29 fu_ U.1 ([1,2,3]:List Int)).bind λaN=> some aN) else(some false)) λaO=> Option.bind (if aO=true then((f66 fu_).bind λaP=> (f26 fu_ Y.1 aP).bind λaQ=> some aQ) else(some false)) λaR=> Option.bind (if aR=true then((f29 fu_ ac.1 ([0]:List Int)).bind λaS=> some aS) else(some false)) λaT=> Option.bind (if aT=true then((f67 fu_ ([0,2,6,2,3,3,3,1,1]:List Int)).bind λaU=> (f26 fu_ K.1 aU).bind λaV=> some aV) else(some false)) λaW=> Option.bind (if aW=true then((f29 fu_ K.2.1 ([0,1,2]:List Int)).bind λaX=> some aX) else(some false)) λaY=> some aY
theorem Zx{E:LH}{fu_:Nat}{r:Bool}(a3:f18 fu_=some r):AO (GG Tryz.prog) 18 [] E [] (λw E' B'=>w= .bool r/\B'= []):=by
 refine Bj func18 λQ fm cs H bJ bK=>?_;unfold f18 at a3;obtain⟨fo,bL,bM⟩:=bs a3;refine zg 6 rfl (BX (Ny bL) rfl rfl Mj bJ ?_);rintro _ fp _ bN ⟨fq,fs,fu,fv,rfl,rfl,bO,bP⟩ bQ;obtain⟨aO,bR,bS⟩:=bs bM;refine BX (Zz bO bP bR) rfl rfl (A7 func43 rfl) bQ ?_;rintro _ fw _ bT ⟨aP,aQ,rfl,rfl,bU⟩ bV;obtain⟨fx,bW,bY⟩:=bs bS;refine zg 8 rfl (BX (Ny bW) rfl rfl Mj bV ?_);rintro _ fy _ a4 ⟨fz,fA,fB,fC,rfl,rfl,bZ,b0⟩ b1;refine Bw (S':= [[],[],[],[]]) rfl b1 λb2=>?_;obtain⟨av,b3,b4⟩:=bs bY;refine BX (Zs bZ b0 b3) rfl rfl (A7 func33 rfl) b2 ?_;rintro _ fD _ a5 ⟨aw,ay,rfl,rfl,b5⟩ b6;obtain⟨fE,b7,b8⟩:=bs b4;refine zg 8 rfl (BX (Ny b7) rfl rfl Mj b6 ?_);rintro _ fF _ a0 ⟨fG,fH,fI,fJ,rfl,rfl,b9,ca⟩ cb;obtain⟨ag,cc,cd⟩:=bs b8;refine BX (PQ b9 ca cc) rfl rfl Oa cb ?_;rintro _ fK _ a1 ⟨ap,aq,rfl,rfl,ce⟩ cf;refine Bw (S':= [[],[],[],[],[],[],[]]) rfl cf λcg=>?_;obtain⟨fL,ci,ck⟩:=bs cd;refine zg 8 rfl (BX (Ny ci) rfl rfl Mj cg ?_);rintro _ fM _ aV ⟨fN,fO,fP,fQ,rfl,rfl,cm,cn⟩ co;obtain⟨az,cp,cq⟩:=bs ck;refine CU (Py cm cn cp) rfl rfl N7 co λfR aW cr=>?_;obtain⟨fS,ct,cu⟩:=bs cq;refine zg 8 rfl (BX (ZY ct) rfl rfl (A7 func64 rfl) cr ?_);rintro _ fT _ aX ⟨fU,fW,fX,fY,rfl,rfl,cv,cw⟩ cy;refine Bw (S':= [[],[],[],[],[],[],[],[],[],[]]) rfl cy λcz=>?_;obtain⟨O,cA,cB⟩:=bs cu;refine BX (ZE cv cw cA) rfl rfl (A7 func39 rfl) cz ?_;rintro _ fZ _ aY ⟨al,am,rfl,rfl,cC⟩ cD;obtain⟨ga,cE,cF⟩:=bs cB;refine zg 8 rfl (BX (ZW cE) rfl rfl (A7 func65 rfl) cD ?_);rintro _ gb _ aS ⟨gc,gd,ge,gf,rfl,rfl,cG,cH⟩ cI;obtain⟨K,cJ,cK⟩:=bs cF;refine BX (Zu cG cH cJ) rfl rfl (A7 func27 rfl) cI ?_;rintro _ gg _ aT ⟨Z,ac,U,Y,rfl,rfl,cM,cN⟩ cO;refine Bw (S':= [[],[],[],[],[],[],[],[],[],[],[],[],[]]) rfl cO λa6=>?_;obtain⟨cP,cQ,cR⟩:=bs cK;refine zg 13 rfl (Fi 6 52 [] [(1,sV aP aO.1 aQ),(3,sV aw av.1 ay),(5,sV ap ag.1 aq),(6,iV ag.2),(7,iV az.1),(8,iV az.2),(9,sV al O.1 am),(10,iV O.2),(11,sV Z K.1 ac),(12,sV U K.2.1 Y),(13,iV K.2.2),(50,.bool cP)] (λgh aI a7=>?_) (λa8=>?_))
 ·obtain⟨cT,cV,cW⟩:=bs cR;refine zg 1 rfl (Fi 10 48 [] [(1,sV aP aO.1 aQ),(3,sV aw av.1 ay),(5,sV ap ag.1 aq),(7,iV az.1),(8,iV az.2),(9,sV al O.1 am),(10,iV O.2),(11,sV Z K.1 ac),(12,sV U K.2.1 Y),(13,iV K.2.2),(54,.bool cT)] (λgi aJ a9=>?_) (λba=>?_))
  ·obtain⟨cX,cY,cZ⟩:=bs cW;refine zg 1 rfl (Fi 14 44 [] [(1,sV aP aO.1 aQ),(3,sV aw av.1 ay),(5,sV ap ag.1 aq),(7,iV az.1),(9,sV al O.1 am),(10,iV O.2),(11,sV Z K.1 ac),(12,sV U K.2.1 Y),(13,iV K.2.2),(58,.bool cX)] (λgj aK bb=>?_) (λbe=>?_))
   ·obtain⟨c0,c1,c2⟩:=bs cZ;refine zg 1 rfl (Fi 18 40 [] [(1,sV aP aO.1 aQ),(3,sV aw av.1 ay),(5,sV ap ag.1 aq),(7,iV az.1),(9,sV al O.1 am),(11,sV Z K.1 ac),(12,sV U K.2.1 Y),(13,iV K.2.2),(62,.bool c0)] (λgk aL bf=>?_) (λbg=>?_))
    ·obtain⟨c3,c4,c5⟩:=bs c2;refine zg 1 rfl (Fi 22 36 [] [(1,sV aP aO.1 aQ),(3,sV aw av.1 ay),(5,sV ap ag.1 aq),(7,iV az.1),(9,sV al O.1 am),(11,sV Z K.1 ac),(12,sV U K.2.1 Y),(66,.bool c3)] (λgl aM bh=>?_) (λbi=>?_))
     ·obtain⟨c6,c7,c8⟩:=bs c5;refine zg 1 rfl (Fi 26 32 [] [(1,sV aP aO.1 aQ),(3,sV aw av.1 ay),(5,sV ap ag.1 aq),(9,sV al O.1 am),(11,sV Z K.1 ac),(12,sV U K.2.1 Y),(70,.bool c6)] (λgm aN bj=>?_) (λbl=>?_))
      ·obtain⟨c9,da,db⟩:=bs c8;refine zg 1 rfl (Fi 31 27 [] [(3,sV aw av.1 ay),(5,sV ap ag.1 aq),(9,sV al O.1 am),(11,sV Z K.1 ac),(12,sV U K.2.1 Y),(75,.bool c9)] (λgn aR bm=>?_) (λbn=>?_))
       ·obtain⟨dc,dd,de⟩:=bs db;refine zg 1 rfl (Fi 36 22 [] [(5,sV ap ag.1 aq),(9,sV al O.1 am),(11,sV Z K.1 ac),(12,sV U K.2.1 Y),(80,.bool dc)] (λgp aU bo=>?_) (λbp=>?_))
        ·obtain⟨df,dg,dh⟩:=bs de;refine zg 1 rfl (Fi 41 17 [] [(9,sV al O.1 am),(11,sV Z K.1 ac),(12,sV U K.2.1 Y),(85,.bool df)] (λgq aZ bq=>?_) (λbr=>?_))
         ·obtain⟨di,dj,dk⟩:=bs dh;refine zg 1 rfl (Fi 46 12 [] [(11,sV Z K.1 ac),(12,sV U K.2.1 Y),(90,.bool di)] (λgr a2 bu=>?_) (λbv=>?_))
          ·obtain⟨dn,dp,dq⟩:=bs dk;refine zg 1 rfl (Fi 52 6 [] [(12,sV U K.2.1 Y),(96,.bool dn)] (λgt bw bx=>?_) (λbz=>?_))
           ·obtain⟨dr,dt,du⟩:=bs dq;refine zg 1 rfl (Fi 57 1 [] [(101,.bool dr)] (λgu dv dw=>?_) (λbA=>?_))
            ·refine zg 2 rfl ?_;obtain rfl:=oi du;exact A2 func18 rfl rfl (bK (((((((((((((((((((((((bN.Ad bT).Ad a4).Ad a5).Ad a0).Ad a1).Ad aV).Ad aW).Ad aX).Ad aY).Ad aS).Ad aT).Ad aI).Ad aJ).Ad aK).Ad aL).Ad aM).Ad aN).Ad aR).Ad aU).Ad aZ).Ad a2).Ad bw).Ad dv) rfl ⟨rfl,rfl⟩ dw)
            ·refine EI 97 dt (λdx dy=>?_) (λdx dz=>?_)
             ·refine zg 1 rfl (FT (pp:=rI) [iV 0,iV 1,iV 2] [0,1,2] rfl rfl rfl underlying28 AG CI (by decide) rfl rfl rfl ⟨rfl,rfl,rfl,trivial⟩ bx λgv gw dA dB=>?_);refine B8 0 dA dB rfl λgx bB dC dD=>?_;obtain⟨gy,dE,dF⟩:=bs dy;refine CU (Nw (cN.Ah (((((((((((aI.Ad aJ).Ad aK).Ad aL).Ad aM).Ad aN).Ad aR).Ad aU).Ad aZ).Ad a2).Ad bw).Ad bB)) dC dE) rfl rfl Mk dD λgz dG dH=>Bw (S':= [[],[]]) rfl dH λdI=>zg 1 rfl ?_;obtain rfl:=oi dF;exact bA (bB.Ad dG) dI rfl
             ·refine zg 4 rfl ?_;obtain rfl:=oi dz;exact bA Az bx rfl
           ·refine EI 91 dp (λdJ dK=>?_) (λdJ dL=>?_)
            ·refine zg 1 rfl (FT (pp:=rI) [iV 0,iV 2,iV 6,iV 2,iV 3,iV 3,iV 3,iV 1,iV 1] [0,2,6,2,3,3,3,1,1] rfl rfl rfl underlying28 AG CI (by decide) rfl rfl rfl ⟨rfl,rfl,rfl,rfl,rfl,rfl,rfl,rfl,rfl,trivial⟩ bu λgA gB dM dN=>?_);refine B8 0 dM dN rfl λgC bC dO dQ=>?_;obtain⟨gD,dR,dS⟩:=bs dK;refine BX (Nu dO dR) rfl rfl Mi dQ ?_;rintro _ gE dT bD ⟨gF,gG,_,rfl,rfl,dU⟩ dV;refine Bw (S':= [[],dT]) rfl dV λdW=>B8 1 dU dW rfl λgH bE dX dY=>?_;obtain⟨gI,dZ,ea⟩:=bs dS;refine CU (TC (cM.Ah ((((((((((((aI.Ad aJ).Ad aK).Ad aL).Ad aM).Ad aN).Ad aR).Ad aU).Ad aZ).Ad a2).Ad bC).Ad bD).Ad bE)) dX dZ) rfl rfl (A7 func26 rfl) dY λgJ eb ec=>zg 1 rfl ?_;obtain rfl:=oi ea;exact bz (((bC.Ad bD).Ad bE).Ad eb) ec rfl
            ·refine zg 5 rfl ?_;obtain rfl:=oi dL;exact bz Az bu rfl
          ·refine EI 86 dj (λed ee=>?_) (λed ef=>?_)
           ·refine zg 1 rfl (FT (pp:=rI) [iV 0] [0] rfl rfl rfl underlying28 AG CI (by decide) rfl rfl rfl ⟨rfl,trivial⟩ bq λgK gL eg eh=>?_);refine B8 0 eg eh rfl λgM bF ei ej=>?_;obtain⟨gO,ek,el⟩:=bs ee;refine CU (Nw (cC.Ah (((((((((((aS.Ad aT).Ad aI).Ad aJ).Ad aK).Ad aL).Ad aM).Ad aN).Ad aR).Ad aU).Ad aZ).Ad bF)) ei ek) rfl rfl Mk ej λgP em en=>Bw (S':= [[],[]]) rfl en λeo=>zg 1 rfl ?_;obtain rfl:=oi el;exact bv (bF.Ad em) eo rfl
           ·refine zg 4 rfl ?_;obtain rfl:=oi ef;exact bv Az bq rfl
         ·refine EI 81 dg (λep er=>?_) (λep et=>?_)
          ·obtain⟨gQ,eu,ew⟩:=bs er;refine zg 1 rfl (BX (ZN eu) rfl rfl (A7 func66 rfl) bo ?_);rintro _ gR _ bG ⟨gS,gT,rfl,rfl,ex⟩ ey;obtain⟨gU,ez,eA⟩:=bs ew;refine CU (TC (ce.Ah ((((((((((((((aV.Ad aW).Ad aX).Ad aY).Ad aS).Ad aT).Ad aI).Ad aJ).Ad aK).Ad aL).Ad aM).Ad aN).Ad aR).Ad aU).Ad bG)) ex ez) rfl rfl (A7 func26 rfl) ey λgV eB eC=>zg 1 rfl ?_;obtain rfl:=oi eA;exact br (bG.Ad eB) eC rfl
          ·refine zg 4 rfl ?_;obtain rfl:=oi et;exact br Az bo rfl
        ·refine EI 76 dd (λeD eE=>?_) (λeD eF=>?_)
         ·refine zg 1 rfl (FT (pp:=rI) [iV 1,iV 2,iV 3] [1,2,3] rfl rfl rfl underlying28 AG CI (by decide) rfl rfl rfl ⟨rfl,rfl,rfl,trivial⟩ bm λgW gX eG eH=>?_);refine B8 0 eG eH rfl λgY bH eI eJ=>?_;obtain⟨gZ,eK,eL⟩:=bs eE;refine CU (Nw (b5.Ah (((((((((((((((a0.Ad a1).Ad aV).Ad aW).Ad aX).Ad aY).Ad aS).Ad aT).Ad aI).Ad aJ).Ad aK).Ad aL).Ad aM).Ad aN).Ad aR).Ad bH)) eI eK) rfl rfl Mk eJ λg0 eM eN=>Bw (S':= [[],[]]) rfl eN λeO=>zg 1 rfl ?_;obtain rfl:=oi eL;exact bp (bH.Ad eM) eO rfl
         ·refine zg 4 rfl ?_;obtain rfl:=oi eF;exact bp Az bm rfl
       ·refine EI 71 da (λeP eQ=>?_) (λeP eR=>?_)
        ·refine zg 1 rfl (FT (pp:=rI) [iV (-6),iV 1,iV 3,iV 2] [(-6),1,3,2] rfl rfl rfl underlying28 AG CI (by decide) rfl rfl rfl ⟨rfl,rfl,rfl,rfl,trivial⟩ bj λg1 g3 eS eT=>?_);refine B8 0 eS eT rfl λg4 bI eU eV=>?_;obtain⟨g5,eW,eX⟩:=bs eQ;refine CU (Nw (bU.Ah ((((((((((((((((a4.Ad a5).Ad a0).Ad a1).Ad aV).Ad aW).Ad aX).Ad aY).Ad aS).Ad aT).Ad aI).Ad aJ).Ad aK).Ad aL).Ad aM).Ad aN).Ad bI)) eU eW) rfl rfl Mk eV λg6 eY eZ=>Bw (S':= [[],[]]) rfl eZ λe0=>zg 1 rfl ?_;obtain rfl:=oi eX;exact bn (bI.Ad eY) e0 rfl
        ·refine zg 4 rfl ?_;obtain rfl:=oi eR;exact bn Az bj rfl
      ·refine EI 67 c7 (λe1 e3=>?_) (λe1 e4=>?_)
       ·refine zg 3 rfl ?_;obtain rfl:=oi e3;exact bl Az bh rfl
       ·refine zg 3 rfl ?_;obtain rfl:=oi e4;exact bl Az bh rfl
     ·refine EI 63 c4 (λe5 e6=>?_) (λe5 e7=>?_)
      ·refine zg 3 rfl ?_;obtain rfl:=oi e6;exact bi Az bf rfl
      ·refine zg 3 rfl ?_;obtain rfl:=oi e7;exact bi Az bf rfl
    ·refine EI 59 c1 (λe8 e9=>?_) (λe8 fa=>?_)
     ·refine zg 3 rfl ?_;obtain rfl:=oi e9;exact bg Az bb rfl
     ·refine zg 3 rfl ?_;obtain rfl:=oi fa;exact bg Az bb rfl
   ·refine EI 55 cY (λfb fc=>?_) (λfb fe=>?_)
    ·refine zg 3 rfl ?_;obtain rfl:=oi fc;exact be Az a9 rfl
    ·refine zg 3 rfl ?_;obtain rfl:=oi fe;exact be Az a9 rfl
  ·refine EI 51 cV (λff fg=>?_) (λff fh=>?_)
   ·refine zg 3 rfl ?_;obtain rfl:=oi fg;exact ba Az a7 rfl
   ·refine zg 3 rfl ?_;obtain rfl:=oi fh;exact ba Az a7 rfl
 ·refine Ja 47 cQ (λfj fk=>?_) (λfj fl=>?_)
  ·refine zg 3 rfl ?_;obtain rfl:=oi fk;exact a8 Az a6 rfl
  ·refine zg 3 rfl ?_;obtain rfl:=oi fl;exact a8 Az a6 rfl
end Pal
namespace Pal
open Go Go.Conc Go.Proofs
open Go.Proofs.Tryz
variable {J:Judge Tryz.prog}{E:LH}
def f104(fu_:Nat)(p0:List Int):Option ((List Int)):= (C3 ([]:List Int) p0).bind λK=> some K
theorem Yn{a1:Ao}{c2:Nat}{p0:List Int}(Y:Am rI E a1 c2 p0){fu_:Nat}{r:(List Int)}(K:f104 fu_ p0=some r):AO J 104 [sV a1 p0 c2] E [] (λw E' B'=>∃(O:Ao) (U:Nat),w= sV O r U/\B'= []/\Am rI E' O U r):=by
 refine Bj func104 λQ aK cs H Z ac=>?_;unfold f104 at K;refine zg 6 rfl (MM (pp:=rI) rfl rfl rfl underlying28 AG Z λaL aM ag al=>?_);obtain⟨aN,am,ap⟩:=bs K;refine zg 1 rfl (H9 (pp:=rI) 1 am rfl rfl rfl rfl rfl rfl rfl underlying28 underlying28 AG (Dl type3) CI rfl (by decide) (by decide) ag Y al rfl λaq av aO aw ay=>?_);refine zg 2 rfl (B8 1 aw ay rfl λaP az aI aJ=>?_);obtain rfl:=oi ap;exact A2 func104 rfl rfl (ac az rfl ⟨aq,av,rfl,rfl,aI⟩ aJ)
def Ng(fu_:Nat)(p0:Bc)(K:Bc×Int):Option (Bn (Bc×Int) (Bc)):= if K.2<(p0.length:Int) then((ix p0 K.2).bind λO=> (f104 fu_ O).bind λU=> (ix K.1 K.2).bind λZ=> (Aw (K.2+1)).bind λY=> some (.more ((K.1.set (Int.toNat K.2) U),Y))) else(some (.done K.1))
def f68(fu_:Nat)(p0:Bc):Option (Bc):= (Jz (p0.length:Int) ([]:List Int)).bind λK=> Option.bind (iter (Ng fu_ p0) fu_ (K,0)) λO=> some O
theorem Zw{a1:Ao}{c2:Nat}{p0:Bc}(aS:Am (rL rI) E a1 c2 p0){fu_:Nat}{r:Bc}(aI:f68 fu_ p0=some r):AO J 68 [sV a1 p0 c2] E [] (λw E' B'=>∃(aJ:Ao) (aK:Nat),w= sV aJ r aK/\B'= []/\Am (rL rI) E' aJ aK r):=by
 refine Bj func68 λQ bL cs H aT aU=>?_;unfold f68 at aI;refine zg 7 rfl (JL.ln underlying22 rfl rfl rfl ?_);obtain⟨aV,aW,aX⟩:=bs aI;refine JS.make (pp:=(rL rI)) aW rfl rfl rfl rfl rfl underlying22 Fy (Dl type28) (by decide) KB (by decide) ⟨_,_,rfl,Am.nil⟩ aT λaY aZ a0 a2=>?_;obtain⟨aL,a3,a4⟩:=bs aX;refine zg 7 rfl (Bu (λL s=>∃(aq:LH) (Z:Ao) (ac:Nat) (av:Seg),Jn E H aq [av] [(3,sV Z aL ac)] L s (OL 28 (rL rI) aq Z ac av aL)) ?_ ?_)
 ·rintro _ _ ⟨aq,Z,ac,av,rfl,rfl,a5,a6,a7⟩;refine zg 5 rfl (B8 0 a7 a6 rfl λbM a8 a9 ba=>?_);obtain rfl:=oi a4;exact A2 func68 rfl rfl (aU (a5.Ad a8) rfl ⟨Z,ac,rfl,rfl,a9⟩ ba)
 ·intro bb;refine JL.block (CP a3 (λL s K=>∃(ag:LH) (U:Ao) (Y:Nat) (al:Seg),Jn E H ag [al] [(0,sV a1 p0 c2),(3,sV U K.1 Y),(4,iV K.2)] L s (OL 28 (rL rI) ag U Y al K.1)) ⟨E,(AR aY),aV.length,aZ,rfl,rfl,Az,a2,a0⟩ ?_);rintro _ _ K ⟨ag,U,Y,al,rfl,rfl,aw,aM,aN⟩ be ⟨bN,ay⟩ bf;have aO:=ay;unfold Ng at aO;refine zg 5 rfl (JL.ln underlying22 rfl rfl rfl ?_);refine zg 2 rfl (A0 aO (λbg bh=>?_) (λbg bi=>?_))
  ·obtain⟨bj,bl,bm⟩:=bs bh;refine zg 8 rfl (JS.ix (aS.Ah aw) bl underlying22 Fy ?_);rintro bn bo _ ⟨bp,bq,rfl,br⟩ bu;refine C4 0 bu Jj rfl rfl rfl ?_;obtain⟨O,bv,bw⟩:=bs bm;refine BX (Yn br bv) rfl rfl (A7 func104 rfl) aM ?_;rintro _ bx _ aP ⟨am,ap,rfl,rfl,bz⟩ bA;obtain⟨bO,bB,bC⟩:=bs bw;refine MO 0 (aN.Ah aP) bB rfl rfl rfl rfl rfl rfl underlying22 Fy ?_;rintro aQ az f78 _ bD ⟨bP,bQ,rfl,bR⟩ bS bE bF bT bU;refine JS.store (v:= sV am O ap) (off:=az) 0 rfl rfl rfl bA rfl rfl Fy (by simp [Value.cells,CW]) bD (by have:=bE;simp only [Rp.n,rK,rN,rB,rP,rL] at this;show _+1<=_;omega) λbG=>?_;have bH:=bF O [sV am O ap] ⟨_,_,rfl,bz⟩;have aR:(K.1.set (Int.toNat K.2) O).length=K.1.length:=List.length_set;refine EX (L':= [(0,.slice a1 p0.length c2),(3,.slice U ((K.1.set (Int.toNat K.2) O)).length Y),(4,iV K.2),(8,iV K.2),(9,.slice a1 p0.length c2),(10,iV (p0.length:Int)),(11,.bool (decide (K.2<(p0.length:Int)))),(14,.slice U ((K.1.set (Int.toNat K.2) O)).length Y),(15,iV K.2),(16,.slice a1 p0.length c2),(17,iV K.2),(18,Ak bn bo),(19,.slice bp bj.length bq),(20,.slice am O.length ap),(21,Ak aQ az)]) ⟨rfl,by rw [aR];rfl,rfl,rfl,rfl,rfl,rfl,by rw [aR];rfl,rfl,rfl,rfl,rfl,rfl,rfl,rfl,trivial⟩ ?_;obtain⟨bI,bJ,bK⟩:=bs bC;refine zg 4 rfl (Bq bJ rfl rfl rfl ?_);refine zg 2 rfl ?_;obtain rfl:=oi bK;exact AB (bf _ _ ((K.1.set (Int.toNat K.2) O),bI) ⟨bx,U,Y,[(aQ,.cells (A8 f78 az [sV am O ap]) 28 (0,0))],rfl,rfl,(aw.Ad aP),bG,bH⟩ ay) rfl
  ·refine JL.exit rfl ?_;obtain rfl:=oi bi;obtain rfl:=be _ ay;exact AB (bb _ _ ⟨ag,U,Y,al,rfl,rfl,aw,aM,aN⟩) rfl
def f20(fu_:Nat)(p0:List Int):Option ((CM)):= some (p0,0,2685821657736338717)
theorem Z8{a1:Ao}{c2:Nat}{p0:List Int}(Z:Am rI E a1 c2 p0){fu_:Nat}{r:(CM)}(K:f20 fu_ p0=some r):AO J 20 [sV a1 p0 c2] E [] (λw E' B'=>∃(O:Nat) (U:Ao) (Y:Nat),w= Ak O 0/\B'= [(O,.cells #[sV U r.1 Y,iV r.2.1,.int .u64 ((r.2.2:Nat):Int)] 74 (0,0))]/\Am rI E' U Y r.1):=by
 refine Bj func20 λQ ap cs H ac ag=>?_;unfold f20 at K;refine zg 7 rfl (Al (v:= .agg #[sV a1 p0 c2,iV 0,.int .u64 ((2685821657736338717:Nat):Int)]) rfl (λρ h=>Da [(0,1),(1,1),(2,1)] h (Dh type74) underlying74 ⟨rfl,AQ type28,rfl,AQ type3,rfl,AQ type72,trivial⟩ rfl rfl) ?_);refine JS.box (v:= .agg #[sV a1 p0 c2,iV 0,.int .u64 ((2685821657736338717:Nat):Int)]) rfl rfl rfl ac rfl λal am=>zg 2 rfl ?_;obtain rfl:=oi K;exact A2 func20 rfl rfl (ag Az rfl ⟨al,a1,c2,rfl,(by first | rfl | simp | (simp [Value.cells])),Z⟩ am)
def f92(fu_:Nat)(p0:Int)(K:Int)(p2:Int):Option Bool:= Option.bind (if K<=p0 then(some (decide (p0<=p2))) else(some false)) λO=> some O
def f88(fu_:Nat)(p0:Int)(K:Int×Int×Int)(p2:Int):Option Int:= (Aw (p0 - 1)).bind λO=> (f92 fu_ K.1 0 O).bind λU=> Option.bind (if(!U)=true then(some true) else((Aw (p0 - 1)).bind λY=> (f92 fu_ K.2.1 0 Y).bind λZ=> some (!Z))) λac=> if ac=true then(some 3) else(if K.1=K.2.1 then(some 8) else((f92 fu_ K.2.2 1 p2).bind λag=> if(!ag)=true then(some 1) else(some 0)))
def LQ(fu_:Nat)(p0:A6)(O:Int)(K:Int):Option (Bn Int ((Int)⊕(Unit))):= (ix p0.1 O).bind λU=> if K<(U.length:Int) then((ix p0.1 O).bind λY=> (ix Y K).bind λZ=> (f92 fu_ Z 1 9).bind λac=> if(!ac)=true then(some (.done (Sum.inl 1))) else((Aw (K+1)).bind λag=> some (.more ag))) else(some (.done (Sum.inr ())))
def LF(fu_:Nat)(p0:A6)(K:Int):Option (Bn Int ((Int)⊕(Unit))):= if K<(p0.1.length:Int) then((ix p0.1 K).bind λO=> if 3<(O.length:Int) then(some (.done (Sum.inl 6))) else(Option.bind (iter (LQ fu_ p0 K) fu_ 0) λU=> Sum.elim (λr=>some (.done (Sum.inl r))) (λZ=> (Aw (K+1)).bind λY=> some (.more Y)) U)) else(some (.done (Sum.inr ())))
def Pr(fu_:Nat)(p0:A6)(K:Int):Option (Bn Int ((Int)⊕(Unit))):= if K<(p0.2.length:Int) then((ix p0.2 K).bind λU=> (f88 fu_ (p0.1.length:Int) U 9).bind λO=> if O≠0 then(some (.done (Sum.inl O))) else((Aw (K+1)).bind λY=> some (.more Y))) else(some (.done (Sum.inr ())))
def f48(fu_:Nat)(p0:A6):Option Int:= if(p0.1.length:Int)<2 then(some 7) else(if 5<(p0.1.length:Int) then(some 6) else(Option.bind (iter (LF fu_ p0) fu_ 0) λK=> Sum.elim (λr=>some r) (λU=> if 8<(p0.2.length:Int) then(some 6) else(Option.bind (iter (Pr fu_ p0) fu_ 0) λO=> Sum.elim (λr=>some r) (λY=> some 0) O)) K))
end Pal
namespace Pal
open Go Go.Conc Go.Proofs
open Go.Proofs.Tryz
variable {J:Judge Tryz.prog}{E:LH}
def f83(fu_:Nat)(p0:CM):Option (Nat×(CM)):= (Aw (p0.2.1+1)).bind λO=> Option.bind (if O<=(p0.1.length:Int) then((Aw (O - 1)).bind λU=> (ix p0.1 U).bind λY=> some (((((CN O)*11400714819323198485) % 2 ^ 64) ^^^ (((CN Y)*14029467366897019727) % 2 ^ 64)) % 2 ^ 64)) else(some (((CN O)*11400714819323198485) % 2 ^ 64))) λK=> some (((((((((((p0.2.2 ^^^ K) % 2 ^ 64)*18397679294719823053) % 2 ^ 64) ^^^ (((((p0.2.2 ^^^ K) % 2 ^ 64)*18397679294719823053) % 2 ^ 64)>>>33)) % 2 ^ 64)*14181476777654086739) % 2 ^ 64) ^^^ (((((((((p0.2.2 ^^^ K) % 2 ^ 64)*18397679294719823053) % 2 ^ 64) ^^^ (((((p0.2.2 ^^^ K) % 2 ^ 64)*18397679294719823053) % 2 ^ 64)>>>33)) % 2 ^ 64)*14181476777654086739) % 2 ^ 64)>>>29)) % 2 ^ 64)>>>11,(p0.1,O,(((((p0.2.2 ^^^ K) % 2 ^ 64)*18397679294719823053) % 2 ^ 64) ^^^ (((((p0.2.2 ^^^ K) % 2 ^ 64)*18397679294719823053) % 2 ^ 64)>>>33)) % 2 ^ 64))
theorem ZS{bk:Nat}{a1:Ao}{c2:Nat}{p0:CM}(al:Am rI E a1 c2 p0.1){fu_:Nat}{r:Nat×(CM)}(am:f83 fu_ p0=some r):AO J 83 [Ak bk 0] E [(bk,.cells #[sV a1 p0.1 c2,iV p0.2.1,.int .u64 ((p0.2.2:Nat):Int)] 74 (0,0))] (λw E' B'=>∃(ap:Ao) (aq:Nat),w= .int .u64 ((r.1:Nat):Int)/\B'= [(bk,.cells #[sV ap r.2.1 aq,iV r.2.2.1,.int .u64 ((r.2.2.2:Nat):Int)] 74 (0,0))]/\Am rI E' ap aq r.2.1):=by
 refine Bj func83 λQ aW cs H av aJ=>?_;unfold f83 at am;refine zg 8 rfl (JL.fd underlying74 AG rfl rfl rfl ?_);refine Al (v:=iV p0.2.1) rfl (λρ h=>Yl.load Ba (h _ _ rfl) (BU (j:=0) (off:=1) av rfl rfl)) ?_;obtain⟨Y,aK,aL⟩:=bs am;refine Bq aK rfl rfl rfl (zg 1 rfl ?_);refine JL.fd underlying74 AG rfl rfl rfl (BF 0 av AG λU=>?_);refine zg 5 rfl (JL.fd underlying74 AG rfl rfl rfl ?_);refine Al (v:=iV Y) rfl (λρ h=>Yl.load Ba (h _ _ rfl) (BU (j:=0) (off:=1) U rfl rfl)) (Al (v:= .int .u64 ((CN Y:Nat):Int)) rfl (λρ h=>Yl.CN underlying3 underlying72 (h _ _ rfl)) ?_);refine Al (v:= .int .u64 ((((CN Y)*11400714819323198485) % 2 ^ 64:Nat):Int)) rfl (λρ h=>MR (h _ _ rfl) (h _ _ rfl)) (zg 4 rfl ?_);refine Fj 9 [bk] ⟨⟨0,_,rfl⟩,trivial⟩ U λK=>A3 K rfl [0,1] rfl (JG.fd 2 K underlying74 AG rfl rfl rfl rfl ?_);refine Kg 3 K 1 0 U Ba ?_;refine A3 K rfl [4,5] rfl (JG.fd 6 K underlying74 Fy rfl rfl rfl rfl ?_);refine Kg 7 K 0 0 U Jj ?_;refine AN 8 K rfl rfl (λρ h s' Z=>Yl.len rfl underlying28 (h _ _ rfl)) (Dp [9] ?_);obtain⟨O,aM,aN⟩:=bs aL;refine zg 2 rfl (EN [bX bk #[sV a1 p0.1 c2,iV Y,.int .u64 ((p0.2.2:Nat):Int)] 74] [(0,Ak bk 0),(3,.int .u64 ((O:Nat):Int))] (λaX aw ay=>?_) (λaz=>?_))
 ·refine zg 5 rfl (JL.fd underlying74 Jl rfl rfl rfl ?_);refine Al (v:= .int .u64 ((p0.2.2:Nat):Int)) rfl (λρ h=>Yl.load Me (h _ _ rfl) (BU (j:=0) (off:=2) ay rfl rfl)) (zg 1 rfl ?_);refine Al (v:= .int .u64 (((p0.2.2 ^^^ O) % 2 ^ 64:Nat):Int)) rfl (λρ h=>M0 (h _ _ rfl) (h _ _ rfl)) (Al (v:= .int .u64 (((((p0.2.2 ^^^ O) % 2 ^ 64)*18397679294719823053) % 2 ^ 64:Nat):Int)) rfl (λρ h=>MR (h _ _ rfl) (h _ _ rfl)) ?_);refine zg 1 rfl (JL.fd underlying74 Jl rfl rfl rfl ?_);refine BF 0 ay Jl λac=>?_;refine zg 2 rfl (Fj 11 [bk] ⟨⟨0,_,rfl⟩,trivial⟩ ac λK=>?_);refine A3 K rfl [0,1,2] rfl (JG.fd 3 K underlying74 Jl rfl rfl rfl rfl ?_);refine Kg 4 K 2 0 ac Me ?_;refine A3 K rfl [5,6] rfl (JG.fd 7 K underlying74 Jl rfl rfl rfl rfl ?_);refine Kg 8 K 2 0 ac Me ?_;refine AN (v:= .int .u64 ((((((p0.2.2 ^^^ O) % 2 ^ 64)*18397679294719823053) % 2 ^ 64)>>>33:Nat):Int)) 9 K rfl rfl (λρ h s' Z=>KV 33 (h _ _ rfl) (h _ _ rfl) (by decide)) (AN (v:= .int .u64 (((((((p0.2.2 ^^^ O) % 2 ^ 64)*18397679294719823053) % 2 ^ 64) ^^^ (((((p0.2.2 ^^^ O) % 2 ^ 64)*18397679294719823053) % 2 ^ 64)>>>33)) % 2 ^ 64:Nat):Int)) 10 K rfl rfl (λρ h s' Z=>M0 (h _ _ rfl) (h _ _ rfl)) ?_);refine Dp [11,12,13] (zg 1 rfl ?_);refine JL.fd underlying74 Jl rfl rfl rfl (BF 0 ac Jl λaI=>?_);refine zg 5 rfl (JL.fd underlying74 Jl rfl rfl rfl ?_);refine Al (v:= .int .u64 (((((((p0.2.2 ^^^ O) % 2 ^ 64)*18397679294719823053) % 2 ^ 64) ^^^ (((((p0.2.2 ^^^ O) % 2 ^ 64)*18397679294719823053) % 2 ^ 64)>>>33)) % 2 ^ 64:Nat):Int)) rfl (λρ h=>Yl.load Me (h _ _ rfl) (BU (j:=0) (off:=2) aI rfl rfl)) (Al (v:= .int .u64 (((((((((p0.2.2 ^^^ O) % 2 ^ 64)*18397679294719823053) % 2 ^ 64) ^^^ (((((p0.2.2 ^^^ O) % 2 ^ 64)*18397679294719823053) % 2 ^ 64)>>>33)) % 2 ^ 64)*14181476777654086739) % 2 ^ 64:Nat):Int)) rfl (λρ h=>MR (h _ _ rfl) (h _ _ rfl)) ?_);refine zg 6 rfl (Al (v:= .int .u64 ((((((((((p0.2.2 ^^^ O) % 2 ^ 64)*18397679294719823053) % 2 ^ 64) ^^^ (((((p0.2.2 ^^^ O) % 2 ^ 64)*18397679294719823053) % 2 ^ 64)>>>33)) % 2 ^ 64)*14181476777654086739) % 2 ^ 64)>>>29:Nat):Int)) rfl (λρ h=>KV 29 (h _ _ rfl) (h _ _ rfl) (by decide)) ?_);refine Al (v:= .int .u64 (((((((((((p0.2.2 ^^^ O) % 2 ^ 64)*18397679294719823053) % 2 ^ 64) ^^^ (((((p0.2.2 ^^^ O) % 2 ^ 64)*18397679294719823053) % 2 ^ 64)>>>33)) % 2 ^ 64)*14181476777654086739) % 2 ^ 64) ^^^ (((((((((p0.2.2 ^^^ O) % 2 ^ 64)*18397679294719823053) % 2 ^ 64) ^^^ (((((p0.2.2 ^^^ O) % 2 ^ 64)*18397679294719823053) % 2 ^ 64)>>>33)) % 2 ^ 64)*14181476777654086739) % 2 ^ 64)>>>29)) % 2 ^ 64:Nat):Int)) rfl (λρ h=>M0 (h _ _ rfl) (h _ _ rfl)) (Al (v:= .int .u64 ((((((((((((p0.2.2 ^^^ O) % 2 ^ 64)*18397679294719823053) % 2 ^ 64) ^^^ (((((p0.2.2 ^^^ O) % 2 ^ 64)*18397679294719823053) % 2 ^ 64)>>>33)) % 2 ^ 64)*14181476777654086739) % 2 ^ 64) ^^^ (((((((((p0.2.2 ^^^ O) % 2 ^ 64)*18397679294719823053) % 2 ^ 64) ^^^ (((((p0.2.2 ^^^ O) % 2 ^ 64)*18397679294719823053) % 2 ^ 64)>>>33)) % 2 ^ 64)*14181476777654086739) % 2 ^ 64)>>>29)) % 2 ^ 64)>>>11:Nat):Int)) rfl (λρ h=>KV 11 (h _ _ rfl) (h _ _ rfl) (by decide)) ?_);refine zg 2 rfl ?_;obtain rfl:=oi aN;exact A2 func83 rfl rfl (aJ aw rfl ⟨a1,c2,rfl,rfl,(al.Ah aw)⟩ aI)
 ·refine A0 aM (λaO aP=>?_) (λaO aQ=>?_)
  ·refine Fj 14 [bk] ⟨⟨0,_,rfl⟩,trivial⟩ U λK=>A3 K rfl [0,1,2] rfl (JG.fd 3 K underlying74 Fy rfl rfl rfl rfl ?_);refine Kg 4 K 0 0 U Jj ?_;refine A3 K rfl [5,6] rfl (JG.fd 7 K underlying74 AG rfl rfl rfl rfl ?_);refine Kg 8 K 1 0 U Ba ?_;obtain⟨aY,aR,aS⟩:=bs aP;refine AN 9 K rfl rfl (λρ h s' Z=>Ed (h _ _ rfl) (h _ _ rfl) aR) ?_;obtain⟨ag,aT,aU⟩:=bs aS;refine Ei 10 al aT K underlying28 AG ?_;rintro aZ a0 _ rfl aV;refine JG.lp 11 K 0 aV U ⟨⟨0,_,rfl⟩,trivial⟩ Ba ?_;refine AN (v:= .int .u64 ((CN ag:Nat):Int)) 12 K rfl rfl (λρ h s' Z=>Yl.CN underlying3 underlying72 (h _ _ rfl)) (AN (v:= .int .u64 ((((CN ag)*14029467366897019727) % 2 ^ 64:Nat):Int)) 13 K rfl rfl (λρ h s' Z=>MR (h _ _ rfl) (h _ _ rfl)) ?_);refine Dp [14,15] (Al (v:= .int .u64 ((((((CN Y)*11400714819323198485) % 2 ^ 64) ^^^ (((CN ag)*14029467366897019727) % 2 ^ 64)) % 2 ^ 64:Nat):Int)) rfl (λρ h=>M0 (h _ _ rfl) (h _ _ rfl)) ?_);refine zg 2 rfl ?_;obtain rfl:=oi aU;exact az Az U rfl
  ·refine JL.skip ?_;obtain rfl:=oi aQ;exact az Az U rfl
def f36(fu_:Nat)(p0:CM)(O:Int):Option (Int×(CM)):= (f83 fu_ p0).bind λK=> if O<1 then(some (0,K.2)) else((NA K.1 ((CN O+1) % 2 ^ 64)).bind λU=> some (L8 U,K.2))
theorem K3{bk:Nat}{a1:Ao}{c2:Nat}{p0:CM}{K:Int}(av:Am rI E a1 c2 p0.1){fu_:Nat}{r:Int×(CM)}(O:f36 fu_ p0 K=some r):AO J 36 [Ak bk 0,iV K] E [(bk,.cells #[sV a1 p0.1 c2,iV p0.2.1,.int .u64 ((p0.2.2:Nat):Int)] 74 (0,0))] (λw E' B'=>∃(U:Ao) (Y:Nat),w=iV r.1/\B'= [(bk,.cells #[sV U r.2.1 Y,iV r.2.2.1,.int .u64 ((r.2.2.2:Nat):Int)] 74 (0,0))]/\Am rI E' U Y r.2.1):=by
 refine Bj func36 λQ aN cs H aw Z=>?_;unfold f36 at O;obtain⟨aO,ay,az⟩:=bs O;refine zg 7 rfl (Cn 0 (ZS av ay) rfl rfl (A7 func83 rfl) aw rfl ?_);rintro _ aP _ ac ⟨ag,al,rfl,rfl,am⟩ ap;refine zg 8 rfl (A0 az (λaI aJ=>?_) (λaI aK=>?_))
 ·refine zg 4 rfl ?_;obtain rfl:=oi aJ;exact A2 func36 rfl rfl (Z ac rfl ⟨ag,al,rfl,rfl,am⟩ ap)
 ·refine zg 5 rfl (Al (v:= .int .u64 ((CN K:Nat):Int)) rfl (λρ h=>Yl.CN underlying3 underlying72 (h _ _ rfl)) ?_);refine Al (v:= .int .u64 (((CN K+1) % 2 ^ 64:Nat):Int)) rfl (λρ h=>XE (h _ _ rfl) (h _ _ rfl)) ?_;obtain⟨aq,aL,aM⟩:=bs aK;refine Al (v:= .int .u64 ((aq:Nat):Int)) rfl (λρ h=>Wa (h _ _ rfl) (h _ _ rfl) aL) (Al (v:=iV (L8 aq)) rfl (λρ h=>YU underlying72 underlying3 (h _ _ rfl)) ?_);refine zg 2 rfl ?_;obtain rfl:=oi aM;exact A2 func36 rfl rfl (Z ac rfl ⟨ag,al,rfl,rfl,am⟩ ap)
def f37(fu_:Nat)(p0:CM)(K:Int)(p2:Int):Option (Int×(CM)):= (Aw (p2 - K)).bind λU=> (f36 fu_ p0 U).bind λO=> (Aw (K+O.1)).bind λY=> some (Y,O.2)
theorem Pu{bk:Nat}{a1:Ao}{c2:Nat}{p0:CM}{K:Int}{p2:Int}(Z:Am rI E a1 c2 p0.1){fu_:Nat}{r:Int×(CM)}(O:f37 fu_ p0 K p2=some r):AO J 37 [Ak bk 0,iV K,iV p2] E [(bk,.cells #[sV a1 p0.1 c2,iV p0.2.1,.int .u64 ((p0.2.2:Nat):Int)] 74 (0,0))] (λw E' B'=>∃(U:Ao) (Y:Nat),w=iV r.1/\B'= [(bk,.cells #[sV U r.2.1 Y,iV r.2.2.1,.int .u64 ((r.2.2.2:Nat):Int)] 74 (0,0))]/\Am rI E' U Y r.2.1):=by
 refine Bj func37 λQ aL cs H ac ag=>?_;unfold f37 at O;obtain⟨aM,al,am⟩:=bs O;refine zg 10 rfl (Ch al rfl rfl rfl ?_);obtain⟨aN,ap,aq⟩:=bs am;refine Cn 0 (K3 Z ap) rfl rfl KA ac rfl ?_;rintro _ aO _ av ⟨aw,ay,rfl,rfl,az⟩ aI;obtain⟨aP,aJ,aK⟩:=bs aq;refine Bq aJ rfl rfl rfl (zg 2 rfl ?_);obtain rfl:=oi aK;exact A2 func37 rfl rfl (ag av rfl ⟨aw,ay,rfl,rfl,az⟩ aI)
def f32(fu_:Nat)(p0:CM)(O:Int):Option (Bool×(CM)):= (Aw (O - 1)).bind λU=> (f36 fu_ p0 U).bind λK=> some (decide (K.1=0),K.2)
theorem Z3{bk:Nat}{a1:Ao}{c2:Nat}{p0:CM}{K:Int}(Z:Am rI E a1 c2 p0.1){fu_:Nat}{r:Bool×(CM)}(O:f32 fu_ p0 K=some r):AO J 32 [Ak bk 0,iV K] E [(bk,.cells #[sV a1 p0.1 c2,iV p0.2.1,.int .u64 ((p0.2.2:Nat):Int)] 74 (0,0))] (λw E' B'=>∃(U:Ao) (Y:Nat),w= .bool r.1/\B'= [(bk,.cells #[sV U r.2.1 Y,iV r.2.2.1,.int .u64 ((r.2.2.2:Nat):Int)] 74 (0,0))]/\Am rI E' U Y r.2.1):=by
 refine Bj func32 λQ aJ cs H ac ag=>?_;unfold f32 at O;obtain⟨aK,al,am⟩:=bs O;refine zg 8 rfl (Ch al rfl rfl rfl ?_);obtain⟨aL,ap,aq⟩:=bs am;refine Cn 0 (K3 Z ap) rfl rfl KA ac rfl ?_;rintro _ aM _ av ⟨aw,ay,rfl,rfl,az⟩ aI;refine zg 3 rfl ?_;obtain rfl:=oi aq;exact A2 func32 rfl rfl (ag av rfl ⟨aw,ay,rfl,rfl,az⟩ aI)
def f81(fu_:Nat)(p0:CM)(K:List Int):Option (Int×(CM)):= (Aw ((K.length:Int) - 1)).bind λU=> (f36 fu_ p0 U).bind λO=> (ix K O.1).bind λY=> some (Y,O.2)
theorem TL{bk:Nat}{a1:Ao}{c2:Nat}{O:Ao}{U:Nat}{p0:CM}{K:List Int}(al:Am rI E a1 c2 p0.1)(am:Am rI E O U K){fu_:Nat}{r:Int×(CM)}(Y:f81 fu_ p0 K=some r):AO J 81 [Ak bk 0,sV O K U] E [(bk,.cells #[sV a1 p0.1 c2,iV p0.2.1,.int .u64 ((p0.2.2:Nat):Int)] 74 (0,0))] (λw E' B'=>∃(Z:Ao) (ac:Nat),w=iV r.1/\B'= [(bk,.cells #[sV Z r.2.1 ac,iV r.2.2.1,.int .u64 ((r.2.2.2:Nat):Int)] 74 (0,0))]/\Am rI E' Z ac r.2.1):=by
 refine Bj func81 λQ aP cs H ap aq=>?_;unfold f81 at Y;refine zg 9 rfl (JL.ln underlying28 rfl rfl rfl ?_);obtain⟨aQ,av,aw⟩:=bs Y;refine Ch av rfl rfl rfl ?_;obtain⟨aR,ay,az⟩:=bs aw;refine Cn 0 (K3 al ay) rfl rfl KA ap rfl ?_;rintro _ aS _ ag ⟨aI,aJ,rfl,rfl,aK⟩ aL;obtain⟨aT,aM,aN⟩:=bs az;refine JS.ix (am.Ah ag) aM underlying28 AG ?_;rintro aU aV _ rfl aO;refine C4 0 aO Ba rfl rfl rfl (zg 2 rfl ?_);obtain rfl:=oi aN;exact A2 func81 rfl rfl (aq ag rfl ⟨aI,aJ,rfl,rfl,aK⟩ aL)
def f40(fu_:Nat)(p0:CM)(K:Int):Option (Dq×(CM)):= (Aw (K - 1)).bind λac=> (f36 fu_ p0 ac).bind λO=> (f37 fu_ O.2 1 9).bind λU=> (f81 fu_ U.2 ([1,2,2,3,U.1]:List Int)).bind λY=> (Aw (K - 1)).bind λag=> (f37 fu_ Y.2 1 ag).bind λZ=> (Aw (O.1+Z.1)).bind λal=> (NN al K).bind λam=> some ((O.1,am,Y.1),Z.2)
theorem Tz{bk:Nat}{a1:Ao}{c2:Nat}{p0:CM}{ac:Int}(az:Am rI E a1 c2 p0.1){fu_:Nat}{r:Dq×(CM)}(ag:f40 fu_ p0 ac=some r):AO J 40 [Ak bk 0,iV ac] E [(bk,.cells #[sV a1 p0.1 c2,iV p0.2.1,.int .u64 ((p0.2.2:Nat):Int)] 74 (0,0))] (λw E' B'=>∃(al:Ao) (am:Nat),w= .agg #[iV r.1.1,iV r.1.2.1,iV r.1.2.2]/\B'= [(bk,.cells #[sV al r.2.1 am,iV r.2.2.1,.int .u64 ((r.2.2.2:Nat):Int)] 74 (0,0))]/\Am rI E' al am r.2.1):=by
 refine Bj func40 λQ bv cs H aI aJ=>?_;unfold f40 at ag;refine zg 2 rfl (BT aI BK λbw aK=>?_);obtain⟨bx,aL,aM⟩:=bs ag;refine zg 5 rfl (Ch aL rfl rfl rfl ?_);obtain⟨O,aN,aO⟩:=bs aM;refine Cn 0 (K3 az aN) rfl rfl KA aK rfl ?_;rintro _ bz _ aP ⟨bA,bB,rfl,rfl,aQ⟩ aR;obtain⟨ap,aS,aT⟩:=bs aO;refine zg 2 rfl (Cn 0 (Pu aQ aS) rfl rfl N6 aR rfl ?_);rintro _ bC _ aU ⟨bD,bE,rfl,rfl,aV⟩ aW;refine FT (pp:=rI) [iV 1,iV 2,iV 2,iV 3,iV ap.1] [1,2,2,3,ap.1] rfl rfl rfl underlying28 AG CI (by decide) rfl rfl rfl ⟨rfl,rfl,rfl,rfl,rfl,trivial⟩ aW λbF bG aX aY=>B8 2 aX aY rfl λbH aq aZ a0=>?_;obtain⟨U,a2,a3⟩:=bs aT;refine Cn 0 (TL (aV.Ah aq) aZ a2) rfl rfl (A7 func81 rfl) a0 rfl ?_;rintro _ bI _ a4 ⟨bJ,bK,rfl,rfl,a5⟩ a6;refine Al (v:= .agg #[iV O.1,iV 0,iV U.1]) rfl (λρ h=>Da [(0,1),(1,1),(2,1)] h BK underlying27 ⟨rfl,AQ type3,rfl,AQ type3,rfl,AQ type3,trivial⟩ rfl rfl) (BT a6 BK λav a7=>?_);refine BF 3 a7 Bf λZ=>?_;refine zg 2 rfl (Fj 8 [av] ⟨⟨3,_,rfl⟩,trivial⟩ Z λK=>?_);refine JG.fd 0 K underlying27 AG rfl rfl rfl rfl (Kg 1 K 0 3 Z Ba ?_);refine A3 K rfl [2,3] rfl ?_;obtain⟨a8,a9,ba⟩:=bs a3;refine AN 4 K rfl rfl (λρ h s' bb=>Ed (h _ _ rfl) (h _ _ rfl) a9) (Dw 7 K rfl rfl ?_);obtain⟨bL,be,bf⟩:=bs ba;refine Q0 (i:=5) (vs:= [Ak bk 0,iV 1,iV a8]) 0 (by exact λx bg=>HD.mem (bks:= [av]) (by exact⟨⟨3,_,rfl⟩,trivial⟩) x (by simpa [AV] using bg)) (Pu a5 be) (by decide+kernel) rfl rfl rfl N6 rfl Z rfl ?_;rintro _ bM _ bh ⟨bi,bj,rfl,rfl,bl⟩ bm;obtain⟨bN,bn,bo⟩:=bs bf;refine AN 6 K rfl rfl (λρ h s' bb=>FR (h _ _ rfl) (h _ _ rfl) bn) (Dp [8,9,10] ?_);obtain⟨Y,bp,bq⟩:=bs bo;refine Al (v:=iV Y) rfl (λρ h=>W5 (h _ _ rfl) (h _ _ rfl) bp) (JL.fd underlying27 AG rfl rfl rfl ?_);refine BF 3 bm AG λaw=>?_;refine zg 3 rfl (Al rfl (λρ h=>H3 (vs:= [iV O.1,iV Y,iV U.1]) El Bf (h _ _ rfl) (F6 (off:=0) 3 aw rfl rfl)) ?_);refine BF 1 aw Bf λbr=>?_;refine JL.done (JS.drop 3 br rfl λay=>?_);obtain rfl:=oi bq;refine JL.ret (v:= .agg #[iV O.1,iV Y,iV U.1]) rfl rfl (Bx.list func40 rfl (vs:= [.agg #[iV O.1,iV Y,iV U.1]]) ⟨⟨_,rfl,Ld.many (vs:= [iV O.1,iV Y,iV U.1]) El Bf (F6 (off:=0) 1 ay rfl rfl)⟩,trivial⟩) (Ef 1 ay rfl λbu=>?_);exact aJ ((((aP.Ad aU).Ad aq).Ad a4).Ad bh) rfl ⟨bi,bj,rfl,rfl,bl⟩ bu
end Pal
namespace Pal
open Go Go.Conc
section
variable {P:Program}{J:Judge P}{Q:Gs_}{b:Frame}{n:Nat}{ds:Ld_}{ops:Ao_}{k:Li_}{cs:Lf_}{m fuel:Nat}{D:Nat->Bool}{listed:Array Bool}{L:Env}{s:St}{E E' H:LH}{S:List Seg}
variable {d:Option Tmp}{x y:Operand}{t u ty e:TypeId}{p:String}{af:Ae_}{g:On_}{v:Value}{i:Nat}{kd:IntKind}
theorem Take.Tk{f:FuncId}{args:Array Operand}{ats:Array TypeId}{vs:Lv_}{seg:Seg}{R:Value->LH->Seg->Prop}(j:Nat)(O:Aq E H S)(ap:AO J f vs E seg R)
  (aq:ops[i]? =some ⟨d,.call ⟨.value (.func f),args,ats⟩,ty,p,af,g⟩) (hw:AJ L ops ⟨d,.call ⟨.value (.func f),args,ats⟩,ty,p,af,g⟩=some true) (av:Bd n d=true) (hb:Dv P f=true) (aw:evs L args.toList=some vs) (U:S[j]? =some seg)
  (ay:∀v E' seg',Le E E'->R v E' seg'->Aq E' H (S.set j seg')->AH J Q b n ds ops k cs m Dc fuel (A4 listed i) (As L d v) (Aj E' H (S.set j seg'))):
  Take J Q b n ds ops k cs m Dc fuel listed L (Aj E H S) i:=by
 have Y:S.flatten.Perm (seg++(S.set j []).flatten):=(Ec (seg':=seg) U).1.trans List.perm_append_comm;have Z:Nd E H (seg++(S.set j []).flatten):=Nd.perm O Y;have az:Aj E H S=mk E (A9 (S.set j []).flatten H) seg:=by
  rw [show Aj E H S=mk E H S.flatten from rfl,EY O Y];unfold mk;rw [FP]
 have ac:=EB.Lb (ap (A9 (S.set j []).flatten H) (Nd.front Z)) (by rintro v s' ⟨E',B',_,_,_,rfl⟩;rfl);rw [← az] at ac;refine⟨_,aq,by simp [Eh],av,hw,λρ ag=>?_⟩;have aI:args.map ρ=vs.toArray:=by
  rw [← Gr ag aw];apply Array.ext';simp
 have aJ:ρ (.func f)= .func (.func f) #[] #[]:=ag _ _ rfl;simp only [execOp,resolve,bind,Sem.bind,Deferred.ofValue,aJ,pure,invoke];have e: #[]++args.map ρ++ #[]=vs.toArray:=by rw [aI];simp
 rw [e];refine IX hb ?_;rw [KF];refine⟨_,ac,?_⟩;rintro v aT ⟨⟨E',B',hle,aK,aL,rfl⟩,w,aM⟩;have e2:mk E' (A9 (S.set j []).flatten H) B'=mk E' H (B'++(S.set j []).flatten):=by unfold mk;rw [FP]
 have aN:Nd E H (S.set j []).flatten:=by
  have:=Z;rw [Nd.iff] at this ⊢;rw [List.map_append,List.nodup_append] at this;exact⟨this.1.2.1,λq aO=>this.2 q (List.mem_append_right _ aO)⟩
 have aP:Nd E' H (S.set j []).flatten:=aN.grow λx K=>by
  have aQ:=aM.d x K;have aR:A9 B' (A9 (S.set j []).flatten H) x=none:=aQ;exact(HW aR).1
 have al:Nd E' H (B'++(S.set j []).flatten):=Nd.glue aL aP;have am:(B'++(S.set j []).flatten).Perm (S.set j B').flatten:=List.perm_append_comm.trans (Ec U).2.symm;have aS:Aq E' H (S.set j B'):=Nd.perm al am;rw [e2,EY al am];exact⟨rfl,λx o K=>hle _ _ K,ay v E' B' hle aK aS⟩
end
end Pal
namespace Pal
open Go Go.Conc Go.Proofs
open Go.Proofs.Tryz
variable {J:Judge Tryz.prog}{E:LH}
def Nj(fu_:Nat)(Y:Bool×(CM))(K:(List Int)×Int×Nat×(List Int)×Int):Option (Bn ((List Int)×Int×Nat×(List Int)×Int) ((List Int)×CM)):= if 0<K.2.2.2.2 then(Option.bind (if Y.1=true then((room K.2.2.2.1 1).bind λZ=> some (Z,K.1,K.2.1,K.2.2.1)) else((f81 fu_ (K.1,K.2.1,K.2.2.1) ([1,1,2,2,3,5]:List Int)).bind λO=> (room K.2.2.2.1 O.1).bind λac=> some (ac,O.2.1,O.2.2.1,O.2.2.2))) λU=> (Aw (K.2.2.2.2 - 1)).bind λag=> some (.more (U.2.1,U.2.2.1,U.2.2.2,U.1,ag))) else(some (.done (K.2.2.2.1,K.1,K.2.1,K.2.2.1)))
def M7(fu_:Nat)(Y:Int×(CM))(Z:Bool×(CM))(K:Bc×(List Int)×Int×Nat×Int):Option (Bn (Bc×(List Int)×Int×Nat×Int) ((List Int)×Int×Nat×Bc)):= if K.2.2.2.2<Y.1 then((f36 fu_ (K.2.1,K.2.2.1,K.2.2.2.1) 3).bind λO=> Option.bind (iter (Nj fu_ Z) fu_ (O.2.1,O.2.2.1,O.2.2.2,[],O.1)) λU=> (room K.1 U.1).bind λac=> (Aw (K.2.2.2.2+1)).bind λag=> some (.more (ac,U.2.1,U.2.2.1,U.2.2.2,ag))) else(some (.done (K.2.1,K.2.2.1,K.2.2.2.1,K.1)))
def Ni(fu_:Nat)(U:Int×(CM))(K:Ax×(List Int)×Int×Nat×Int):Option (Bn (Ax×(List Int)×Int×Nat×Int) ((List Int)×Int×Nat×Ax)):= if 0<K.2.2.2.2 then((f40 fu_ (K.2.1,K.2.2.1,K.2.2.2.1) U.1).bind λO=> (C3 K.1 ([O.1]:Ax)).bind λY=> (Aw (K.2.2.2.2 - 1)).bind λZ=> some (.more (Y,O.2.1,O.2.2.1,O.2.2.2,Z))) else(some (.done (K.2.1,K.2.2.1,K.2.2.2.1,K.1)))
def f31(fu_:Nat)(p0:CM)(ac:Int)(p2:Int):Option (A6×(CM)):= (f37 fu_ p0 2 ac).bind λZ=> (f32 fu_ Z.2 3).bind λK=> Option.bind (iter (M7 fu_ Z K) fu_ ([],K.2.1,K.2.2.1,K.2.2.2,0)) λO=> (f36 fu_ (O.1,O.2.1,O.2.2.1) p2).bind λU=> Option.bind (iter (Ni fu_ Z) fu_ ([],U.2.1,U.2.2.1,U.2.2.2,U.1)) λY=> some ((O.2.2.2,Y.2.2.2),(Y.1,Y.2.1,Y.2.2.1))
theorem Zv{bk:Nat}{a1:Ao}{c2:Nat}{p0:CM}{bV:Int}{p2:Int}(cM:Am rI E a1 c2 p0.1){fu_:Nat}{r:A6×(CM)}(bW:f31 fu_ p0 bV p2=some r):AO J 31 [Ak bk 0,iV bV,iV p2] E [(bk,.cells #[sV a1 p0.1 c2,iV p0.2.1,.int .u64 ((p0.2.2:Nat):Int)] 74 (0,0))] (λw E' B'=>∃(bY:Ao) (bZ:Nat) (b0:Ao) (b1:Nat) (b2:Ao) (b3:Nat),w= .agg #[sV bY r.1.1 bZ,sV b0 r.1.2 b1]/\B'= [(bk,.cells #[sV b2 r.2.1 b3,iV r.2.2.1,.int .u64 ((r.2.2.2:Nat):Int)] 74 (0,0))]/\Am (rL rI) E' bY bZ r.1.1/\Am Ay E' b0 b1 r.1.2/\Am rI E' b2 b3 r.2.1):=by
 refine Bj func31 λQ ga cs H cN cO=>?_;unfold f31 at bW;refine zg 2 rfl (BT cN HU λO cP=>?_);refine zg 3 rfl (BT cP HU λU cQ=>?_);obtain⟨az,cR,cT⟩:=bs bW;refine zg 5 rfl (Cn 0 (Pu cM cR) rfl rfl N6 cQ rfl ?_);rintro _ gb _ cV ⟨cW,cX,rfl,rfl,cY⟩ cZ;refine Bw (S':= [[(bk,.cells #[sV cW az.2.1 cX,iV az.2.2.1,.int .u64 ((az.2.2.2:Nat):Int)] 74 (0,0))],[(O,.cells #[nS,nS] 25 (0,0))],[(U,.cells #[nS,nS] 25 (0,0))]]) rfl cZ λc0=>?_;obtain⟨a6,c1,c3⟩:=bs cT;refine zg 5 rfl (Cn 0 (Z3 cY c1) rfl rfl (A7 func32 rfl) c0 rfl ?_);rintro _ bw _ c4 ⟨c5,c6,rfl,rfl,c7⟩ c8;obtain⟨Y,c9,da⟩:=bs c3;refine zg 7 rfl (Bu (λL s=>∃(a7:LH) (bx:Ao) (bz:Nat) (ac:Ao) (ag:Nat) (ay:Seg),Jn bw H a7 [bX bk #[sV bx Y.1 bz,iV Y.2.1,.int .u64 ((Y.2.2.1:Nat):Int)] 74,bX O #[nS,nS] 25,bX U #[sV ac Y.2.2.2 ag,nS] 25,ay] [(0,Ak bk 0),(2,iV p2),(6,Ak O 0),(7,Ak U 0),(8,iV az.1)] L s (Am rI a7 bx bz Y.1/\OL 28 (rL rI) a7 ac ag ay Y.2.2.2)) ?_ ?_)
 ·rintro _ _ ⟨a7,bx,bz,ac,ag,ay,rfl,rfl,db,dc,dd,de⟩;obtain⟨gc,df,dg⟩:=bs da;refine zg 5 rfl (Cn 0 (K3 dd df) rfl rfl KA dc rfl ?_);rintro _ bA _ b4 ⟨dh,di,rfl,rfl,dj⟩ dk;obtain⟨al,dn,dp⟩:=bs dg;refine zg 2 rfl (Bu (λL s=>∃(a8:LH) (aW:Ao) (aX:Nat) (aJ:Ao) (aK:Nat) (a9:Seg),Jn bA H a8 [bX bk #[sV aW al.1 aX,iV al.2.1,.int .u64 ((al.2.2.1:Nat):Int)] 74,bX O #[nS,nS] 25,bX U #[sV ac Y.2.2.2 ag,sV aJ al.2.2.2 aK] 25,ay,a9] [(6,Ak O 0),(7,Ak U 0)] L s (Am rI a8 aW aX al.1/\OL 27 Ay a8 aJ aK a9 al.2.2.2)) ?_ ?_)
  ·rintro _ _ ⟨a8,aW,aX,aJ,aK,a9,rfl,rfl,b5,b6,dq,dr⟩;refine zg 2 rfl (Al rfl (λρ h=>H3 (vs:= [sV ac Y.2.2.2 ag,sV aJ al.2.2.2 aK]) EV CJ (h _ _ rfl) (F6 (off:=0) 2 b6 rfl rfl)) ?_);refine BF 1 b6 CJ λdt=>?_;refine Bw (S':= [[(bk,.cells #[sV aW al.1 aX,iV al.2.1,.int .u64 ((al.2.2.1:Nat):Int)] 74 (0,0))],[(O,.cells #[sV ac Y.2.2.2 ag,sV aJ al.2.2.2 aK] 25 (0,0))],[(U,.cells #[sV ac Y.2.2.2 ag,sV aJ al.2.2.2 aK] 25 (0,0))],ay,a9]) rfl dt λdu=>JL.done (B8 3 (de.Ah (b4.Ad b5)) du rfl λgd bB dv dw=>?_);refine B8 4 (dr.Ah bB) dw rfl λge bC dx dy=>JS.drop 2 dy rfl λb7=>?_;obtain rfl:=oi dp;refine JL.ret (v:= .agg #[sV ac Y.2.2.2 ag,sV aJ al.2.2.2 aK]) rfl rfl (Bx.list func31 rfl (vs:= [.agg #[sV ac Y.2.2.2 ag,sV aJ al.2.2.2 aK]]) ⟨⟨_,rfl,Ld.many (vs:= [sV ac Y.2.2.2 ag,sV aJ al.2.2.2 aK]) EV CJ (F6 (off:=0) 1 b7 rfl rfl)⟩,trivial⟩) (Ef 1 b7 rfl λdz=>?_);exact cO ((((((cV.Ad c4).Ad db).Ad b4).Ad b5).Ad bB).Ad bC) rfl ⟨ac,ag,aJ,aK,aW,aX,rfl,rfl,(dv.Ah bC),dx,(dq.Ah (bB.Ad bC))⟩ dz
  ·intro dA;refine JL.block (CP dn (λL s ap=>∃(aY:LH) (aL:Ao) (aM:Nat) (aO:Seg) (ba:Ao) (bb:Nat),Jn bA H aY [bX bk #[sV ba ap.2.1 bb,iV ap.2.2.1,.int .u64 ((ap.2.2.2.1:Nat):Int)] 74,bX O #[nS,nS] 25,bX U #[sV ac Y.2.2.2 ag,sV aL ap.1 aM] 25,ay,aO] [(0,Ak bk 0),(6,Ak O 0),(7,Ak U 0),(8,iV az.1),(13,iV ap.2.2.2.2)] L s (OL 27 Ay aY aL aM aO ap.1/\Am rI aY ba bb ap.2.1)) ⟨bA,none,0,[],dh,di,rfl,rfl,Az,dk,OL.nil,dj⟩ ?_);rintro _ _ ap ⟨aY,aL,aM,aO,ba,bb,rfl,rfl,be,bf,bg,bD⟩ dB ⟨gf,aZ⟩ bE;have b8:=aZ;unfold Ni at b8;refine zg 6 rfl (A0 b8 (λdC dD=>?_) (λdC dE=>?_))
   ·refine zg 3 rfl (EK 6 λb9=>?_);refine JG.fd 0 b9 underlying25 F4 rfl rfl rfl rfl (A3 b9 rfl [2,3] rfl ?_);obtain⟨K,ca,bF⟩:=bs dD;refine F9 (i:=1) (j:=4) rfl (by decide+kernel) ?_ ?_
    ·refine Take.y0 (v:= sV aL ap.1 aM) rfl rfl rfl (λρ h=>Yl.load IB (h _ _ rfl) (BU (j:=2) bf rfl rfl)) (JG.one (i:=4) rfl (by decide+kernel) ?_);refine Take.Tk (vs:= [Ak bk 0,iV az.1]) 0 bf (Tz bD ca) rfl rfl rfl (A7 func40 rfl) rfl rfl ?_;rintro _ gg _ cb ⟨bG,bH,rfl,rfl,dF⟩ dG;refine JG.one (i:=5) rfl (by decide+kernel) (Take.EP (pp:=Ay) [.agg #[iV K.1.1,iV K.1.2.1,iV K.1.2.2]] ([K.1]:Ax) dG rfl rfl rfl underlying23 Bf BK (by decide) rfl rfl rfl ⟨⟨_,_,rfl,rfl,⟨_,_,rfl,rfl,rfl⟩⟩,trivial⟩ λgh dH dI dJ=>?_);refine Dp [6,7,8] (Bw (S':= [[(bk,.cells #[sV bG K.2.1 bH,iV K.2.2.1,.int .u64 ((K.2.2.2:Nat):Int)] 74 (0,0))],[(O,.cells #[nS,nS] 25 (0,0))],[(U,.cells #[sV ac Y.2.2.2 ag,sV aL ap.1 aM] 25 (0,0))],ay,aO,dH]) rfl dJ λdK=>?_);refine B8 5 dI dK rfl λdL bI dM dN=>?_;obtain⟨cc,dO,dQ⟩:=bs bF;refine H9 (pp:=Ay) 4 dO rfl rfl rfl rfl rfl rfl rfl underlying23 underlying23 Bf (Dl type27) BK rfl (by decide) (by decide) (bg.Ah (cb.Ad bI)) dM dN rfl λcd ce cf dR dS=>JL.fd underlying25 F4 rfl rfl rfl (BF 2 dS F4 λdT=>?_);refine Bw (S':= [[(bk,.cells #[sV bG K.2.1 bH,iV K.2.2.1,.int .u64 ((K.2.2.2:Nat):Int)] 74 (0,0))],[(O,.cells #[nS,nS] 25 (0,0))],[(U,.cells #[sV ac Y.2.2.2 ag,sV cd cc ce] 25 (0,0))],ay,cf,[]]) rfl dT λdU=>?_;obtain⟨dV,dW,dX⟩:=bs dQ;refine zg 4 rfl (Ch dW rfl rfl rfl ?_);refine zg 2 rfl ?_;obtain rfl:=oi dX;exact AB (bE _ _ (cc,K.2.1,K.2.2.1,K.2.2.2,dV) ⟨dL,cd,ce,cf,bG,bH,rfl,rfl,((be.Ad cb).Ad bI),dU,dR,(dF.Ah bI)⟩ aZ) rfl
    ·refine Take.Tk (vs:= [Ak bk 0,iV az.1]) 0 bf (Tz bD ca) rfl rfl rfl (A7 func40 rfl) rfl rfl ?_;rintro _ gi _ bh ⟨aS,aT,rfl,rfl,cg⟩ bJ;refine F9 (i:=1) (j:=5) rfl (by decide+kernel) ?_ ?_
     ·refine Take.y0 (v:= sV aL ap.1 aM) rfl rfl rfl (λρ h=>Yl.load IB (h _ _ rfl) (BU (j:=2) bJ rfl rfl)) (JG.one (i:=5) rfl (by decide+kernel) ?_);refine Take.EP (pp:=Ay) [.agg #[iV K.1.1,iV K.1.2.1,iV K.1.2.2]] ([K.1]:Ax) bJ rfl rfl rfl underlying23 Bf BK (by decide) rfl rfl rfl ⟨⟨_,_,rfl,rfl,⟨_,_,rfl,rfl,rfl⟩⟩,trivial⟩ λgj dY dZ ea=>Dp [6,7,8] (Bw (S':= [[(bk,.cells #[sV aS K.2.1 aT,iV K.2.2.1,.int .u64 ((K.2.2.2:Nat):Int)] 74 (0,0))],[(O,.cells #[nS,nS] 25 (0,0))],[(U,.cells #[sV ac Y.2.2.2 ag,sV aL ap.1 aM] 25 (0,0))],ay,aO,dY]) rfl ea λeb=>?_);refine B8 5 dZ eb rfl λec bK ed ee=>?_;obtain⟨ci,ef,eg⟩:=bs bF;refine H9 (pp:=Ay) 4 ef rfl rfl rfl rfl rfl rfl rfl underlying23 underlying23 Bf (Dl type27) BK rfl (by decide) (by decide) (bg.Ah (bh.Ad bK)) ed ee rfl λck cm cn eh ei=>JL.fd underlying25 F4 rfl rfl rfl (BF 2 ei F4 λej=>?_);refine Bw (S':= [[(bk,.cells #[sV aS K.2.1 aT,iV K.2.2.1,.int .u64 ((K.2.2.2:Nat):Int)] 74 (0,0))],[(O,.cells #[nS,nS] 25 (0,0))],[(U,.cells #[sV ac Y.2.2.2 ag,sV ck ci cm] 25 (0,0))],ay,cn,[]]) rfl ej λek=>?_;obtain⟨el,em,en⟩:=bs eg;refine zg 4 rfl (Ch em rfl rfl rfl ?_);refine zg 2 rfl ?_;obtain rfl:=oi en;exact AB (bE _ _ (ci,K.2.1,K.2.2.1,K.2.2.2,el) ⟨ec,ck,cm,cn,aS,aT,rfl,rfl,((be.Ad bh).Ad bK),ek,eh,(cg.Ah bK)⟩ aZ) rfl
     ·refine Take.EP (pp:=Ay) [.agg #[iV K.1.1,iV K.1.2.1,iV K.1.2.2]] ([K.1]:Ax) bJ rfl rfl rfl underlying23 Bf BK (by decide) rfl rfl rfl ⟨⟨_,_,rfl,rfl,⟨_,_,rfl,rfl,rfl⟩⟩,trivial⟩ λgk eo ep co=>JG.one (i:=1) rfl (by decide+kernel) (Take.y0 (v:= sV aL ap.1 aM) rfl rfl rfl (λρ h=>Yl.load IB (h _ _ rfl) (BU (j:=2) co rfl rfl)) ?_);refine Dp [6,7,8] (Bw (S':= [[(bk,.cells #[sV aS K.2.1 aT,iV K.2.2.1,.int .u64 ((K.2.2.2:Nat):Int)] 74 (0,0))],[(O,.cells #[nS,nS] 25 (0,0))],[(U,.cells #[sV ac Y.2.2.2 ag,sV aL ap.1 aM] 25 (0,0))],ay,aO,eo]) rfl co λer=>?_);refine B8 5 ep er rfl λet bL eu ew=>?_;obtain⟨cp,ex,ey⟩:=bs bF;refine H9 (pp:=Ay) 4 ex rfl rfl rfl rfl rfl rfl rfl underlying23 underlying23 Bf (Dl type27) BK rfl (by decide) (by decide) (bg.Ah (bh.Ad bL)) eu ew rfl λcq cr ct ez eA=>JL.fd underlying25 F4 rfl rfl rfl (BF 2 eA F4 λeB=>?_);refine Bw (S':= [[(bk,.cells #[sV aS K.2.1 aT,iV K.2.2.1,.int .u64 ((K.2.2.2:Nat):Int)] 74 (0,0))],[(O,.cells #[nS,nS] 25 (0,0))],[(U,.cells #[sV ac Y.2.2.2 ag,sV cq cp cr] 25 (0,0))],ay,ct,[]]) rfl eB λeC=>?_;obtain⟨eD,eE,eF⟩:=bs ey;refine zg 4 rfl (Ch eE rfl rfl rfl ?_);refine zg 2 rfl ?_;obtain rfl:=oi eF;exact AB (bE _ _ (cp,K.2.1,K.2.2.1,K.2.2.2,eD) ⟨et,cq,cr,ct,aS,aT,rfl,rfl,((be.Ad bh).Ad bL),eC,ez,(cg.Ah bL)⟩ aZ) rfl
   ·refine JL.exit rfl ?_;obtain rfl:=oi dE;obtain rfl:=dB _ aZ;exact AB (dA _ _ ⟨aY,ba,bb,aL,aM,aO,rfl,rfl,be,bf,bD,bg⟩) rfl
 ·intro eG;refine JL.block (CP c9 (λL s Z=>∃(a0:LH) (aq:Ao) (av:Nat) (aI:Seg) (bi:Ao) (bj:Nat),Jn bw H a0 [bX bk #[sV bi Z.2.1 bj,iV Z.2.2.1,.int .u64 ((Z.2.2.2.1:Nat):Int)] 74,bX O #[nS,nS] 25,bX U #[sV aq Z.1 av,nS] 25,aI] [(0,Ak bk 0),(2,iV p2),(6,Ak O 0),(7,Ak U 0),(8,iV az.1),(9,.bool a6.1),(10,iV Z.2.2.2.2)] L s (OL 28 (rL rI) a0 aq av aI Z.1/\Am rI a0 bi bj Z.2.1)) ⟨bw,none,0,[],c5,c6,rfl,rfl,Az,c8,OL.nil,c7⟩ ?_);rintro _ _ Z ⟨a0,aq,av,aI,bi,bj,rfl,rfl,cu,cv,cw,cy⟩ eH ⟨gl,bM⟩ eI;have cz:=bM;unfold M7 at cz;refine zg 7 rfl (A0 cz (λeJ eK=>?_) (λeJ eL=>?_))
  ·obtain⟨gm,eM,eN⟩:=bs eK;refine zg 11 rfl (Cn 0 (K3 cy eM) rfl rfl KA cv rfl ?_);rintro _ bN _ cA ⟨eO,eP,rfl,rfl,eQ⟩ eR;obtain⟨aw,eS,eT⟩:=bs eN;refine zg 2 rfl (Bu (λL s=>∃(bl:LH) (bm:Ao) (bn:Nat) (bO:Seg) (a2:Ao) (a3:Nat),Jn bN H bl [bX bk #[sV a2 aw.2.1 a3,iV aw.2.2.1,.int .u64 ((aw.2.2.2:Nat):Int)] 74,bX O #[nS,nS] 25,bX U #[sV aq Z.1 av,nS] 25,aI,bO] [(0,Ak bk 0),(2,iV p2),(6,Ak O 0),(7,Ak U 0),(8,iV az.1),(9,.bool a6.1),(10,iV Z.2.2.2.2),(11,sV bm aw.1 bn)] L s (OL 3 rI bl bm bn bO aw.1/\Am rI bl a2 a3 aw.2.1)) ?_ ?_)
   ·rintro _ _ ⟨bl,bm,bn,bO,a2,a3,rfl,rfl,cB,cC,eU,eV⟩;refine JL.region (JL.fd underlying25 FN rfl rfl rfl ?_);refine Al (v:= sV aq Z.1 av) rfl (λρ h=>Yl.load F2 (h _ _ rfl) (BU (j:=2) (off:=0) cC rfl rfl)) (zg 1 rfl ?_);refine B8 4 eU cC rfl λeW bP eX eY=>Bw (S':= [[(bk,.cells #[sV a2 aw.2.1 a3,iV aw.2.2.1,.int .u64 ((aw.2.2.2:Nat):Int)] 74 (0,0))],[(O,.cells #[nS,nS] 25 (0,0))],[(U,.cells #[sV aq Z.1 av,nS] 25 (0,0))],aI,[]]) rfl eY λeZ=>?_;obtain⟨e0,e1,e3⟩:=bs eT;refine JS.app (pp:=(rL rI)) (v:= sV bm aw.1 bn) (a:=aq) (c:=av) 3 e1 rfl rfl rfl rfl (λ_=>rfl) rfl (λ_=>rfl) rfl rfl rfl underlying22 underlying22 underlying22 Fy (Dl type28) KB rfl (by decide) (by decide) (by decide) (by decide) (cw.Ah ((cA.Ad cB).Ad bP)) ⟨_,_,rfl,eX⟩ eZ rfl λgn e4 e5 e6 e7 e8=>JL.fd underlying25 FN rfl rfl rfl (BF 2 e8 FN λe9=>?_);obtain⟨fa,fb,fc⟩:=bs e3;refine zg 4 rfl (Bq fb rfl rfl rfl ?_);refine zg 2 rfl ?_;obtain rfl:=oi fc;exact AB (eI _ _ (e0,aw.2.1,aw.2.2.1,aw.2.2.2,fa) ⟨eW,e4,e5,e6,a2,a3,rfl,rfl,(((cu.Ad cA).Ad cB).Ad bP),e9,e7,(eV.Ah bP)⟩ bM) rfl
   ·intro fe;refine JL.block (CP eS (λL s am=>∃(aP:LH) (aQ:Ao) (aR:Nat) (aU:Ao) (aV:Nat) (a4:Seg),Jn bN H aP [bX bk #[sV aQ am.1 aR,iV am.2.1,.int .u64 ((am.2.2.1:Nat):Int)] 74,bX O #[nS,nS] 25,bX U #[sV aq Z.1 av,nS] 25,aI,a4] [(0,Ak bk 0),(2,iV p2),(6,Ak O 0),(7,Ak U 0),(8,iV az.1),(9,.bool a6.1),(10,iV Z.2.2.2.2),(11,sV aU am.2.2.2.1 aV),(12,iV am.2.2.2.2)] L s (Am rI aP aQ aR am.1/\OL 3 rI aP aU aV a4 am.2.2.2.1)) ⟨bN,eO,eP,none,0,[],rfl,rfl,Az,eR,eQ,OL.nil⟩ ?_);rintro _ _ am ⟨aP,aQ,aR,aU,aV,a4,rfl,rfl,cD,bQ,bR,bS⟩ ff ⟨gp,bT⟩ fg;have cE:=bT;unfold Nj at cE;refine zg 6 rfl (A0 cE (λfh fj=>?_) (λfh fk=>?_))
    ·obtain⟨aN,fl,fm⟩:=bs fj;refine zg 7 rfl (Bu (λL s=>∃(a5:LH) (bo:Ao) (bp:Nat) (bq:Seg) (br:Ao) (bu:Nat),Jn aP H a5 [bX bk #[sV br aN.2.1 bu,iV aN.2.2.1,.int .u64 ((aN.2.2.2:Nat):Int)] 74,bX O #[nS,nS] 25,bX U #[sV aq Z.1 av,nS] 25,aI,bq] [(0,Ak bk 0),(2,iV p2),(6,Ak O 0),(7,Ak U 0),(8,iV az.1),(9,.bool a6.1),(10,iV Z.2.2.2.2),(11,sV bo aN.1 bp),(12,iV am.2.2.2.2)] L s (OL 3 rI a5 bo bp bq aN.1/\Am rI a5 br bu aN.2.1)) ?_ ?_)
     ·rintro _ _ ⟨a5,bo,bp,bq,br,bu,rfl,rfl,fo,fp,fq,fs⟩;obtain⟨fu,fv,fw⟩:=bs fm;refine zg 3 rfl (Ch fv rfl rfl rfl ?_);refine zg 2 rfl ?_;obtain rfl:=oi fw;exact AB (fg _ _ (aN.2.1,aN.2.2.1,aN.2.2.2,aN.1,fu) ⟨a5,br,bu,bo,bp,bq,rfl,rfl,(cD.Ad fo),fp,fs,fq⟩ bT) rfl
     ·intro cF;refine Cz fl (λfx fy=>?_) (λfx fz=>?_)
      ·obtain⟨gq,fA,fB⟩:=bs fy;refine zg 2 rfl (JS.app (pp:=rI) (v:=iV 1) (a:=aU) (c:=aV) 4 fA rfl rfl rfl rfl (λ_=>rfl) rfl (λ_=>rfl) rfl rfl rfl underlying28 underlying28 underlying28 AG (Dl type3) CI rfl (by decide) (by decide) (by decide) (by decide) bS rfl bQ rfl λgr fC fD cG fE fF=>?_);refine Bw (S':= [[(bk,.cells #[sV aQ am.1 aR,iV am.2.1,.int .u64 ((am.2.2.1:Nat):Int)] 74 (0,0))],[(O,.cells #[nS,nS] 25 (0,0))],[(U,.cells #[sV aq Z.1 av,nS] 25 (0,0))],aI,cG]) rfl fF λfG=>zg 2 rfl ?_;obtain rfl:=oi fB;exact AB (cF _ _ ⟨aP,fC,fD,cG,aQ,aR,rfl,rfl,Az,fG,fE,bR⟩) rfl
      ·refine zg 3 rfl (FT (pp:=rI) [iV 1,iV 1,iV 2,iV 2,iV 3,iV 5] [1,1,2,2,3,5] rfl rfl rfl underlying28 AG CI (by decide) rfl rfl rfl ⟨rfl,rfl,rfl,rfl,rfl,rfl,trivial⟩ bQ λgt fH fI fJ=>?_);refine Bw (S':= [[(bk,.cells #[sV aQ am.1 aR,iV am.2.1,.int .u64 ((am.2.2.1:Nat):Int)] 74 (0,0))],[(O,.cells #[nS,nS] 25 (0,0))],[(U,.cells #[sV aq Z.1 av,nS] 25 (0,0))],aI,a4,fH]) rfl fJ λfK=>B8 5 fI fK rfl λgu bU fL fM=>?_;obtain⟨bv,fN,fO⟩:=bs fz;refine Cn 0 (TL (bR.Ah bU) fL fN) rfl rfl (A7 func81 rfl) fM rfl ?_;rintro _ fP _ cH ⟨cI,cJ,rfl,rfl,fQ⟩ fR;obtain⟨gv,fS,fT⟩:=bs fO;refine JS.app (pp:=rI) (v:=iV bv.1) (a:=aU) (c:=aV) 4 fS rfl rfl rfl rfl (λ_=>rfl) rfl (λ_=>rfl) rfl rfl rfl underlying28 underlying28 underlying28 AG (Dl type3) CI rfl (by decide) (by decide) (by decide) (by decide) (bS.Ah (bU.Ad cH)) rfl fR rfl λgw fU fW cK fX fY=>Bw (S':= [[(bk,.cells #[sV cI bv.2.1 cJ,iV bv.2.2.1,.int .u64 ((bv.2.2.2:Nat):Int)] 74 (0,0))],[(O,.cells #[nS,nS] 25 (0,0))],[(U,.cells #[sV aq Z.1 av,nS] 25 (0,0))],aI,cK,[]]) rfl fY λfZ=>zg 2 rfl ?_;obtain rfl:=oi fT;exact AB (cF _ _ ⟨fP,fU,fW,cK,cI,cJ,rfl,rfl,(bU.Ad cH),fZ,fX,fQ⟩) rfl
    ·refine JL.exit rfl ?_;obtain rfl:=oi fk;obtain rfl:=ff _ bT;exact AB (fe _ _ ⟨aP,aU,aV,a4,aQ,aR,rfl,rfl,cD,bQ,bS,bR⟩) rfl
  ·refine JL.exit rfl ?_;obtain rfl:=oi eL;obtain rfl:=eH _ bM;exact AB (eG _ _ ⟨a0,bi,bj,aq,av,aI,rfl,rfl,cu,cv,cy,cw⟩) rfl
end Pal
namespace Pal
open Go Go.Conc Go.Proofs
open Go.Proofs.Tryz
variable {J:Judge Tryz.prog}{E:LH}
end Pal
namespace Pal
open Go Go.Conc Go.Proofs
open Go.Proofs.Tryz
variable {J:Judge Tryz.prog}{E:LH}
end Pal
namespace Pal
open Go Go.Conc Go.Proofs
open Go.Proofs.Tryz
end Pal
namespace Pal
open Go Go.Conc Go.Proofs
open Go.Proofs.Tryz
variable {J:Judge Tryz.prog}{E:LH}
def NJ(fu_:Nat)(p0:Ax):Option (Ax):= (C3 ([]:Ax) p0).bind λK=> some K
theorem YW{a1:Ao}{c2:Nat}{p0:Ax}(Y:Am Ay E a1 c2 p0){fu_:Nat}{r:Ax}(K:NJ fu_ p0=some r):AO J 69 [sV a1 p0 c2] E [] (λw E' B'=>∃(O:Ao) (U:Nat) (g0:Seg),w= sV O r U/\B'=g0/\OL 27 Ay E' O U g0 r):=by
 refine Bj func69 λQ aI cs H Z ac=>?_;unfold NJ at K;refine zg 6 rfl (MM (pp:=Ay) rfl rfl rfl underlying23 Bf Z λaJ aK ag al=>?_);obtain⟨aL,am,ap⟩:=bs K;refine zg 1 rfl (H9 (pp:=Ay) 1 am rfl rfl rfl rfl rfl rfl rfl underlying23 underlying23 Bf (Dl type27) BK rfl (by decide) (by decide) ag Y al rfl λaq av aw ay az=>?_);refine zg 2 rfl ?_;obtain rfl:=oi ap;exact A2 func69 rfl rfl (ac Az rfl ⟨aq,av,aw,rfl,(by first | rfl | simp | (simp [Value.cells])),ay⟩ az)
def NO(fu_:Nat)(p0:A6):Option (A6):= (f68 fu_ p0.1).bind λK=> (NJ fu_ p0.2).bind λO=> some (K,O)
theorem X8{a1:Ao}{c2:Nat}{am:Ao}{ap:Nat}{p0:A6}(aN:Am (rL rI) E a1 c2 p0.1)(aO:Am Ay E am ap p0.2){fu_:Nat}{r:A6}(aq:NO fu_ p0=some r):AO J 21 [.agg #[sV a1 p0.1 c2,sV am p0.2 ap]] E [] (λw E' B'=>∃(av:Ao) (aw:Nat) (ay:Ao) (az:Nat) (aI:Seg),w= .agg #[sV av r.1 aw,sV ay r.2 az]/\B'=aI/\Am (rL rI) E' av aw r.1/\OL 27 Ay E' ay az aI r.2):=by
 refine Bj func21 λQ a4 cs H aP aQ=>?_;unfold NO at aq;refine zg 2 rfl (DD aP λa5 a6 al aJ aR=>?_);refine BT aR HU λa7 aS=>?_;refine zg 2 rfl (EK 5 λZ=>?_);refine JG.fd 0 Z underlying25 FN rfl rfl rfl rfl (Db 1 Z 0 aJ F2 rfl rfl rfl rfl ?_);refine JG.fd 3 Z underlying25 F4 rfl rfl rfl rfl (Db 4 Z 1 aJ IB rfl rfl rfl rfl ?_);obtain⟨ac,aT,aU⟩:=bs aq;refine JG.call (i:=2) (vs:= [sV a1 p0.1 c2]) (Zw (aN.Ah al) aT) (by decide+kernel) rfl rfl rfl (A7 func68 rfl) rfl aS ?_;rintro _ a8 _ aK ⟨K,O,rfl,rfl,aV⟩ aW;refine Dp [5,6,7] ?_;obtain⟨ag,aX,aY⟩:=bs aU;refine BX (YW (aO.Ah (al.Ad aK)) aX) rfl rfl (A7 func69 rfl) aW ?_;rintro _ a9 aZ aL ⟨U,Y,_,rfl,rfl,a0⟩ a2;refine Al (v:= .agg #[sV K ac O,sV U ag Y]) rfl (λρ h=>Da [(0,1),(1,1)] h HU underlying25 ⟨rfl,AQ type22,rfl,AQ type23,trivial⟩ rfl rfl) (BF 2 a2 CJ λaM=>?_);refine JL.done ?_;obtain rfl:=oi aY;refine JL.ret (v:= .agg #[sV K ac O,sV U ag Y]) rfl rfl (Bx.list func21 rfl (vs:= [.agg #[sV K ac O,sV U ag Y]]) ⟨⟨_,rfl,Ld.many (vs:= [sV K ac O,sV U ag Y]) EV CJ (F6 (off:=0) 2 aM rfl rfl)⟩,trivial⟩) (Ef 2 aM rfl λa3=>?_);exact aQ ((al.Ad aK).Ad aL) rfl ⟨K,O,U,Y,aZ,rfl,(by first | rfl | simp | (simp [Value.cells])),(aV.Ah aL),a0⟩ a3
def NB(fu_:Nat)(O:Ax×Int)(U:Ax×Int)(K:Int):Option (Bn Int ((Bool)⊕(Unit))):= if K<(O.1.length:Int) then((ix U.1 K).bind λY=> (ix O.1 K).bind λZ=> Option.bind (if Y.1≠Z.1 then(some true) else((ix U.1 K).bind λac=> (ix O.1 K).bind λag=> some (decide (ac.2.1≠ag.2.1)))) λal=> Option.bind (if al=true then(some true) else((ix U.1 K).bind λam=> (ix O.1 K).bind λap=> (ix O.1 K).bind λaq=> (Aw (ap.2.2+aq.2.2)).bind λav=> some (decide (am.2.2≠av)))) λaw=> if aw=true then(some (.done (Sum.inl false))) else((Aw (K+1)).bind λay=> some (.more ay))) else(some (.done (Sum.inr ())))
def f7(fu_:Nat)(p0:List Int):Option Bool:= (f20 fu_ p0).bind λal=> (f31 fu_ al 5 4).bind λK=> (NO fu_ K.1).bind λO=> (C3 O.2 K.1.2).bind λZ=> (f22 fu_ K.1).bind λU=> (f22 fu_ (O.1,Z)).bind λY=> (f24 fu_ K.1).bind λac=> (f24 fu_ (O.1,Z)).bind λag=> Option.bind (if U.2≠0 then(some true) else(some (decide (Y.2≠0)))) λam=> Option.bind (if am=true then(some true) else(some (decide (ac.2≠0)))) λap=> Option.bind (if ap=true then(some true) else(some (decide (ag.2≠0)))) λaq=> Option.bind (if aq=true then(some true) else(some (decide (ac.1≠ag.1)))) λav=> Option.bind (if av=true then(some true) else(some (decide ((U.1.length:Int)≠(Y.1.length:Int))))) λaw=> if aw=true then(some false) else(Option.bind (iter (NB fu_ U Y) fu_ 0) λay=> Sum.elim (λr=>some r) (λaI=> (f18 fu_).bind λaz=> some az) ay)
theorem X9{E H:LH}{a1:Ao}{c2:Nat}{p0:List Int}(bL:Am rI E a1 c2 p0){fu_:Nat}{r:Bool}(bf:f7 fu_ p0=some r):(GG Tryz.prog).ok (LC Tryz.prog (λv _=>v= .bool r)) (G (Frame.enter Tryz.prog 7 ([sV a1 p0 c2]:Lv_).toArray .normal) []) (mk E H []):=by
 refine Vp func7 rfl rfl (Nat.le_of_ble_eq_true rfl) ?_;have bM:Aq E H [[]]:=trivial;unfold f7 at bf;obtain⟨eh,bN,bO⟩:=bs bf;refine zg 7 rfl (BX (Z8 bL bN) rfl rfl (A7 func20 rfl) bM ?_);rintro _ ei _ ej ⟨aS,ek,el,rfl,rfl,bP⟩ bQ;obtain⟨O,bR,bS⟩:=bs bO;refine Cn 1 (Zv bP bR) rfl rfl (A7 func31 rfl) bQ rfl ?_;rintro _ em _ en ⟨eo,ep,er,et,aT,aU,rfl,rfl,a5,aV,eu⟩ bT;refine BT bT HU λbU bV=>?_;refine Bw (S':= [[],[(aS,.cells #[sV aT O.2.1 aU,iV O.2.2.1,.int .u64 ((O.2.2.2:Nat):Int)] 74 (0,0))],[(bU,.cells #[nS,nS] 25 (0,0))]]) rfl bV λbW=>BF 2 bW CJ λbY=>?_;refine DJ 2 bY rfl λew ay aW bZ=>zg 3 rfl (CL aW EV CJ rfl rfl ?_);obtain⟨az,b0,b1⟩:=bs bS;refine BX (X8 (a5.Ah ay) (aV.Ah ay) b0) rfl rfl (A7 func21 rfl) bZ ?_;rintro _ ex b2 ag ⟨aX,aY,b3,b4,_,rfl,rfl,bg,b5⟩ b6;refine BT b6 HU λa6 b7=>?_;refine Bw (S':= [[],[(aS,.cells #[sV aT O.2.1 aU,iV O.2.2.1,.int .u64 ((O.2.2.2:Nat):Int)] 74 (0,0))],[],b2,[(a6,.cells #[nS,nS] 25 (0,0))]]) rfl b7 λb8=>BF 4 b8 CJ λbh=>?_;refine zg 3 rfl (JL.fd underlying25 F4 rfl rfl rfl ?_);refine Al (v:= sV b3 az.2 b4) rfl (λρ h=>Yl.load IB (h _ _ rfl) (BU (j:=4) (off:=1) bh rfl rfl)) (Cc 1 (aW.Ah ag) underlying25 F4 IB ?_);obtain⟨aO,b9,ca⟩:=bs b1;refine H9 (pp:=Ay) 3 b9 rfl rfl rfl rfl rfl rfl rfl underlying23 underlying23 Bf (Dl type27) BK rfl (by decide) (by decide) b5 (aV.Ah (ay.Ad ag)) bh rfl λaZ a0 cb cc cd=>JL.fd underlying25 F4 rfl rfl rfl (BF 4 cd F4 λce=>?_);refine Bw (S':= [[],[(aS,.cells #[sV aT O.2.1 aU,iV O.2.2.1,.int .u64 ((O.2.2.2:Nat):Int)] 74 (0,0))],[],cb,[(a6,.cells #[sV aX az.1 aY,sV aZ aO a0] 25 (0,0))]]) rfl ce λcf=>zg 3 rfl (CL (aW.Ah ag) EV CJ rfl rfl ?_);obtain⟨al,cg,ci⟩:=bs ca;refine BX (PQ (a5.Ah (ay.Ad ag)) (aV.Ah (ay.Ad ag)) cg) rfl rfl Oa cf ?_;rintro _ ey _ aP ⟨am,ap,rfl,rfl,a2⟩ bi;refine zg 8 rfl (Al rfl (λρ h=>H3 (vs:= [sV aX az.1 aY,sV aZ aO a0]) EV CJ (h _ _ rfl) (F6 (off:=0) 4 bi rfl rfl)) ?_);refine B8 3 (cc.Ah aP) bi rfl λez U bj ck=>?_;obtain⟨aq,cm,cn⟩:=bs ci;refine BX (PQ (p0:=(az.1,aO)) (bg.Ah (aP.Ad U)) bj cm) rfl rfl Oa ck ?_;rintro _ eA _ Y ⟨av,aw,rfl,rfl,a7⟩ co;refine Bw (S':= [[],[(aS,.cells #[sV aT O.2.1 aU,iV O.2.2.1,.int .u64 ((O.2.2.2:Nat):Int)] 74 (0,0))],[],[],[(a6,.cells #[sV aX az.1 aY,sV aZ aO a0] 25 (0,0))],[],[]]) rfl co λcp=>zg 8 rfl (CL (aW.Ah (((ag.Ad aP).Ad U).Ad Y)) EV CJ rfl rfl ?_);obtain⟨a3,cq,cr⟩:=bs cn;refine CU (Py (a5.Ah ((((ay.Ad ag).Ad aP).Ad U).Ad Y)) (aV.Ah ((((ay.Ad ag).Ad aP).Ad U).Ad Y)) cq) rfl rfl N7 cp λeB Z bl=>zg 8 rfl (Al rfl (λρ h=>H3 (vs:= [sV aX az.1 aY,sV aZ aO a0]) EV CJ (h _ _ rfl) (F6 (off:=0) 4 bl rfl rfl)) ?_);obtain⟨aQ,ct,cu⟩:=bs cr;refine CU (Py (p0:=(az.1,aO)) (bg.Ah (((aP.Ad U).Ad Y).Ad Z)) (bj.Ah (Y.Ad Z)) ct) rfl rfl N7 bl λeC aI bm=>?_;obtain⟨cv,cw,cy⟩:=bs cu;refine zg 12 rfl (Fi 6 20 [] [(5,sV am al.1 ap),(7,sV av aq.1 aw),(9,iV a3.1),(10,iV a3.2),(11,iV aQ.1),(12,iV aQ.2),(50,.bool cv)] (λeD aJ bn=>?_) (λbo=>?_))
 ·obtain⟨cz,cA,cB⟩:=bs cy;refine zg 1 rfl (Fi 10 16 [] [(5,sV am al.1 ap),(7,sV av aq.1 aw),(9,iV a3.1),(11,iV aQ.1),(12,iV aQ.2),(54,.bool cz)] (λeE aK bp=>?_) (λbq=>?_))
  ·obtain⟨cC,cD,cE⟩:=bs cB;refine zg 1 rfl (Fi 14 12 [] [(5,sV am al.1 ap),(7,sV av aq.1 aw),(9,iV a3.1),(11,iV aQ.1),(58,.bool cC)] (λeF aL br=>?_) (λbu=>?_))
   ·obtain⟨cF,cG,cH⟩:=bs cE;refine zg 1 rfl (Fi 19 7 [] [(5,sV am al.1 ap),(7,sV av aq.1 aw),(63,.bool cF)] (λa8 aM bv=>?_) (λbw=>?_))
    ·obtain⟨cI,cJ,cK⟩:=bs cH;refine zg 1 rfl (H6 [] (λL s=>∃(a9:LH),Jm a8 H a9 [] [(5,sV am al.1 ap),(7,sV av aq.1 aw),(70,.bool cI)] L s) ?_ ?_)
     ·rintro _ _ ⟨a9,rfl,rfl,aN,cM⟩;refine JL.done (Cz cK (λcN cO=>?_) (λcN cP=>?_))
      ·refine zg 4 rfl ?_;obtain rfl:=oi cO;exact HZ rfl (JO.end (v:= .bool false) rfl (by decide+kernel) func7 rfl rfl rfl)
      ·obtain⟨bx,cQ,bz⟩:=bs cP;refine zg 6 rfl (Bu (λL s=>∃(bA:Unit) (bB:LH),bx=Sum.inr bA/\Jm a9 H bB [] [] L s) ?_ ?_)
       ·rintro _ _ ⟨bA,bB,rfl,rfl,rfl,eG,cR⟩;have cT:=elim_inr bz;obtain⟨cV,cW,cX⟩:=bs cT;refine zg 2 rfl (CU (Zx cW) rfl rfl (A7 func18 rfl) cR λeH eI cY=>?_);refine Bw (S':= [[]]) rfl cY λeJ=>zg 2 rfl ?_;obtain rfl:=oi cX;exact HZ rfl (JO.end (v:= .bool cV) rfl (by decide+kernel) func7 rfl rfl rfl)
       ·intro cZ;refine JL.block (DO cQ (λaR=> []) (λaR=> [(5,sV am al.1 ap),(7,sV av aq.1 aw),(13,iV aR)]) Az cM ?_);rintro aR ba ac bC bD ⟨eK,a4⟩ c0;have bE:=a4;unfold NB at bE;refine zg 5 rfl (JL.ln underlying23 rfl rfl rfl ?_);refine zg 2 rfl (A0 bE (λc1 c3=>?_) (λc1 c4=>?_))
        ·refine zg 4 rfl (EK 43 λK=>?_);refine A3 K rfl [0,1] rfl ?_;obtain⟨c5,c6,c7⟩:=bs c3;refine Ei 2 (a7.Ah (((((((Z.Ad aI).Ad aJ).Ad aK).Ad aL).Ad aM).Ad aN).Ad ac)) c6 K underlying23 Bf ?_;rintro eL eM _ ⟨_,_,rfl,rfl,⟨_,_,rfl,rfl,rfl⟩⟩ c8;refine JG.fd 3 K underlying27 AG rfl rfl rfl rfl (Db 4 K 0 c8 Ba rfl rfl rfl rfl ?_);refine A3 K rfl [5,6] rfl ?_;obtain⟨c9,da,db⟩:=bs c7;refine Ei 7 (a2.Ah (((((((((U.Ad Y).Ad Z).Ad aI).Ad aJ).Ad aK).Ad aL).Ad aM).Ad aN).Ad ac)) da K underlying23 Bf ?_;rintro eN eO _ ⟨_,_,rfl,rfl,⟨_,_,rfl,rfl,rfl⟩⟩ dc;refine JG.fd 8 K underlying27 AG rfl rfl rfl rfl (Db 9 K 0 dc Ba rfl rfl rfl rfl ?_);refine A3 K rfl [10,11] rfl ?_;obtain⟨bF,bG,dd⟩:=bs db;refine FQ 19 #[true,true,true,true,true,true,true,true,true,true,true,true,true,true,true,true,true,true,true,true,true,true,true,true,false,false,false,false,false,false,false,false,false,false,false,false,false,false,false,false,false,false,false] (λL s=>L= [(5,sV am al.1 ap),(7,sV av aq.1 aw),(13,iV aR),(100,.bool bF)]/\s=Aj ba H []) ?_ ?_
         ·rintro _ _ ⟨rfl,rfl⟩;refine Dw 24 K rfl rfl ?_;obtain⟨de,bH,df⟩:=bs dd;refine FQ 0 #[true,true,true,true,true,true,true,true,true,true,true,true,true,true,true,true,true,true,true,true,true,true,true,true,true,true,true,true,true,true,true,true,true,true,true,true,true,true,true,true,true,true,true] (λL s=>L= [(5,sV am al.1 ap),(7,sV av aq.1 aw),(13,iV aR),(119,.bool de)]/\s=Aj ba H []) ?_ ?_
          ·rintro _ _ ⟨rfl,rfl⟩;refine AH.fin (by decide+kernel) (Cz df (λdg dh=>?_) (λdg di=>?_))
           ·refine zg 4 rfl ?_;obtain rfl:=oi dh;obtain rfl:=bD _ a4;have dj:=elim_inl bz;obtain rfl:=oi dj;exact HZ rfl (JO.end (v:= .bool false) rfl (by decide+kernel) func7 rfl rfl rfl)
           ·obtain⟨dk,dn,dp⟩:=bs di;refine zg 4 rfl (Bq dn rfl rfl rfl ?_);refine zg 2 rfl ?_;obtain rfl:=oi dp;exact c0 dk ac bC rfl a4
          ·intro bI;refine Ux (c:=bF) (i:=101) rfl (λbb=>?_) (λbb=>?_)
           ·have dq:=ip bH bb;refine A3 K rfl [25,26,27,28,29,30,31,32,33,34,35,36,37,38,39,40,41,42] rfl ?_;obtain rfl:=oi dq;refine Di ?_ (bI _ _ ⟨rfl,rfl⟩);exact⟨rfl,rfl,rfl,rfl,trivial⟩
           ·have dr:=ib bH bb;refine A3 K rfl [25,26] rfl ?_;obtain⟨eP,dt,du⟩:=bs dr;refine Ei 27 (a7.Ah (((((((Z.Ad aI).Ad aJ).Ad aK).Ad aL).Ad aM).Ad aN).Ad ac)) dt K underlying23 Bf ?_;rintro eQ eR _ ⟨_,_,rfl,rfl,⟨_,_,rfl,rfl,rfl⟩⟩ dv;refine JG.fd 28 K underlying27 AG rfl rfl rfl rfl ?_;refine Db 29 K 2 dv Ba rfl rfl rfl rfl ?_;refine A3 K rfl [30,31] rfl ?_;obtain⟨eS,dw,dx⟩:=bs du;refine Ei 32 (a2.Ah (((((((((U.Ad Y).Ad Z).Ad aI).Ad aJ).Ad aK).Ad aL).Ad aM).Ad aN).Ad ac)) dw K underlying23 Bf ?_;rintro eT eU _ ⟨_,_,rfl,rfl,⟨_,_,rfl,rfl,rfl⟩⟩ dy;refine JG.fd 33 K underlying27 AG rfl rfl rfl rfl ?_;refine Db 34 K 2 dy Ba rfl rfl rfl rfl ?_;refine A3 K rfl [35,36] rfl ?_;obtain⟨eV,dz,dA⟩:=bs dx;refine Ei 37 (a2.Ah (((((((((U.Ad Y).Ad Z).Ad aI).Ad aJ).Ad aK).Ad aL).Ad aM).Ad aN).Ad ac)) dz K underlying23 Bf ?_;rintro eW eX _ ⟨_,_,rfl,rfl,⟨_,_,rfl,rfl,rfl⟩⟩ dB;refine JG.fd 38 K underlying27 AG rfl rfl rfl rfl ?_;refine Db 39 K 2 dB Ba rfl rfl rfl rfl ?_;obtain⟨eY,dC,dD⟩:=bs dA;refine AN 40 K rfl rfl (λρ h s' eZ=>FR (h _ _ rfl) (h _ _ rfl) dC) ?_;refine A3 K rfl [41,42] rfl ?_;obtain rfl:=oi dD;refine Di ?_ (bI _ _ ⟨rfl,rfl⟩);exact⟨rfl,rfl,rfl,rfl,trivial⟩
         ·intro bJ;refine GC (q:=c5.1≠c9.1) (i:=88) rfl (λbe=>?_) (λbe=>?_)
          ·have dE:=ip bG be;refine A3 K rfl [12,13,14,15,16,17,18,19,20,21,22,23] rfl ?_;obtain rfl:=oi dE;refine Di ?_ (bJ _ _ ⟨rfl,rfl⟩);exact⟨rfl,rfl,rfl,rfl,trivial⟩
          ·have dF:=im bG be;refine A3 K rfl [12,13] rfl ?_;obtain⟨e0,dG,dH⟩:=bs dF;refine Ei 14 (a7.Ah (((((((Z.Ad aI).Ad aJ).Ad aK).Ad aL).Ad aM).Ad aN).Ad ac)) dG K underlying23 Bf ?_;rintro e1 e3 _ ⟨_,_,rfl,rfl,⟨_,_,rfl,rfl,rfl⟩⟩ dI;refine JG.fd 15 K underlying27 AG rfl rfl rfl rfl ?_;refine Db 16 K 1 dI Ba rfl rfl rfl rfl ?_;refine A3 K rfl [17,18] rfl ?_;obtain⟨e4,dJ,dK⟩:=bs dH;refine Ei 19 (a2.Ah (((((((((U.Ad Y).Ad Z).Ad aI).Ad aJ).Ad aK).Ad aL).Ad aM).Ad aN).Ad ac)) dJ K underlying23 Bf ?_;rintro e5 e6 _ ⟨_,_,rfl,rfl,⟨_,_,rfl,rfl,rfl⟩⟩ dL;refine JG.fd 20 K underlying27 AG rfl rfl rfl rfl ?_;refine Db 21 K 1 dL Ba rfl rfl rfl rfl ?_;refine A3 K rfl [22,23] rfl ?_;obtain rfl:=oi dK;refine Di ?_ (bJ _ _ ⟨rfl,rfl⟩);exact⟨rfl,rfl,rfl,rfl,trivial⟩
        ·refine JL.exit rfl ?_;obtain rfl:=oi c4;have dM:bx=(Sum.inr ()):=(bD _ a4).symm;exact AB (cZ _ _ ⟨(),ba,dM,rfl,rfl,ac,bC⟩) rfl
     ·intro bK;refine EI 64 cJ (λdN dO=>?_) (λdN dQ=>?_)
      ·refine zg 6 rfl ?_;obtain rfl:=oi dO;exact AB (bK _ _ ⟨a8,rfl,rfl,Az,bv⟩) rfl
      ·refine zg 1 rfl (JL.ln underlying23 rfl rfl rfl ?_);refine zg 1 rfl (JL.ln underlying23 rfl rfl rfl ?_);refine zg 2 rfl ?_;obtain rfl:=oi dQ;exact AB (bK _ _ ⟨a8,rfl,rfl,Az,bv⟩) rfl
    ·refine EI 59 cG (λdR dS=>?_) (λdR dT=>?_)
     ·refine zg 4 rfl ?_;obtain rfl:=oi dS;exact bw Az br rfl
     ·refine zg 4 rfl ?_;obtain rfl:=oi dT;exact bw Az br rfl
   ·refine EI 55 cD (λdU dV=>?_) (λdU dW=>?_)
    ·refine zg 3 rfl ?_;obtain rfl:=oi dV;exact bu Az bp rfl
    ·refine zg 3 rfl ?_;obtain rfl:=oi dW;exact bu Az bp rfl
  ·refine EI 51 cA (λdX dY=>?_) (λdX dZ=>?_)
   ·refine zg 3 rfl ?_;obtain rfl:=oi dY;exact bq Az bn rfl
   ·refine zg 3 rfl ?_;obtain rfl:=oi dZ;exact bq Az bn rfl
 ·refine Ja 47 cw (λea eb=>?_) (λea ec=>?_)
  ·refine zg 3 rfl (JS.drop 1 bm rfl λed=>?_);refine JS.drop 4 ed rfl λee=>?_;obtain rfl:=oi eb;exact bo Az ee rfl
  ·refine zg 3 rfl (JS.drop 1 bm rfl λef=>?_);refine JS.drop 4 ef rfl λeg=>?_;obtain rfl:=oi ec;exact bo Az eg rfl
end Pal
namespace Pal
def BL{α:Type}(o:Option α)(Q:α->Prop):Prop:=∃a,o=some a/\Q a
section
variable {α β:Type}{Q R:α->Prop}
theorem AI{a:α}(h:Q a):BL (some a) Q:=⟨a,rfl,h⟩
theorem BL.Ah{o:Option α}(h:BL o R)(k:∀a,R a->Q a):BL o Q:=let ⟨a,K,O⟩:=h;⟨a,K,k a O⟩
theorem BJ{o:Option β}{f:β->Option α}{S:β->Prop}(h:BL o S)(k:∀b,S b->BL (f b) Q):BL (o.bind f) Q:=by
 obtain⟨b,rfl,hb⟩:=h;obtain⟨a,K,O⟩:=k b hb;exact⟨a,K,O⟩
theorem BE{o:Option β}{f:β->Option α}{b:β}(h:o=some b)(k:BL (f b) Q):BL (o.bind f) Q:=by subst h;exact k
theorem BL.aH{f:Int->Option α}{x:Int}(K: -9223372036854775808<=x)(O:x<=9223372036854775807)(k:BL (f x) Q):BL ((Aw x).bind f) Q:=BE (if_pos ⟨K,O⟩) k
theorem K2{xs:List β}{i:Int}{m:Nat}{b:β}(h:i=(m:Int))(hb:xs[m]? =some b):ix xs i=some b:=by subst h;simpa [ix] using hb
theorem Dk{f:β->Option α}{xs:List β}{i:Int}{m:Nat}(h:i=(m:Int))(hm:m<xs.length)(k:BL (f xs[m]) Q):BL ((ix xs i).bind f) Q:=BE (K2 h (List.getElem?_eq_getElem hm)) k
theorem Lu{f:List β->Option α}{xs:List β}{x:β}(h:xs.length+1<=2 ^ 40)(k:BL (f (xs++ [x])) Q):BL ((room xs x).bind f) Q:=BE (if_pos h) k
theorem Dj{c:Prop} [Decidable c] {x y:Option α}(K:c->BL x Q)(O:¬c->BL y Q):BL (if c then x else y) Q:=by
 by_cases h:c
 ·rw [if_pos h];exact K h
 ·rw [if_neg h];exact O h
theorem DK{c:Prop} [Decidable c] {x y:Option α}(h:c)(k:BL x Q):BL (if c then x else y) Q:=by rw [if_pos h];exact k
theorem C9{c:Prop} [Decidable c] {x y:Option α}(h:¬c)(k:BL y Q):BL (if c then x else y) Q:=by rw [if_neg h];exact k
def Bn.sat{S A:Type}(I:S->Prop)(Q:A->Prop):Bn S A->Prop
 | .more s=>I s
 | .done a=>Q a
theorem OM{S:Type}{body:S->Option (Bn S α)}(I:Nat->S->Prop)(round:∀m s,I m s->BL (body s) (Bn.sat (λs'=>∃m',m'<m/\I m' s') Q)):
  ∀{m fuel:Nat} {s:S},I m s->m<fuel->BL (iter body fuel s) Q:=by
 intro m
 induction m using Nat.strongRecOn with
 | _ m O=>
  intro fuel s U ag;obtain⟨fuel,rfl⟩:∃k,fuel=k+1:=⟨fuel - 1,by omega⟩;obtain⟨st,Y,K⟩:=round m s U;unfold Pal.iter;rw [Y];cases st with
  | more s'=>
   obtain⟨m',Z,ac⟩:=K;exact O m' Z ac (by omega)
  | done a=>exact⟨a,rfl,K⟩
end
end Pal
namespace Pal
theorem Fg{S A:Type}{body:S->Option (Bn S A)}{Q:A->Prop}{K:S}{F:Nat}(n:Nat)(I:Nat->S->Prop)(Y:I 0 K)(ac:n<F)
  (round:∀i s,i<n->I i s->BL (body s) (Bn.sat (I (i+1)) Q)) (last:∀s,I n s->BL (body s) (λst=>∃a,st= .done a/\Q a)):BL (Pal.iter body F K) Q:=by
 refine OM (λm s=>∃i,i<=n/\m=n - i/\I i s) ?_ (m:=n - 0) ⟨0,Nat.zero_le _,rfl,Y⟩ (by omega);rintro m s ⟨i,hi,rfl,O⟩;rcases Nat.lt_or_ge i n with Z | ag
 ·refine(round i s Z O).Ah ?_;intro st U;cases st with
  | more s'=>exact⟨n - (i+1),by omega,i+1,by omega,rfl,U⟩
  | done a=>exact U
 ·obtain rfl:i=n:=by omega
  refine(last s O).Ah ?_;rintro st ⟨a,rfl,h⟩;exact h
theorem Ff{α:Type}{o:Option α}{a:α}(h:BL o (λx=>x=a)):o=some a:=by obtain⟨x,K,rfl⟩:=h;exact K
theorem BQ{α:Type}{Q:α->Prop}{f:Int->Option α}{x:Int}(y:Int)(h:x=y)(K: -9223372036854775808<=y)(O:y<=9223372036854775807)(k:BL (f y) Q):BL ((Aw x).bind f) Q:=by subst h;exact BL.aH K O k
theorem BL.L5{α β:Type}{Q:α->Prop}{f:List β->Option α}{xs ys:List β}(h:xs.length+ys.length<1000)(k:BL (f (xs++ys)) Q):BL ((C3 xs ys).bind f) Q:=BE (by unfold C3;rw [if_pos (by omega)]) k
abbrev Jf:=List Int×Int×Nat
def BG(k:Nat)(b:Jf):Prop:=0<=b.2.1/\b.2.1<=(k:Int)
theorem BG.Ah{k k':Nat}{b:Jf}(h:BG k b)(K:k<=k'):BG k' b:=⟨h.1,by have:=h.2;omega⟩
theorem YY{F k:Nat}{b:Jf}(hb:BG k b)(K:k<1000000):BL (f83 F b) (λr=>r.1<2 ^ 64/\BG (k+1) r.2):=by
 obtain⟨O,U⟩:=hb;unfold f83;refine BQ (b.2.1+1) rfl (by omega) (by omega) ?_;have key:∀x:Nat,(x % 2 ^ 64)>>>11<2 ^ 64:=λx=>Nat.lt_of_le_of_lt (Nat.shiftRight_le _ _) (Nat.mod_lt _ (Nat.two_pow_pos 64));refine BJ (S:=λ_=>True) ?_ ?_
 ·refine Dj (λh=>?_) (λh=>?_)
  ·refine BQ b.2.1 (by omega) (by omega) (by omega) (Dk (m:=b.2.1.toNat) (by omega) (by omega) ?_);exact AI trivial
  ·exact AI trivial
 ·intro x _;exact AI ⟨key _,by simp only;omega,by simp only;omega⟩
theorem VQ{a:Nat}(h:a<2 ^ 62):L8 a=(a:Int):=by
 unfold L8;exact Jq (by omega)
theorem KX{F k:Nat}{b:Jf}{m:Int}(hb:BG k b)(O:k<1000000)(hm:m<1000000):BL (f36 F b m) (λr=>0<=r.1/\(r.1<=m∨r.1=0)/\BG (k+1) r.2):=by
 unfold f36;refine BJ (YY hb O) ?_;rintro⟨x,b'⟩ ⟨Z,K⟩;refine Dj (λh=>?_) (λh=>?_)
 ·exact AI ⟨by simp,.inr rfl,K⟩
 ·have U:CN m=m.toNat:=by unfold CN;omega
  have e2:(CN m+1) % 2 ^ 64=m.toNat+1:=by rw [U];omega
  have Y:x % (m.toNat+1)<m.toNat+1:=Nat.mod_lt _ (by omega);refine BE (b:=x % (m.toNat+1)) (by rw [e2];unfold NA;rw [if_neg (by omega)]) ?_;refine AI ?_;simp only;generalize x % (m.toNat+1)=z at Y ⊢;rw [VQ (by omega)];exact⟨by omega,.inl (by omega),K⟩
theorem Pd{F k:Nat}{b:Jf}{lo hi:Int}(hb:BG k b)(O:k<1000000)(Y:0<=lo)(Z:lo<=hi)(ac:hi<1000):BL (f37 F b lo hi) (λr=>lo<=r.1/\r.1<=hi/\BG (k+1) r.2):=by
 unfold f37;refine BQ (hi - lo) rfl (by omega) (by omega) (BJ (KX hb O (by omega)) ?_);rintro⟨x,b'⟩ ⟨U,g2,K⟩;simp only at U g2 K ⊢;exact BQ (lo+x) rfl (by omega) (by omega) (AI ⟨by simp only;omega,by simp only;omega,K⟩)
theorem Yu{F k:Nat}{b:Jf}{m:Int}(hb:BG k b)(K:k<1000000)(U:1<=m)(Y:m<1000):BL (f32 F b m) (λr=>BG (k+1) r.2):=by
 unfold f32;refine BQ (m - 1) rfl (by omega) (by omega) (BJ (KX hb K (by omega)) ?_);rintro⟨x,b'⟩ ⟨Z,g2,O⟩;exact AI O
theorem SZ{F k:Nat}{b:Jf}{l:List Int}(hb:BG k b)(U:k<1000000)(Z:0<l.length)(ac:l.length<1000):BL (f81 F b l) (λr=>r.1∈l/\BG (k+1) r.2):=by
 unfold f81;refine BQ ((l.length - 1:Nat):Int) (by omega) (by omega) (by omega) (BJ (KX hb U (by omega)) ?_);rintro⟨x,b'⟩ ⟨Y,g2,K⟩;simp only at Y g2 K ⊢;have O:x.toNat<l.length:=by omega
 exact Dk (m:=x.toNat) (by omega) O (AI ⟨List.getElem_mem O,K⟩)
abbrev DT:=Int×Int×Int
abbrev OW:=Bc×List DT
structure NV (n:Nat) (o:OW):Prop where
 l1:o.1.length<=n
 n1:∀x∈o.1,x.length<=n
 l2:o.2.length<=n
theorem YM{F:Nat}{l:Bc}(ag:100<F)(al:l.length<=40)(U:∀x∈l,x.length<=40):f68 F l=some l:=by
 refine Ff ?_;unfold f68;refine BE (b:=List.replicate l.length []) ?_ ?_
 ·unfold Jz;rw [if_pos (by omega)];rfl
 refine BJ (S:=λr=>r=l) ?_ (λr Y=>AI Y);refine Fg l.length (λi s=>s.2=(i:Int)/\s.1=l.take i++List.replicate (l.length - i) []) ⟨rfl,by simp⟩ (by omega) ?_ ?_
 ·rintro i ⟨o,c⟩ hi ⟨K,O⟩;simp only at K O;subst K;subst O;unfold Ng;refine DK (by simp only;omega) (Dk (m:=i) rfl hi ?_);refine BE (b:=l[i]) ?_ ?_
  ·unfold f104;have:C3 ([]:List Int) l[i]=some l[i]:=by unfold C3;rw [if_pos (by have:=U _ (List.getElem_mem hi);simp;omega)];rfl
   rw [this];rfl
  have Z:(l.take i).length=i:=by rw [List.length_take];omega
  refine Dk (m:=i) rfl (by simp;omega) (BQ ((i+1:Nat):Int) (by simp) (by omega) (by omega) ?_);refine AI ⟨rfl,?_⟩;simp only;rw [show Int.toNat (i:Int)=i by omega,List.set_append,if_neg (by omega),Z,Nat.sub_self];obtain⟨k,ac⟩:∃k,l.length - i=k+1:=⟨l.length - i - 1,by omega⟩;rw [ac,List.replicate_succ,List.set_cons_zero,List.take_add_one,List.getElem?_eq_getElem hi,show l.length - (i+1)=k by omega];simp only [Option.toList_some,List.append_assoc,List.cons_append,List.nil_append]
 ·rintro⟨o,c⟩ ⟨K,O⟩;simp only at K O;subst K;subst O;unfold Ng;exact C9 (by simp) (AI ⟨_,rfl,by simp⟩)
end Pal
namespace Pal
theorem Nn(F:Nat)(a lo hi:Int):f92 F a lo hi=some (decide (lo<=a/\a<=hi)):=by
 unfold f92;by_cases h:lo<=a
 ·rw [if_pos h];simp [h]
 ·rw [if_neg h];simp [h]
theorem We{F:Nat}{o:OW}{i:Int}{l:List Int}(h:ix o.1 i=some l):Np F l=LQ F o i:=by
 funext j;unfold Np LQ;rw [h];rfl
theorem Wp(F:Nat)(o:OW):M8 F o=LF F o:=by
 funext i;unfold M8 LF;split
 ·rcases h:ix o.1 i with _ | l
  ·rfl
  ·simp only [Option.bind_some];rw [We h]
 ·rfl
theorem Yj(F:Nat)(o:OW):f47 F o=f48 F o:=by
 unfold f47 f48;rw [Wp];rfl
end Pal
namespace Pal
def VD(n:Nat)(d:DT):Prop:=0<=d.1/\d.1<(n:Int)/\0<=d.2.1/\d.2.1<(n:Int)/\d.1≠d.2.1/\1<=d.2.2/\d.2.2<=9
def CS(x:List Int):Prop:=x.length<=3/\∀c∈x,1<=c/\c<=9
structure VO (o:OW):Prop where
 n2:2<=o.1.length
 n5:o.1.length<=5
 cs:∀x∈o.1,CS x
 d8:o.2.length<=8
 ds:∀d∈o.2,VD o.1.length d
theorem VO.nv{o:OW}(h:VO o):NV 40 o:=⟨by have:=h.n5;omega,λx K=>by have:=(h.cs x K).1;omega,by have:=h.d8;omega⟩
theorem OS{α:Type}{P:α->Prop}{l:List α}{i:Nat}(hi:i<l.length)(h:∀x∈l.take i,P x)(k:P l[i]):∀x∈l.take (i+1),P x:=by
 intro x K;rw [List.take_add_one,List.getElem?_eq_getElem hi] at K;simp only [Option.toList_some,List.mem_append,List.mem_singleton] at K;rcases K with K | rfl
 ·exact h x K
 ·exact k
theorem X5{F:Nat}{d:DT}{n:Nat}(Y:n<1000):BL (f88 F (n:Int) d 9) (λr=>r=0↔VD n d):=by
 unfold f88;refine BQ ((n:Int) - 1) rfl (by omega) (by omega) (BE (Nn _ _ _ _) ?_);refine BJ (S:=λc=>c=true↔¬((0<=d.1/\d.1<(n:Int))/\0<=d.2.1/\d.2.1<(n:Int))) ?_ ?_
 ·refine Dj (λh=>AI ?_) (λh=>?_)
  ·simp at h;simp;omega
  ·refine BQ ((n:Int) - 1) rfl (by omega) (by omega) (BE (Nn _ _ _ _) ?_);refine AI ?_;simp at h;simp;omega
 ·intro c O;refine Dj (λh=>AI ?_) (λh=>?_)
  ·have:=O.1 h;unfold VD;constructor
   ·intro h;cases h
   ·intro h;omega
  have Z:¬¬_:=λk=>h (O.2 k);refine Dj (λU=>AI ?_) (λU=>?_)
  ·unfold VD;constructor
   ·intro h;cases h
   ·intro h;omega
  refine BE (Nn _ _ _ _) (Dj (λK=>AI ?_) (λK=>AI ?_))
  ·simp at K;unfold VD;constructor
   ·intro h;cases h
   ·intro h;omega
  ·simp at K;unfold VD;constructor
   ·intro h;omega
   ·intro h;rfl
theorem Yk{F:Nat}{o:OW}(Z:100<F)(h:NV 40 o):BL (f48 F o) (λr=>r=0↔VO o):=by
 unfold f48;have ac:=h.l1;have ag:=h.l2;refine Dj (λg=>AI (iff_of_false (by decide) λv=>by have:=v.n2;omega)) (λal=>?_);refine Dj (λg=>AI (iff_of_false (by decide) λv=>by have:=v.n5;omega)) (λg2=>?_);refine BJ (S:=λq=>(∃e,q=Sum.inl e/\e≠0/\¬∀x∈o.1,CS x)∨(q=Sum.inr ()/\∀x∈o.1,CS x)) ?_ ?_
 ·refine Fg o.1.length (λi s=>s=(i:Int)/\∀x∈o.1.take i,CS x) ⟨rfl,by simp⟩ (by omega) ?_ ?_
  ·rintro i s hi ⟨rfl,K⟩;unfold LF;refine DK (by omega) (Dk (m:=i) rfl hi ?_);have am:=h.n1 _ (List.getElem_mem hi);refine Dj (λg=>AI (.inl ⟨_,rfl,by decide,λk=>by have:=(k _ (List.getElem_mem hi)).1;omega⟩)) (λap=>?_);refine BJ (S:=λq=>(q=Sum.inl 1/\¬CS o.1[i])∨(q=Sum.inr ()/\CS o.1[i])) ?_ ?_
   ·refine Fg o.1[i].length (λj s=>s=(j:Int)/\∀c∈o.1[i].take j,1<=c/\c<=9) ⟨rfl,by simp⟩ (by omega) ?_ ?_
    ·rintro j s U ⟨rfl,O⟩;unfold LQ;refine Dk (m:=i) rfl hi (DK (by omega) ?_);refine Dk (m:=i) rfl hi (Dk (m:=j) rfl U ?_);refine BE (Nn _ _ _ _) (Dj (λg=>AI (.inl ⟨rfl,λk=>?_⟩)) (λg=>?_))
     ·have:=k.2 _ (List.getElem_mem U);simp at g;omega
     refine BQ ((j+1:Nat):Int) (by simp) (by omega) (by omega) (AI ⟨rfl,OS U O ?_⟩);simpa using g
    ·rintro s ⟨rfl,O⟩;unfold LQ;refine Dk (m:=i) rfl hi ?_;rw [List.take_length] at O;exact C9 (by omega) (AI ⟨_,rfl,.inr ⟨rfl,by omega,O⟩⟩)
   ·rintro q (⟨rfl,g⟩ | ⟨rfl,g⟩)
    ·rw [Sum.elim_inl];exact AI (.inl ⟨_,rfl,by decide,λk=>g (k _ (List.getElem_mem hi))⟩)
    ·rw [Sum.elim_inr];exact BQ ((i+1:Nat):Int) (by simp) (by omega) (by omega) (AI ⟨rfl,OS hi K g⟩)
  ·rintro s ⟨rfl,K⟩;unfold LF;rw [List.take_length] at K;exact C9 (by omega) (AI ⟨_,rfl,.inr ⟨rfl,K⟩⟩)
 ·rintro q (⟨e,rfl,he,g⟩ | ⟨rfl,O⟩)
  ·rw [Sum.elim_inl];exact AI (iff_of_false he λv=>g v.cs)
  ·rw [Sum.elim_inr];refine Dj (λg=>AI (iff_of_false (by decide) λv=>by have:=v.d8;omega)) (λg2=>?_);refine BJ (S:=λq=>(∃e,q=Sum.inl e/\e≠0/\¬∀d∈o.2,VD o.1.length d)∨(q=Sum.inr ()/\∀d∈o.2,VD o.1.length d)) ?_ ?_
   ·refine Fg o.2.length (λi s=>s=(i:Int)/\∀d∈o.2.take i,VD o.1.length d) ⟨rfl,by simp⟩ (by omega) ?_ ?_
    ·rintro i s hi ⟨rfl,K⟩;unfold Pr;refine DK (by omega) (Dk (m:=i) rfl hi ?_);refine BJ (X5 (by omega)) ?_;intro x Y;refine Dj (λg=>AI (.inl ⟨_,rfl,g,λk=>g (Y.2 (k _ (List.getElem_mem hi)))⟩)) (λg=>?_);exact BQ ((i+1:Nat):Int) (by simp) (by omega) (by omega) (AI ⟨rfl,OS hi K (Y.1 (Decidable.not_not.1 g))⟩)
    ·rintro s ⟨rfl,K⟩;unfold Pr;rw [List.take_length] at K;exact C9 (by omega) (AI ⟨_,rfl,.inr ⟨rfl,K⟩⟩)
   ·rintro q (⟨e,rfl,he,g⟩ | ⟨rfl,g⟩)
    ·rw [Sum.elim_inl];exact AI (iff_of_false he λv=>g v.ds)
    ·rw [Sum.elim_inr];exact AI (iff_of_true rfl ⟨by omega,by omega,O,by omega,g⟩)
theorem X0{F:Nat}{o:OW}(K:100<F)(h:NV 40 o):BL (f47 F o) (λr=>r=0↔VO o):=Yj F o▸Yk K h
theorem ZC{F:Nat}{o:OW}(K:100<F)(h:VO o):f47 F o=some 0:=by
 obtain⟨r,O,U⟩:=X0 K h.nv;rw [O,U.2 h]
theorem TJ{F:Nat}{o:OW}(K:100<F)(h:VO o):f70 F o []=some (o,0):=by
 obtain⟨F,rfl⟩:∃k,F=k+1:=⟨F - 1,by omega⟩;unfold f70;rw [ZC K h]
 rfl
theorem VX(a n:Int):a % n=(a - n) % n:=by
 have h:a=(a - n)+n*1:=by omega
 conv=>lhs;rw [h]
 exact Int.add_mul_emod_self_left _ _ _
theorem Zc{F k n:Nat}{b:Jf}(hb:BG k b)(av:k<900000)(aw:2<=n)(ay:n<900):BL (f40 F b (n:Int)) (λr=>VD n r.1/\BG (k+4) r.2):=by
 unfold f40;refine BQ ((n:Int) - 1) rfl (by omega) (by omega) (BJ (KX hb (by omega) (by omega)) ?_);rintro⟨x,az⟩ ⟨O,g2,U⟩;simp only at O g2 U ⊢;refine BJ (Pd U (by omega) (by omega) (by omega) (by omega)) ?_;rintro⟨x2,aI⟩ ⟨a1,am,Y⟩;simp only at a1 am Y ⊢;refine BJ (SZ Y (by omega) (by simp) (by simp)) ?_;rintro⟨Z,aJ⟩ ⟨ac,ag⟩;simp only at ac ag ⊢;refine BQ ((n:Int) - 1) rfl (by omega) (by omega) (BJ (Pd ag (by omega) (by omega) (by omega) (by omega)) ?_);rintro⟨K,aK⟩ ⟨ap,aq,al⟩;simp only at ap aq al ⊢;refine BQ (x+K) rfl (by omega) (by omega) (BE (b:=(x+K).tmod n) (by unfold NN;rw [if_neg (by omega)]) ?_);refine AI ⟨?_,al⟩;have e:(x+K).tmod n=(x+K) % n:=Int.tmod_eq_emod_of_nonneg (by omega);have p3:1<=Z/\Z<=9:=by
  simp only [List.mem_cons,List.not_mem_nil,or_false] at ac;omega
 have aL:(x+K) % (n:Int)<n:=Int.emod_lt_of_pos _ (by omega);have aM:0<=(x+K) % (n:Int):=Int.emod_nonneg _ (by omega);have aN:x≠(x+K) % (n:Int):=by
  rcases Int.lt_or_le (x+K) n with h | h
  ·rw [Int.emod_eq_of_lt (by omega) h];omega
  ·rw [VX,Int.emod_eq_of_lt (by omega) (by omega)];omega
 refine⟨O,?_,?_,?_,?_,p3.1,p3.2⟩ <;> simp only [e] <;> omega
theorem YZ{F k:Nat}{b:Jf}{pm dm:Nat}(aP:100<F)(hb:BG k b)(aQ:k<1000)(aR:2<=pm)(aS:pm<=5)(hd:dm<=8):BL (f31 F b pm dm) (λr=>VO r.1/\r.1.1.length<=pm/\r.1.2.length<=dm/\BG (k+100) r.2):=by
 unfold f31;refine BJ (Pd hb (by omega) (by omega) (by omega) (by omega)) ?_;rintro⟨n,aT⟩ ⟨n1,n2,ay⟩;simp only at n1 n2 ay ⊢;obtain⟨n,rfl⟩:∃m:Nat,n=(m:Int):=⟨n.toNat,by omega⟩;refine BJ (Yu ay (by omega) (by omega) (by omega)) ?_;rintro⟨aU,aV⟩ g2;simp only at g2 ⊢;refine BJ (S:=λr=>r.2.2.2.length=n/\(∀x∈r.2.2.2,CS x)/\BG (k+30) (r.1,r.2.1,r.2.2.1)) ?_ ?_
 ·refine Fg n (λi s=>s.2.2.2.2=(i:Int)/\s.1.length=i/\(∀x∈s.1,CS x)/\BG (k+2+5*i) (s.2.1,s.2.2.1,s.2.2.2.1)) ⟨rfl,rfl,by simp,g2⟩ (by omega) ?_ ?_
  ·rintro i ⟨az,l,t,ag,c⟩ hi ⟨al,am,ap,K⟩;simp only at al am ap K;subst al;unfold M7;refine DK (by simp only;omega) (BJ (KX K (by omega) (by omega)) ?_);rintro⟨c,aW⟩ ⟨c1,c2,aq⟩;simp only at c1 c2 aq ⊢;obtain⟨c,rfl⟩:∃m:Nat,c=(m:Int):=⟨c.toNat,by omega⟩;refine BJ (S:=λr=>CS r.1/\BG (k+2+5*i+1+c) r.2) ?_ ?_
   ·refine Fg c (λj s=>s.2.2.2.2=((c - j:Nat):Int)/\s.2.2.2.1.length=j/\(∀v∈s.2.2.2.1,1<=v/\v<=9)/\BG (k+2+5*i+1+j) (s.1,s.2.1,s.2.2.1)) ⟨rfl,rfl,by simp,aq⟩ (by omega) ?_ ?_
    ·rintro j ⟨l,t,ag,w,z⟩ aN ⟨U,hw,O,K⟩;simp only at U hw O K;subst U;unfold Nj;refine DK (by simp only;omega) (BJ (S:=λr=>r.1.length=j+1/\(∀v∈r.1,1<=v/\v<=9)/\BG (k+2+5*i+1+(j+1)) r.2) ?_ ?_)
     ·refine Dj (λ_=>?_) (λ_=>?_)
      ·refine Lu (by simp only;omega) (AI ⟨by simp [hw],?_,K.Ah (by omega)⟩);intro v h;rcases List.mem_append.1 h with h | h
       ·exact O v h
       ·have:=List.mem_singleton.1 h;omega
      ·refine BJ (SZ K (by omega) (by simp) (by simp)) ?_;rintro⟨v,aO⟩ ⟨aI,av⟩;simp only at aI av ⊢;refine Lu (by omega) (AI ⟨by simp [hw],?_,av⟩);intro u h;rcases List.mem_append.1 h with h | h
       ·exact O u h
       ·have:=List.mem_singleton.1 h;subst this;simp only [List.mem_cons,List.not_mem_nil,or_false] at aI;omega
     ·rintro⟨w',l',aX,aY⟩ ⟨Z,aw,ac⟩;simp only at Z ac aw ⊢;exact BQ ((c - (j+1):Nat):Int) (by omega) (by omega) (by omega) (AI ⟨rfl,Z,aw,ac⟩)
    ·rintro⟨l,t,ag,w,z⟩ ⟨U,hw,O,K⟩;simp only at U hw O K;subst U;unfold Nj;exact C9 (by simp) (AI ⟨_,rfl,⟨by simp only;omega,O⟩,K⟩)
   ·rintro⟨w,aO⟩ ⟨Z,ac⟩;simp only at Z ac ⊢;refine Lu (by omega) (BQ ((i+1:Nat):Int) (by simp) (by omega) (by omega) ?_);refine AI ⟨rfl,by simp [am],λx Y=>?_,ac.Ah (by omega)⟩;simp only [List.mem_append,List.mem_singleton] at Y;rcases Y with Y | rfl
    ·exact ap x Y
    ·exact Z
  ·rintro⟨az,l,t,ag,c⟩ ⟨al,am,ap,K⟩;simp only at al am ap K;subst al;unfold M7;exact C9 (by simp) (AI ⟨_,rfl,am,ap,K.Ah (by omega)⟩)
 ·rintro⟨l,t,ag,az⟩ ⟨aJ,p2,aq⟩;simp only at aJ p2 aq ⊢;refine BJ (KX aq (by omega) (by omega)) ?_;rintro⟨c,aZ⟩ ⟨c1,c2,av⟩;simp only at c1 c2 av ⊢;obtain⟨c,rfl⟩:∃m:Nat,c=(m:Int):=⟨c.toNat,by omega⟩;refine BJ (S:=λr=>r.2.2.2.length<=dm/\(∀d∈r.2.2.2,VD n d)/\BG (k+100) (r.1,r.2.1,r.2.2.1)) ?_ ?_
  ·refine Fg c (λj s=>s.2.2.2.2=((c - j:Nat):Int)/\s.1.length=j/\(∀d∈s.1,VD n d)/\BG (k+31+4*j) (s.2.1,s.2.2.1,s.2.2.2.1)) ⟨rfl,rfl,by simp,av.Ah (by omega)⟩ (by omega) ?_ ?_
   ·rintro j ⟨aK,l,t,ag,z⟩ aN ⟨U,hw,O,K⟩;simp only at U hw O K;subst U;unfold Ni;refine DK (by simp only;omega) (BJ (Zc K (by omega) (by omega) (by omega)) ?_);rintro⟨d,a0⟩ ⟨aL,aM⟩;simp only at aL aM ⊢;refine BL.L5 (by simp;omega) (BQ ((c - (j+1):Nat):Int) (by omega) (by omega) (by omega) ?_);refine AI ⟨rfl,by simp [hw],?_,aM.Ah (by omega)⟩;intro x Y;rcases List.mem_append.1 Y with Y | Y
    ·exact O x Y
    ·cases List.mem_singleton.1 Y;exact aL
   ·rintro⟨aK,l,t,ag,z⟩ ⟨U,hw,O,K⟩;simp only at U hw O K;subst U;unfold Ni;exact C9 (by simp) (AI ⟨_,rfl,by simp only;omega,O,K.Ah (by omega)⟩)
  ·rintro⟨l,t,ag,aK⟩ ⟨Z,aw,ac⟩;simp only at Z ac aw ⊢;exact AI ⟨⟨by simp only;omega,by simp only;omega,p2,by simp only;omega,by simp only;rw [aJ];exact aw⟩,by simp only;omega,Z,ac⟩
end Pal
namespace Pal
abbrev PR:=Int×Int
def gN(l:List Int)(i:Nat):Int:=l.getD i 0
def Hf(l:List Int)(i v:Int):List Int:=l.set i.toNat (gN l i.toNat+v)
def BN(B:Int)(l:List Int):Prop:=l.length=5/\∀x∈l,-B<=x/\x<=B
theorem Nb{l:List Int}{i:Nat}(h:i<l.length):gN l i=l[i]:=by unfold gN;rw [List.getD_eq_getElem?_getD,List.getElem?_eq_getElem h];rfl
theorem BN.bd{B:Int}{l:List Int}(h:BN B l){i:Nat}(hi:i<5): -B<=gN l i/\gN l i<=B:=by
 rw [Nb (by have:=h.1;omega)];exact h.2 _ (List.getElem_mem _)
theorem BN.ix{B:Int}{l:List Int}(h:BN B l){i:Int}(K:0<=i)(hi:i<5):ix l i=some (gN l i.toNat):=by
 have:=h.1;rw [Nb (show i.toNat<l.length by omega)];exact K2 (m:=i.toNat) (by omega) (List.getElem?_eq_getElem _)
theorem BN.Ah{B C:Int}{l:List Int}(h:BN B l)(O:B<=C):BN C l:=⟨h.1,λx K=>by have:=h.2 x K;omega⟩
theorem BN.add{B V:Int}{l:List Int}(h:BN B l){i v:Int}(O:0<=i)(hi:i<5)(U: -V<=v)(Y:v<=V):BN (B+V) (Hf l i v):=by
 have hb:=h.bd (i:=i.toNat) (by omega);refine⟨by unfold Hf;rw [List.length_set];exact h.1,λx K=>?_⟩;rcases List.mem_or_eq_of_mem_set K with K | rfl
 ·have:=h.2 x K;omega
 ·omega
theorem To{l:List Int}{i v:Int}(h:l.length=5)(K:0<=i)(hi:i<5)(j:Nat):gN (Hf l i v) j=gN l j+if(j:Int)=i then v else 0:=by
 unfold Hf gN;rw [List.getD_eq_getElem?_getD,List.getElem?_set,List.getD_eq_getElem?_getD,List.getD_eq_getElem?_getD];by_cases e:i.toNat=j
 ·rw [if_pos e,if_pos (by omega),if_pos (by omega),e];rfl
 ·rw [if_neg e,if_neg (by omega),Int.add_zero]
theorem Wu{l l':List Int}(h:l.length=5)(U:l'.length=5)(k:∀j,j<5->gN l j=gN l' j):l=l':=by
 refine List.ext_getElem (by omega) λj K O=>?_;rw [← Nb K,← Nb O];exact k j (by omega)
def Kk(l:List Int)(d:DT):List Int:=Hf (Hf l d.1 d.2.2) d.2.1 (-d.2.2)
def JM(l:List Int)(d:DT):List Int:=Hf (Hf l d.2.1 d.2.2) d.1 (-d.2.2)
def C5(o:OW):List Int:=o.2.foldl JM (List.replicate 5 0)
theorem Sd{F:Nat}{B:Int}{l:List Int}{d:DT}(h:BN B l)(a1:0<=d.1)(O:d.1<5)(U:0<=d.2.1)(Y:d.2.1<5)(Z: -B<=d.2.2)(p2:d.2.2<=B)(ac:B<=1000000000000):f204 F l d=some (Kk l d)/\BN (3*B) (Kk l d):=by
 have K:=h.add a1 O Z p2;have g2:=K.add U Y (show -B<= -d.2.2 by omega) (by omega);have k1:=h.bd (i:=d.1.toNat) (by omega);have ag:=K.bd (i:=d.2.1.toNat) (by omega);refine⟨?_,g2.Ah (by omega)⟩;refine Ff ?_;unfold f204;refine BE (h.ix a1 O) ?_;refine BQ _ rfl (by omega) (by omega) ?_;refine BE (h.ix a1 O) ?_;refine BE (K.ix U Y) ?_;refine BQ _ rfl (by omega) (by omega) ?_;refine BE (K.ix U Y) ?_;exact AI rfl
theorem Nl{F:Nat}{o:OW}(ac:100<F)(h:VO o):f84 F o=some (C5 o)/\BN 200 (C5 o):=by
 have ag:=h.n5;have al:=h.d8;have:BL (f84 F o) (λr=>r=C5 o/\BN 200 r):=by
  unfold f84;refine BJ (S:=λr=>r=C5 o/\BN 200 r) ?_ (λr U=>AI U);refine Fg o.2.length (λi s=>s.2=(i:Int)/\s.1=(o.2.take i).foldl JM (List.replicate 5 0)/\BN (20*i) s.1) ⟨rfl,rfl,rfl,by simp⟩ (by omega) ?_ ?_
  ·rintro i ⟨w,c⟩ hi ⟨K,hw,hb⟩;simp only at K hw hb;subst K;obtain⟨v1,v2,am,v4,ap,v6,aq⟩:=h.ds _ (List.getElem_mem hi);have O:=hb.add (i:=o.2[i].2.1) (v:=o.2[i].2.2) (V:=10) (by omega) (by omega) (by omega) (by omega);have g2:=O.add (i:=o.2[i].1) (v:= -o.2[i].2.2) (V:=10) (by omega) (by omega) (by omega) (by omega);have k1:=hb.bd (i:=o.2[i].2.1.toNat) (by omega);have av:=O.bd (i:=o.2[i].1.toNat) (by omega);unfold Nq;refine DK (by simp only;omega) (Dk (m:=i) rfl hi ?_);refine BE (hb.ix (by omega) (by omega)) (BQ _ rfl (by omega) (by omega) ?_);refine BE (hb.ix (by omega) (by omega)) (BE (O.ix (by omega) (by omega)) ?_);refine BQ _ rfl (by omega) (by omega) (BE (O.ix (by omega) (by omega)) ?_);refine BQ ((i+1:Nat):Int) (by simp) (by omega) (by omega) (AI ⟨rfl,?_,g2.Ah (by omega)⟩);simp only;rw [List.take_add_one,List.getElem?_eq_getElem hi,List.foldl_append,← hw]
   rfl
  ·rintro⟨w,c⟩ ⟨K,hw,hb⟩;simp only at K hw hb;subst K;unfold Nq;rw [List.take_length] at hw;exact C9 (by simp) (AI ⟨_,rfl,hw,hb.Ah (by omega)⟩)
 obtain⟨r,Y,rfl,Z⟩:=this;exact⟨Y,Z⟩
theorem WA{l:List Int}{i:Nat}(hi:i<l.length):(l.take (i+1)).sum=(l.take i).sum+l[i]:=by
 rw [List.take_add_one,List.getElem?_eq_getElem hi,List.sum_append];simp only [Option.toList_some,List.sum_cons,List.sum_nil];omega
theorem Yh{F:Nat}{l:List Int}(ag:100<F)(al:l.length<=20)(hb:∀x∈l,-1000<=x/\x<=1000):f85 F l=some l.sum/\ -20000<=l.sum/\l.sum<=20000:=by
 have:BL (f85 F l) (λr=>r=l.sum/\ -20000<=r/\r<=20000):=by
  unfold f85;refine BJ (S:=λr=>r=l.sum/\ -20000<=r/\r<=20000) ?_ (λr Y=>AI Y);refine Fg l.length (λi s=>s.2=(i:Int)/\s.1=(l.take i).sum/\ -(1000*(i:Int))<=s.1/\s.1<=1000*(i:Int)) ⟨rfl,rfl,by simp,by simp⟩ (by omega) ?_ ?_
  ·rintro i ⟨w,c⟩ hi ⟨K,hw,O,U⟩;simp only at K hw O U;subst K;have am:=hb _ (List.getElem_mem hi);unfold Nk;refine DK (by simp only;omega) (Dk (m:=i) rfl hi ?_);refine BQ _ rfl (by omega) (by omega) (BQ ((i+1:Nat):Int) (by simp) (by omega) (by omega) ?_);refine AI ⟨rfl,?_,?_,?_⟩
   ·simp only;rw [WA hi,hw]
   ·simp only;omega
   ·simp only;omega
  ·rintro⟨w,c⟩ ⟨K,hw,O,U⟩;simp only at K hw O U;subst K;unfold Nk;rw [List.take_length] at hw;exact C9 (by simp) (AI ⟨_,rfl,hw,by simp only;omega,by simp only;omega⟩)
 obtain⟨r,Z,rfl,ac⟩:=this;exact⟨Z,ac⟩
def VP(n:Nat)(x:PR):Prop:=0<=x.1/\x.1<x.2/\x.2<(n:Int)
def Iq(b:Nat)(k:Nat):List PR:=(List.range k).map λa:Nat=>((a:Int),(b:Int))
def Eo(n:Nat):List PR:=(List.range n).flatMap λb=>Iq b b
theorem UZ(b k:Nat):Iq b (k+1)=Iq b k++ [((k:Int),(b:Int))]:=by unfold Iq;rw [List.range_succ,List.map_append];rfl
theorem Ui(n:Nat):Eo (n+1)=Eo n++Iq n n:=by unfold Eo;rw [List.range_succ,List.flatMap_append];simp
theorem Rs{n:Nat}{x:PR}(h:x∈Eo n):VP n x:=by
 unfold Eo Iq at h;obtain⟨b,hb,h⟩:=List.mem_flatMap.1 h;obtain⟨a,K,rfl⟩:=List.mem_map.1 h;have:=List.mem_range.1 hb;have:=List.mem_range.1 K;exact⟨by simp only;omega,by simp only;omega,by simp only;omega⟩
theorem Rx(b k:Nat):(Iq b k).length=k:=by unfold Iq;simp
theorem Qv{n:Nat}(h:n<=5):(Eo n).length<=10:=by
 have e:∀n,n<=5->(Eo n).length<=n*2:=by
  intro n K
  match n,K with
  | 0,_ | 1,_ | 2,_ | 3,_ | 4,_ | 5,_=>decide
 have:=e n h;omega
theorem Xs{F:Nat}{o:OW}(Z:100<F)(ac:o.1.length<=5):f133 F o=some (Eo o.1.length):=by
 refine Ff ?_;unfold f133;refine BJ (S:=λr=>r=Eo o.1.length) ?_ (λr Y=>AI Y);refine Fg o.1.length (λi s=>s.2=(i:Int)/\s.1=Eo i/\s.1.length<=10*i) ⟨rfl,rfl,by simp⟩ (by omega) ?_ ?_
 ·rintro i ⟨w,c⟩ hi ⟨K,hw,U⟩;simp only at K hw U;subst K;unfold MS;refine DK (by simp only;omega) (BJ (S:=λr=>r=Eo i++Iq i i) ?_ ?_)
  ·refine Fg i (λa s=>s.2=(a:Int)/\s.1=Eo i++Iq i a) ⟨rfl,by simp [Iq,hw]⟩ (by omega) ?_ ?_
   ·rintro a ⟨v,c⟩ ag ⟨K,O⟩;simp only at K O;subst K;unfold M1;refine DK (by simp only;omega) (Lu ?_ ?_)
    ·rw [O,← hw,List.length_append,Rx];omega
    refine BQ ((a+1:Nat):Int) (by simp) (by omega) (by omega) (AI ⟨rfl,?_⟩);simp only;rw [UZ,O,List.append_assoc]
   ·rintro⟨v,c⟩ ⟨K,O⟩;simp only at K O;subst K;unfold M1;exact C9 (by simp) (AI ⟨_,rfl,O⟩)
  ·rintro r rfl;refine BQ ((i+1:Nat):Int) (by simp) (by omega) (by omega) (AI ⟨rfl,(Ui i).symm,?_⟩);simp only;rw [List.length_append,Rx,← hw];omega
 ·rintro⟨w,c⟩ ⟨K,hw,U⟩;simp only at K hw U;subst K;unfold MS;exact C9 (by simp) (AI ⟨_,rfl,hw⟩)
def BV(p:Int)(x:PR):Bool:=decide (x.1=p) || decide (x.2=p)
theorem Qi{α:Type}{p:α->Bool}:∀{l:List α} {a:Nat},l.countP p=1->∀O:a<l.length,p l[a]=true->l.findIdx p=a
 | x::xs,0,_,_,K=>by
  have K:p x=true:=K
  rw [List.findIdx_cons,K];rfl
 | x::xs,a+1,h,O,K=>by
  have K:p (xs[a]'(by simpa using O))=true:=K
  have Y:0<xs.countP p:=List.countP_pos_iff.2 ⟨_,List.getElem_mem _,K⟩
  by_cases U:p x=true
  ·rw [List.countP_cons_of_pos U] at h;omega
  ·rw [List.countP_cons_of_neg U] at h;rw [List.findIdx_cons,Bool.eq_false_iff.2 U];simp only [cond_false];rw [Qi h (by simpa using O) K]
def JF(n:Nat)(l:List PR):Option Nat:=(List.range n).find? λp=>l.countP (BV p)==1
def dP(p:Int)(x:PR)(m:Int):DT:=if 0<m then(x.1+x.2 - p,p,m) else(p,x.1+x.2 - p,-m)
def EM(n:Nat):Nat->List PR->List Int->List DT->Option (List DT)
 | 0,_,w,out=>if w=List.replicate 5 0 then some out else none
 | k+1,l,w,out=>(JF n l).bind λp=>
   if gN w p=0 then none else
    EM n k (l.eraseIdx (l.findIdx (BV p))) (Kk w (dP p (l.getD (l.findIdx (BV p)) (0,0)) (gN w p))) (out++ [dP p (l.getD (l.findIdx (BV p)) (0,0)) (gN w p)])
def LY:Option (List DT)->Bool×List Int×List DT
 | none=>(true,default)
 | some out=>(false,List.replicate 5 0,out)
theorem Vn{F:Nat}{l:List PR}{p:Int}(am:100<F)(ap:l.length<=20):BL (Pal.iter (LA F l p) F (0,0,0)) (λr=>r.2=((l.countP (BV p):Nat):Int)/\(r.2=1->r.1=(l.findIdx (BV p):Nat)/\l.findIdx (BV p)<l.length)):=by
 refine Fg l.length (λi s=>s.2.2=(i:Int)/\s.2.1=(((l.take i).countP (BV p):Nat):Int)/\(s.2.1≠0->∃a,s.1=((a:Nat):Int)/\∃h:a<l.length,BV p l[a]=true)) ⟨rfl,by simp,by simp⟩ (by omega) ?_ ?_
 ·rintro i ⟨a,m,c⟩ hi ⟨K,hm,O⟩;simp only at K hm O;subst K;have hle:(l.take i).countP (BV p)<=i:=by
   refine Nat.le_trans List.countP_le_length ?_;rw [List.length_take];omega
  unfold LA;refine DK (by simp only;omega) (Dk (m:=i) rfl hi ?_);refine BJ (S:=λc=>c=BV p l[i]) ?_ ?_
  ·unfold BV;refine Dj (λh=>AI (by simp [h])) (λh=>AI (by simp [h]))
  rintro c rfl;have key:(l.take (i+1)).countP (BV p)=(l.take i).countP (BV p)+if BV p l[i]=true then 1 else 0:=by
   rw [List.take_add_one,List.getElem?_eq_getElem hi,List.countP_append];simp only [Option.toList_some,List.countP_cons,List.countP_nil,Nat.zero_add]
  refine BJ (S:=λr=>r.2=(((l.take (i+1)).countP (BV p):Nat):Int)/\(r.2≠0->∃a,r.1=((a:Nat):Int)/\∃h:a<l.length,BV p l[a]=true)) ?_ ?_
  ·refine Dj (λh=>?_) (λh=>?_)
   ·refine BQ (((l.take (i+1)).countP (BV p):Nat):Int) ?_ (by omega) ?_ (AI ⟨rfl,λ_=>⟨i,rfl,hi,h⟩⟩)
    ·rw [key,if_pos h,hm];rfl
    ·rw [key,if_pos h];omega
   ·exact AI ⟨by rw [key,if_neg h];exact hm,O⟩
  ·rintro⟨aq,m'⟩ ⟨U,Y⟩;simp only at U Y ⊢;exact BQ ((i+1:Nat):Int) (by simp) (by omega) (by omega) (AI ⟨rfl,U,Y⟩)
 ·rintro⟨a,m,c⟩ ⟨K,hm,O⟩;simp only at K hm O;subst K;rw [List.take_length] at hm;unfold LA;refine C9 (by simp) (AI ⟨_,rfl,hm,λac=>?_⟩);simp only at ac;obtain⟨k,ag,Z,al⟩:=O (by omega);have:=Qi (p:=BV p) (l:=l) (a:=k) (by omega) Z al;simp only;rw [this];exact⟨ag,Z⟩
theorem UB{n:Nat}{l:List PR}{i:Nat}(hi:i<n)(K:l.countP (BV i)=1)(h:∀p,p<i->l.countP (BV p)≠1):JF n l=some i:=by
 unfold JF;rw [List.find?_range_eq_some];exact⟨by simp [K],List.mem_range.2 hi,λj O=>by simpa using h j O⟩
theorem UR{n:Nat}{l:List PR}(h:∀p,p<n->l.countP (BV p)≠1):JF n l=none:=by
 unfold JF;rw [List.find?_eq_none];intro p K;simpa using h p (List.mem_range.1 K)
theorem TH{n:Nat}{p:Nat}{x:PR}{m B:Int}(U:n<=5)(O:VP n x)(K:BV p x=true)(Y: -B<=m)(Z:m<=B):0<=(dP p x m).1/\(dP p x m).1<5/\0<=(dP p x m).2.1/\(dP p x m).2.1<5/\0<=(dP p x m).2.2/\(dP p x m).2.2<=B:=by
 obtain⟨v1,v2,ac⟩:=O;unfold BV at K;simp at K;unfold dP;split <;> simp only <;> omega
theorem Rb{α:Type}{l:List α}{i:Nat}{d:α}(h:i<l.length):l.getD i d=l[i]:=by rw [List.getD_eq_getElem?_getD,List.getElem?_eq_getElem h];rfl
theorem Sc{F n:Nat}{q:OW}(Z:100<F)(az:q.1.length=n)(am:n<=5):∀(k N:Nat) (l:List PR) (w:List Int) (out:List DT) (B:Int),l.length=k->k<N->k<=10->(∀x∈l,VP n x)->BN B w->0<=B->B*3 ^ k<=1000000000000->out.length+k<=100->K1 N F l w q out=some (LY (EM n k l w out))
 | 0,N,l,w,out,B,aI,aJ,_,ac,hw,ap,aq,aK=>by
  obtain⟨N,rfl⟩:∃k,N=k+1:=⟨N - 1,by omega⟩
  refine Ff ?_
  simp only [K1]
  unfold LM EM
  refine DK (by omega) ?_
  refine Dj (λh=>AI ?_) (λh=>AI ?_)
  ·rw [if_neg h];rfl
  ·have h:=Decidable.not_not.1 h;rw [if_pos h,h];rfl
 | k+1,N,l,w,out,B,aI,aJ,aW,ac,hw,ap,aq,aK=>by
  obtain⟨N,rfl⟩:∃k,N=k+1:=⟨N - 1,by omega⟩;refine Ff ?_;simp only [K1];unfold LM;refine C9 (by omega) ?_;have aL:B*3 ^ (k+1)=(3*B)*3 ^ k:=by rw [Int.pow_succ];rw [Int.mul_comm (3 ^ k) 3,← Int.mul_assoc,Int.mul_comm B 3]
  have aM:B<=1000000000000:=by
   have ag:(1:Int)<=3 ^ (k+1):=by
    have:(0:Int)<3 ^ (k+1):=Int.pow_pos (by decide);omega
   have:=Int.mul_le_mul_of_nonneg_left ag ap;omega
  refine BJ (S:=λr=>r=Sum.inl (LY (EM n (k+1) l w out))∨(r=Sum.inr ()/\JF n l=none)) ?_ ?_
  ·refine Fg n (λi s=>s=(i:Int)/\∀p,p<i->l.countP (BV (p:Nat))≠1) ⟨rfl,by simp⟩ (by omega) ?_ ?_
   ·rintro i s hi ⟨rfl,O⟩;unfold M3;refine DK (by omega) (BJ (S:=λr=>(r=Sum.inr ()/\l.countP (BV i)≠1)∨r=Sum.inl (LY (EM n (k+1) l w out))) ?_ ?_)
    ·refine BJ (Vn Z (by omega)) ?_;rintro⟨a,m⟩ ⟨av,U⟩;simp only at av U ⊢;refine Dj (λh=>AI (.inl ⟨rfl,λag=>h (by rw [av,ag];rfl)⟩)) (λh=>?_);have h:=Decidable.not_not.1 h;obtain⟨U,K⟩:=U h;have aN:l.countP (BV i)=1:=by omega
     subst U;have aO:=UB hi aN O;refine Dk (m:=l.findIdx (BV i)) rfl K (Dk (m:=l.findIdx (BV i)) rfl K ?_);have aP:BV i l[l.findIdx (BV i)]=true:=List.findIdx_getElem;have Y:=ac _ (List.getElem_mem K);have aQ:=Y;obtain⟨aX,x2,aY⟩:=aQ;have hb:=hw.bd (i:=i) (by omega);refine BQ (-(i:Int)) rfl (by omega) (by omega) (BE (hw.ix (by omega) (by omega)) ?_);rw [show Int.toNat (i:Int)=i by omega];refine BE (Yh (l:= [_,_,_]) Z (by simp) (by simp;omega)).1 (BQ (-(gN w i)) rfl (by omega) (by omega) ?_);have aw:EM n (k+1) l w out=if gN w i=0 then none else EM n k (l.eraseIdx (l.findIdx (BV i))) (Kk w (dP i l[l.findIdx (BV i)] (gN w i))) (out++ [dP i l[l.findIdx (BV i)] (gN w i)]):=by
      simp only [EM,aO,Option.bind_some,Rb K]
     refine Dj (λh=>AI (.inr ?_)) (λh=>?_)
     ·rw [aw,if_pos (by omega)];rfl
     have ay:=aw;rw [if_neg (show ¬gN w i=0 by omega)] at ay;rw [ay];refine BJ (S:=λr=>r=dP i l[l.findIdx (BV i)] (gN w i)) ?_ ?_
     ·unfold dP;refine Dj (λh=>?_) (λh=>?_)
      ·refine BQ (gN w i) (by omega) (by omega) (by omega) (AI ?_);rw [if_pos (by omega)];simp only [List.sum_cons,List.sum_nil];refine Prod.ext ?_ rfl;simp only;omega
      ·refine AI ?_;rw [if_neg (by omega)];simp only [List.sum_cons,List.sum_nil];refine Prod.ext rfl (Prod.ext ?_ rfl);simp only;omega
     rintro d rfl;obtain⟨aR,e2,aS,aT,aZ,aU⟩:=TH am Y aP hb.1 hb.2;obtain⟨aV,g2⟩:=Sd (F:=F) hw aR e2 aS aT (by omega) aU aM;refine BE aV (BL.L5 (by simp;omega) ?_);refine BE (b:=l.take (l.findIdx (BV i))) (by unfold Ha;rw [if_pos (by omega)];simp) (BQ ((l.findIdx (BV i)+1:Nat):Int) (by simp) (by omega) (by omega) ?_);refine BE (b:=l.drop (l.findIdx (BV i)+1)) ?_ ?_
     ·unfold Ha;rw [if_pos (by omega),show Int.toNat (l.length:Int)=l.length by omega,List.take_length,show Int.toNat ((l.findIdx (BV i)+1:Nat):Int)=l.findIdx (BV i)+1 by omega]
     refine BL.L5 (by simp;omega) ?_;have he:l.take (l.findIdx (BV i))++l.drop (l.findIdx (BV i)+1)=l.eraseIdx (l.findIdx (BV i)):=(List.eraseIdx_eq_take_drop_succ _ _).symm;rw [he];have hle:(l.eraseIdx (l.findIdx (BV i))).length=k:=by rw [List.length_eraseIdx_of_lt K];omega
     refine BE (Sc Z az am k N _ _ _ (3*B) hle (by omega) (by omega) (λx Y=>ac x (List.mem_of_mem_eraseIdx Y)) g2 (by omega) (by rw [← aL];exact aq) (by simp;omega)) ?_;rcases EM n k _ _ _ with _ | r
     ·exact DK rfl (AI (.inr rfl))
     ·exact C9 (by simp [LY]) (AI (.inr rfl))
    ·rintro r (⟨rfl,h⟩ | rfl)
     ·rw [Sum.elim_inr];refine BQ ((i+1:Nat):Int) (by simp) (by omega) (by omega) (AI ⟨rfl,λp al=>?_⟩);rcases Nat.lt_succ_iff_lt_or_eq.1 al with al | rfl
      ·exact O p al
      ·exact h
     ·rw [Sum.elim_inl];exact AI (.inl rfl)
   ·rintro s ⟨rfl,O⟩;unfold M3;exact C9 (by omega) (AI ⟨_,rfl,.inr ⟨rfl,UR O⟩⟩)
  ·rintro r (rfl | ⟨rfl,h⟩)
   ·rw [Sum.elim_inl];exact AI rfl
   ·rw [Sum.elim_inr];refine AI ?_;simp only [EM,h,Option.bind_none]
    rfl
def BD(d:DT):Prop:= -1000000000000000<=d.1/\d.1<=1000000000000000/\ -1000000000000000<=d.2.1/\d.2.1<=1000000000000000/\ -1000000000000000<=d.2.2/\d.2.2<=1000000000000000
theorem OF{n:Nat}(ac:n<=5):∀(k:Nat) (l:List PR) (w:List Int) (out r:List DT) (B:Int),l.length=k->(∀x∈l,VP n x)->BN B w->0<=B->B*3 ^ k<=1000000000000->(∀d∈out,BD d)->EM n k l w out=some r->(∀d∈r,BD d)/\r.length=out.length+k
 | 0,l,w,out,r,B,ap,O,hw,ag,al,U,h=>by
  unfold EM at h
  split at h
  ·cases h;exact⟨U,rfl⟩
  ·cases h
 | k+1,l,w,out,r,B,ap,O,hw,ag,al,U,h=>by
  have aq:B*3 ^ (k+1)=(3*B)*3 ^ k:=by rw [Int.pow_succ];rw [Int.mul_comm (3 ^ k) 3,← Int.mul_assoc,Int.mul_comm B 3]
  have av:B<=1000000000000:=by
   have aw:(1:Int)<=3 ^ (k+1):=by
    have:(0:Int)<3 ^ (k+1):=Int.pow_pos (by decide);omega
   have:=Int.mul_le_mul_of_nonneg_left aw ag;omega
  unfold EM at h;obtain⟨p,am,h⟩:=bind_some h;split at h
  ·cases h
  unfold JF at am;obtain⟨c1,c2,c3⟩:=List.find?_range_eq_some.1 am;have aL:l.countP (BV p)=1:=by simpa using c1
  have c2:=List.mem_range.1 c2;have Y:l.findIdx (BV p)<l.length:=by
   obtain⟨x,K,Z⟩:=List.countP_pos_iff.1 (show 0<l.countP (BV p) by omega);exact List.findIdx_lt_length_of_exists ⟨x,K,Z⟩
  rw [Rb Y] at h;have Z:BV p l[l.findIdx (BV p)]=true:=List.findIdx_getElem;have K:=O _ (List.getElem_mem Y);have hb:=hw.bd (i:=p) (by omega);obtain⟨ay,e2,az,aI,aM,aJ⟩:=TH ac K Z hb.1 hb.2;obtain⟨aN,g2⟩:=Sd (F:=0) hw ay e2 az aI (by omega) aJ av;obtain⟨k1,aK⟩:=OF ac k _ _ _ r (3*B) (by rw [List.length_eraseIdx_of_lt Y];omega) (λx K=>O x (List.mem_of_mem_eraseIdx K)) g2 (by omega) (by rw [← aq];exact al) (by
   intro d hd
   rcases List.mem_append.1 hd with hd | hd
   ·exact U d hd
   ·cases List.mem_singleton.1 hd
    refine⟨?_,?_,?_,?_,?_,?_⟩ <;> omega) h
  refine⟨k1,?_⟩;rw [aK];simp;omega
end Pal
namespace Pal
def FF(a b:DT):Bool:=decide (a.1<b.1∨(a.1=b.1/\(a.2.1<b.2.1∨(a.2.1=b.2.1/\a.2.2<b.2.2))))
theorem Sj{a b:DT}:FF a b=true↔a.1<b.1∨(a.1=b.1/\(a.2.1<b.2.1∨(a.2.1=b.2.1/\a.2.2<b.2.2))):=by unfold FF;exact decide_eq_true_iff
theorem KY{a b:DT}:FF a b=false↔¬(a.1<b.1∨(a.1=b.1/\(a.2.1<b.2.1∨(a.2.1=b.2.1/\a.2.2<b.2.2)))):=by unfold FF;exact decide_eq_false_iff_not
theorem SB{F:Nat}{a b:DT}(K:BD a)(hb:BD b):BL (f113 F a b) (λc=>(c<0↔FF a b=true)/\(c=0↔a=b)):=by
 obtain⟨a1,O,U,Y,Z,ac⟩:=K;obtain⟨ag,al,am,ap,aq,av⟩:=hb;obtain⟨ax,ay,az⟩:=a;obtain⟨aI,aJ,aK⟩:=b;simp only at a1 O U Y Z ac ag al am ap aq av;unfold f113;simp only [Sj,Prod.mk.injEq];refine Dj (λh=>?_) (λh=>?_)
 ·exact BQ _ rfl (by omega) (by omega) (AI ⟨by omega,by omega⟩)
 refine Dj (λaw=>?_) (λaw=>?_)
 ·exact BQ _ rfl (by omega) (by omega) (AI ⟨by omega,by omega⟩)
 ·exact BQ _ rfl (by omega) (by omega) (AI ⟨by omega,by omega⟩)
def Fp(x:DT):List DT->List DT
 | []=> [x]
 | y::ys=>if FF x y=true then x::y::ys else y::Fp x ys
def DR(l:List DT):List DT:=l.foldl (λa x=>Fp x a) []
def NS(l:List DT):Prop:=l.Pairwise λa b=>FF b a=false
theorem OE{x d:DT}:∀{l:List DT},d∈Fp x l↔d=x∨d∈l
 | []=>by simp [Fp]
 | y::ys=>by
  unfold Fp
  split
  ·simp
  ·rw [List.mem_cons,OE,List.mem_cons];constructor
   ·rintro(h | h | h)
    ·exact .inr (.inl h)
    ·exact .inl h
    ·exact .inr (.inr h)
   ·rintro(h | h | h)
    ·exact .inr (.inl h)
    ·exact .inl h
    ·exact .inr (.inr h)
theorem Rg{x:DT}:∀{l:List DT},(Fp x l).length=l.length+1
 | []=>rfl
 | y::ys=>by
  unfold Fp
  split
  ·rfl
  ·rw [List.length_cons,Rg];rfl
theorem R7{x:DT}:∀{l:List DT},NS l->NS (Fp x l)
 | [],_=>List.pairwise_singleton _ _
 | y::ys,h=>by
  obtain⟨U,Y⟩:=List.pairwise_cons.1 h
  unfold Fp
  split
  ·rename_i O
   refine List.pairwise_cons.2 ⟨λz K=>?_,h⟩;have O:=Sj.1 O;rcases List.mem_cons.1 K with rfl | K
   ·rw [KY];omega
   ·have:=KY.1 (U z K);rw [KY];omega
  ·rename_i O;refine List.pairwise_cons.2 ⟨λz K=>?_,R7 Y⟩;rcases OE.1 K with rfl | K
   ·exact Bool.eq_false_iff.2 O
   ·exact U z K
theorem Sz{x:DT}{B:List DT}(K:∀b∈B,FF x b=true):∀{A:List DT},(∀a∈A,FF x a=false)->Fp x (A++B)=A++x::B
 | [],_=>by
  cases B with
  | nil=>rfl
  | cons b bs=>simp only [List.nil_append,Fp,K b List.mem_cons_self,if_true]
 | a::A,O=>by
  have U:=O a List.mem_cons_self
  simp only [List.cons_append,Fp,U]
  rw [if_neg (by decide),Sz K λz Y=>O z (List.mem_cons_of_mem _ Y)]
theorem KC(l:List DT)(x:DT):DR (l++ [x])=Fp x (DR l):=by unfold DR;rw [List.foldl_append];rfl
theorem Qo{α:Type}(l:List α):l= []∨∃A y,l=A++ [y]:=by
 rcases List.eq_nil_or_concat l with h | ⟨A,y,h⟩
 ·exact .inl h
 ·exact .inr ⟨A,y,by rw [h,List.concat_eq_append]⟩
theorem R9:∀{k:Nat},k<=10->(3:Int) ^ k<=59049
 | 0,_ | 1,_ | 2,_ | 3,_ | 4,_ | 5,_ | 6,_ | 7,_ | 8,_ | 9,_ | 10,_=>by decide
 | _+11,h=>absurd h (by omega)
theorem KS{α:Type}{P:List α->Prop}(O:P [])(U:∀l x,P l->P (l++ [x])):∀l,P l:=by
 have:∀n (l:List α),l.length=n->P l:=by
  intro n
  induction n with
  | zero=>intro l K;cases List.length_eq_zero_iff.1 K;exact O
  | succ n Y=>
   intro l K;rcases Qo l with rfl | ⟨l',x,rfl⟩
   ·cases K
   ·exact U _ _ (Y _ (by simpa using K))
 exact λl=>this _ l rfl
theorem WH(l:List DT):NS (DR l):=KS (P:=λl=>NS (DR l)) List.Pairwise.nil (λl x h=>by rw [KC];exact R7 h) l
theorem QV{d:DT}(l:List DT):d∈DR l↔d∈l:=KS (P:=λl=>d∈DR l↔d∈l) (Iff.rfl) (λl x h=>by rw [KC,OE,h];simp [or_comm]) l
theorem QZ(l:List DT):(DR l).length=l.length:=KS (P:=λl=>(DR l).length=l.length) rfl (λl x h=>by rw [KC,Rg,h];simp) l
theorem Xv{F:Nat}{l:List DT}(aP:100<F)(aQ:l.length<=20)(hb:∀d∈l,BD d):f193 F l 0 (l.length:Int)=some (DR l):=by
 refine Ff ?_;unfold f193;refine BQ 1 rfl (by omega) (by omega) (BJ (S:=λr=>r=DR l) ?_ (λr ay=>AI ay));refine Fg (l.length - 1) (λi s=>s.1=((i+1:Nat):Int)/\s.2=DR (l.take (i+1))++l.drop (i+1)) ⟨rfl,?_⟩ (by omega) ?_ ?_
 ·cases l with
  | nil=>rfl
  | cons x xs=>rfl
 ·rintro i ⟨c,w⟩ hi ⟨O,hw⟩;simp only at O hw;subst O;have al:i+1<l.length:=by omega
  unfold MZ;refine DK (by simp only;omega) ?_;have az:l.drop (i+1)=l[i+1]::l.drop (i+2):=List.drop_eq_getElem_cons al;have ap:(DR (l.take (i+1))).length=i+1:=by rw [QZ,List.length_take];omega
  have aI:∀d∈DR (l.take (i+1)),BD d:=λd hd=>hb d (List.mem_of_mem_take ((QV _).1 hd));have aJ:BD l[i+1]:=hb _ (List.getElem_mem al);have aK:DR (l.take (i+2))=Fp l[i+1] (DR (l.take (i+1))):=by
   rw [List.take_add_one (i:=i+1),List.getElem?_eq_getElem al];exact KC _ _
  have aq:=WH (l.take (i+1));generalize l[i+1]=x at*;generalize DR (l.take (i+1))=P at*;generalize l.drop (i+2)=R at*;refine BJ (S:=λr=>r=Fp x P++R) ?_ ?_
  ·refine OM (λm s=>∃A B,A.length=m/\s.1=((m:Nat):Int)/\s.2=A++x::(B++R)/\A++B=P/\∀b∈B,FF x b=true) ?_ (m:=i+1) ⟨P,[],ap,rfl,by rw [hw,az];rfl,by simp,by simp⟩ (by omega);rintro m ⟨c,v⟩ ⟨A,B,Z,O,U,ac,av⟩;simp only at O U;subst O;have aR:A.length+B.length=i+1:=by rw [← ap,← ac,List.length_append]
   have aw:v[m]? =some x:=by rw [U,List.getElem?_append_right (by omega),Z,Nat.sub_self];rfl
   unfold OV;have stop:(∀a∈A,FF x a=false)->A++x::(B++R)=Fp x P++R:=by
    intro h;rw [← ac,Sz av h];simp
   refine BJ (S:=λc=>(c=true/\∃K y,A=K++ [y]/\FF x y=true)∨(c=false/\∀a∈A,FF x a=false)) ?_ ?_
   ·refine Dj (λh=>?_) (λh=>?_)
    ·simp only at h;rcases Qo A with rfl | ⟨K,y,rfl⟩
     ·simp at Z;omega
     have aL:K.length+1=m:=by simpa using Z
     have am:v[m - 1]? =some y:=by rw [U,List.append_assoc,List.getElem?_append_right (by omega),show m - 1 - K.length=0 by omega];rfl
     refine BE (K2 rfl aw) (BQ ((m - 1:Nat):Int) (by simp only;omega) (by omega) (by omega) ?_);refine BE (K2 rfl am) ?_;have aM:y∈P:=by rw [← ac];simp
     refine BJ (SB aJ (aI y aM)) ?_;rintro c ⟨c1,c2⟩;refine AI ?_;by_cases Y:FF x y=true
     ·exact .inl ⟨decide_eq_true (c1.2 Y),K,y,rfl,Y⟩
     ·refine .inr ⟨decide_eq_false λk=>Y (c1.1 k),λa ag=>?_⟩;rcases List.mem_append.1 ag with ag | ag
      ·rw [← ac,List.append_assoc] at aq;have aN:=(List.pairwise_append.1 aq).2.2 a ag y (by simp);have aS:=KY.1 aN;have aT:=KY.1 (Bool.eq_false_iff.2 Y);rw [KY];omega
      ·cases List.mem_singleton.1 ag;exact Bool.eq_false_iff.2 Y
    ·refine AI (.inr ⟨rfl,?_⟩);have:A= []:=by
      cases A with
      | nil=>rfl
      | cons a A=>simp at Z h;omega
     subst this;simp
   ·rintro c (⟨rfl,K,y,rfl,Y⟩ | ⟨rfl,aO⟩)
    ·have aL:K.length+1=m:=by simpa using Z
     have am:v[m - 1]? =some y:=by rw [U,List.append_assoc,List.getElem?_append_right (by omega),show m - 1 - K.length=0 by omega];rfl
     have aU:m<v.length:=by rw [U];simp;omega
     refine DK rfl (BQ ((m - 1:Nat):Int) (by simp only;omega) (by omega) (by omega) ?_);refine BQ ((m - 1:Nat):Int) (by simp only;omega) (by omega) (by omega) (BE (K2 rfl am) ?_);refine BE (K2 rfl aw) (Dk (m:=m - 1) rfl (by simp only [List.length_set];omega) ?_);refine BQ ((m - 1:Nat):Int) (by simp only;omega) (by omega) (by omega) (AI ⟨m - 1,by omega,K,y::B,by omega,rfl,?_,by rw [← ac];simp,λb hb=>?_⟩)
     ·simp only;rw [show Int.toNat ((m:Nat):Int)=K.length+1 by omega,show Int.toNat ((m - 1:Nat):Int)=K.length by omega,U];simp [List.set_append]
     ·rcases List.mem_cons.1 hb with rfl | hb
      ·exact Y
      ·exact av b hb
    ·exact C9 (by simp) (AI (U.trans (stop aO)))
  ·rintro r rfl;refine BQ ((i+1+1:Nat):Int) (by simp) (by omega) (by omega) (AI ⟨rfl,?_⟩);simp only;rw [aK]
 ·rintro⟨c,w⟩ ⟨O,hw⟩;simp only at O hw;subst O;unfold MZ;refine C9 (by simp only;omega) (AI ⟨_,rfl,?_⟩);simp only;rw [hw,List.take_of_length_le (by omega),List.drop_eq_nil_of_le (by omega),List.append_nil]
theorem XG{F:Nat}:∀n,n<=12->∃r,f115 F (CN ((n:Nat):Int))=some r
 | 0,_ | 1,_ | 2,_ | 3,_ | 4,_ | 5,_ | 6,_ | 7,_ | 8,_ | 9,_ | 10,_ | 11,_ | 12,_=>⟨_,rfl⟩
 | _+13,h=>absurd h (by omega)
theorem Zj{F:Nat}{l:List DT}(K:100<F)(O:l.length<=12)(hb:∀d∈l,BD d):f90 F l=some (DR l):=by
 obtain⟨F,rfl⟩:∃k,F=k+1:=⟨F - 1,by omega⟩;obtain⟨x,U⟩:=XG (F:=F+1) l.length O;refine Ff ?_;unfold f90;refine BE (b:=l) (by unfold f129 LU C3;rw [if_pos (by simp;omega)];rfl) (BE (b:=DR l) ?_ (AI rfl));refine Ff ?_;unfold f130;refine BE U (BE (b:=DR l) ?_ (AI rfl));refine Ff ?_;unfold f169;refine BJ (S:=λr=>r=Sum.inl (DR l)) ?_ (by rintro r rfl;rw [Sum.elim_inl];exact AI rfl);refine Fg 0 (λ_ _=>True) trivial (by omega) (by intro i s h;omega) ?_;rintro s -;unfold O2;refine BQ (l.length:Int) (by omega) (by omega) (by omega) (DK (by omega) ?_);exact BE (Xv K (by omega) hb) (AI ⟨_,rfl,rfl⟩)
def HF(n:Nat)(w:List Int)(S:List PR):Option (List DT):=(EM n S.length S w []).map DR
theorem XL{F:Nat}{o:OW}{S:List PR}(K:100<F)(h:VO o)(O:S.length<=10)(U:∀x∈S,VP o.1.length x):f135 F o S=some (match HF o.1.length (C5 o) S with | none=>([],false) | some r=>(r,true)):=by
 have Y:=h.n5;obtain⟨ac,g2⟩:=Nl K h;have Z:(200:Int)*3 ^ S.length<=1000000000000:=by
  have:=R9 O;omega
 have e:=Sc (q:=o) K rfl Y S.length F S (C5 o) [] 200 rfl (by omega) O U g2 (by omega) Z (by simp;omega);have e2:f175 F o S=some (match HF o.1.length (C5 o) S with | none=>(true,default) | some r=>(false,r)):=by
  refine Ff ?_;unfold f175;refine BE ac ?_;refine BE (show f203 F S (C5 o) o []=_ from e) ?_;unfold HF;rcases ag:EM o.1.length S.length S (C5 o) [] with _ | r
  ·exact DK rfl (AI rfl)
  ·refine C9 (by simp [LY]) ?_;obtain⟨k1,al⟩:=OF Y S.length S (C5 o) [] r 200 rfl U g2 (by omega) Z (by simp) ag;exact BE (Zj K (by show r.length<=12;rw [al];simp;omega) k1) (AI rfl)
 unfold f135;rw [e2,Option.bind_some];rcases HF o.1.length (C5 o) S with _ | r
 ·rfl
 ·rfl
def Hu:Nat->List PR->List (List PR)
 | 0,_=> [[]]
 | _+1,[]=> []
 | m+1,x::xs=>(Hu m xs).map (x::·)++Hu (m+1) xs
theorem Ok:∀(m:Nat) (l:List PR),(Hu m l).length<=2 ^ l.length
 | 0,l=>by simp only [Hu,List.length_singleton];exact Nat.one_le_two_pow
 | m+1,[]=>by simp [Hu]
 | m+1,x::xs=>by
  have K:=Ok m xs;have O:=Ok (m+1) xs
  simp only [Hu,List.length_append,List.length_map,List.length_cons]
  rw [Nat.pow_succ];omega
theorem Mt{x:PR}:∀{m:Nat} {l c:List PR},c∈Hu m l->c.length=m/\(x∈c->x∈l)
 | 0,l,c,h=>by rw [show Hu 0 l= [[]] by cases l <;> rfl] at h;cases List.mem_singleton.1 h;exact⟨rfl,λh=>by cases h⟩
 | m+1,[],c,h=>by cases h
 | m+1,y::ys,c,h=>by
  rcases List.mem_append.1 h with h | h
  ·obtain⟨U,O,rfl⟩:=List.mem_map.1 h
   have:=Mt (x:=x) O;exact⟨by rw [List.length_cons,this.1],λK=>by
    rcases List.mem_cons.1 K with rfl | K
    ·exact List.mem_cons_self
    ·exact List.mem_cons_of_mem _ (this.2 K)⟩
  ·have:=Mt (x:=x) h;exact⟨this.1,λK=>List.mem_cons_of_mem _ (this.2 K)⟩
def CV(n:Nat)(w:List Int)(P:PR->Bool)(m:Nat)(l ys:List PR):List (List DT):=(Hu m (ys.filter P)).filterMap λc=>HF n w (l++c)
theorem Q6{n:Nat}{w:List Int}{P:PR->Bool}{m:Nat}{l ys:List PR}:(CV n w P m l ys).length<=2 ^ ys.length:=by
 unfold CV;refine Nat.le_trans (List.length_filterMap_le _ _) (Nat.le_trans (Ok _ _) ?_);exact Nat.pow_le_pow_right (by decide) (List.length_filter_le _ _)
theorem VG{n:Nat}{w:List Int}{P:PR->Bool}{m:Nat}{l xs:List PR}{x:PR}(h:P x=false):CV n w P m l (x::xs)=CV n w P m l xs:=by unfold CV;rw [List.filter_cons_of_neg (by simp [h])]
theorem Vi{n:Nat}{w:List Int}{P:PR->Bool}{m:Nat}{l xs:List PR}{x:PR}(h:P x=true):CV n w P (m+1) l (x::xs)=CV n w P m (l++ [x]) xs++CV n w P (m+1) l xs:=by
 unfold CV;rw [List.filter_cons_of_pos h,Hu,List.filterMap_append,List.filterMap_map];congr 2;funext c;simp
theorem RN{F:Nat}{o:OW}{ag m:Nat}{K:List PR}{P:PR->Bool}(al:100<F)(h:VO o)(hm:m<=5)(aw:K.length<=10)(am:∀x∈K,VP o.1.length x)(ap:∀x,VP o.1.length x->f136 F ag x.1 x.2=some (!P x)):
  ∀(k N:Nat) (l:List PR) (i:Nat) (b:List (List DT)),l.length+k=m->k<N->i<=K.length->(∀x∈l,VP o.1.length x)->b.length+2 ^ (K.length - i)<=1000000->
   K0 N F l (i:Int) (m:Int) o K ag b=some (true,b++CV o.1.length (C5 o) P k l (K.drop i))
 | 0,N,l,i,b,ay,az,hi,ac,hb=>by
  obtain⟨N,rfl⟩:∃k,N=k+1:=⟨N - 1,by omega⟩
  have aN:1<=2 ^ (K.length - i):=Nat.one_le_two_pow
  refine Ff ?_
  simp only [K0]
  unfold LG
  refine DK (by omega) ?_
  refine BE (XL al h (by omega) ac) ?_
  refine BJ (S:=λr=>r=(true,b++CV o.1.length (C5 o) P 0 l (K.drop i))) ?_ (λr aI=>AI aI)
  have e:CV o.1.length (C5 o) P 0 l (K.drop i)=(HF o.1.length (C5 o) l).toList:=by
   unfold CV;simp only [Hu,List.filterMap_cons,List.append_nil,List.filterMap_nil];cases HF o.1.length (C5 o) l <;> rfl
  rw [e];rcases HF o.1.length (C5 o) l with _ | r
  ·exact DK rfl (AI (by simp))
  ·exact C9 (by simp) (Lu (by omega) (AI rfl))
 | k+1,N,l,i,b,ay,az,hi,ac,hb=>by
  obtain⟨N,rfl⟩:∃k,N=k+1:=⟨N - 1,by omega⟩;refine Ff ?_;simp only [K0];unfold LG;refine C9 (by omega) (BJ (S:=λr=>r=Sum.inr (b++CV o.1.length (C5 o) P (k+1) l (K.drop i))) ?_ (by rintro r rfl;rw [Sum.elim_inr];exact AI rfl));refine OM (λz s=>∃j,z=K.length - j/\j<=K.length/\s.2=((j:Nat):Int)/\s.1++CV o.1.length (C5 o) P (k+1) l (K.drop j)=b++CV o.1.length (C5 o) P (k+1) l (K.drop i)/\s.1.length+2 ^ (K.length - j)<=1000000) ?_ (m:=K.length - i) ⟨i,rfl,hi,rfl,rfl,hb⟩ (by omega);rintro z ⟨acc,c⟩ ⟨j,rfl,aO,aq,he,hlen⟩;simp only at aq he hlen;subst aq;unfold OT;refine Dj (λaJ=>?_) (λaK=>?_)
  ·simp only at aJ;have O:j<K.length:=by omega
   have hd:K.drop j=K[j]::K.drop (j+1):=List.drop_eq_getElem_cons O;have av:=am _ (List.getElem_mem O);have aP:2 ^ (K.length - j)=2 ^ (K.length - (j+1))+2 ^ (K.length - (j+1)):=by
    rw [show K.length - j=K.length - (j+1)+1 by omega,Nat.pow_succ];omega
   have aQ:0<2 ^ (K.length - (j+1)):=Nat.two_pow_pos _;refine BJ (S:=λr=>∃Y,r=Sum.inr Y/\Y++CV o.1.length (C5 o) P (k+1) l (K.drop (j+1))=acc++CV o.1.length (C5 o) P (k+1) l (K.drop j)/\Y.length+2 ^ (K.length - (j+1))<=1000000) ?_ ?_
   ·refine Dk (m:=j) rfl O (Dk (m:=j) rfl O ?_);refine BE (ap _ av) ?_;by_cases Z:P K[j]=true
    ·refine C9 (by simp [Z]) ?_;refine Dk (m:=j) rfl O ?_;refine BQ ((j+1:Nat):Int) (by simp) (by omega) (by omega) ?_;refine BL.L5 (by simp;omega) ?_;refine BE (RN al h hm aw am ap k N (l++ [K[j]]) (j+1) acc (by simp;omega) (by omega) (by omega) (λx U=>by
      rcases List.mem_append.1 U with U | U
      ·exact ac x U
      ·cases List.mem_singleton.1 U;exact av) (by omega)) ?_
     refine C9 (by simp) (AI ⟨_,rfl,?_,?_⟩)
     ·rw [hd,Vi Z,List.append_assoc]
     ·have:=Q6 (n:=o.1.length) (w:=C5 o) (P:=P) (m:=k) (l:=l++ [K[j]]) (ys:=K.drop (j+1));rw [List.length_drop] at this;rw [List.length_append];omega
    ·refine DK (by simp [Z]) (AI ⟨_,rfl,?_,by simp only;omega⟩);rw [hd,VG (Bool.eq_false_iff.2 Z)]
   ·rintro r ⟨Y,rfl,aL,aM⟩;rw [Sum.elim_inr];exact BQ ((j+1:Nat):Int) (by simp) (by omega) (by omega) (AI ⟨K.length - (j+1),by omega,j+1,rfl,by omega,rfl,aL.trans he,aM⟩)
  ·simp only at aK;refine AI ?_;have:K.drop j= []:=List.drop_eq_nil_of_le (by omega);rw [this] at he;show Sum.inr _=_;rw [← he];unfold CV;simp [Hu]
def FW(n:Nat)(w:List Int)(P:PR->Bool):List (List DT):=(((List.range n).map λm=>CV n w P m [] (Eo n)).find? λl=> !l.isEmpty).getD []
theorem Yg{F O:Nat}{o:OW}{P:PR->Bool}(Y:100<F)(h:VO o)(ag:∀x,VP o.1.length x->f136 F O x.1 x.2=some (!P x)):f71 F o O=some (FW o.1.length (C5 o) P):=by
 have Z:=h.n5;have al:=Qv Z;refine Ff ?_;unfold f71;have am:∀m,m<=5->f132 F o ((m:Nat):Int) O []=some (CV o.1.length (C5 o) P m [] (Eo o.1.length)):=by
  intro m hm;refine Ff ?_;unfold f132;refine BE (Xs Y Z) ?_;have ap:2 ^ ((Eo o.1.length).length - 0)<=2 ^ 10:=Nat.pow_le_pow_right (by decide) (by omega);exact BE (show f134 F [] 0 (m:Int) o (Eo o.1.length) O []=_ from RN Y h hm al (λx aq=>Rs aq) ag m F [] 0 [] (by simp) (by omega) (by omega) (by simp) (by simp at ap ⊢;omega)) (AI (by simp))
 refine Fg o.1.length (λi s=>s=(i:Int)/\∀j,j<i->CV o.1.length (C5 o) P j [] (Eo o.1.length)= []) ⟨rfl,by simp⟩ (by omega) ?_ ?_
 ·rintro i s hi ⟨rfl,U⟩;unfold NC;refine DK (by omega) (BE (am i (by omega)) ?_);refine Dj (λac=>AI ?_) (λaw=>?_)
  ·show _=_;unfold FW;rw [List.find?_map,show(List.range o.1.length).find? _=some i from List.find?_range_eq_some.2 ⟨?_,List.mem_range.2 hi,λj K=>?_⟩]
   ·rfl
   ·simp only [Function.comp];cases av:CV o.1.length (C5 o) P i [] (Eo o.1.length) with
    | nil=>rw [av] at ac;simp at ac
    | cons=>rfl
   ·simp only [Function.comp];rw [U j K];rfl
  ·refine BQ ((i+1:Nat):Int) (by simp) (by omega) (by omega) (AI ⟨rfl,λj K=>?_⟩);rcases Nat.lt_succ_iff_lt_or_eq.1 K with K | rfl
   ·exact U j K
   ·exact List.length_eq_zero_iff.1 (by omega)
 ·rintro s ⟨rfl,U⟩;unfold NC;refine C9 (by omega) (AI ⟨_,rfl,?_⟩);unfold FW;rw [List.find?_map,show(List.range o.1.length).find? _=none from List.find?_eq_none.2 ?_]
  ·rfl
  ·intro j K;simp only [Function.comp];rw [U j (List.mem_range.1 K)];simp
theorem Y0{F n:Nat}(U:n<=5)(x:PR)(K:VP n x):f136 F 0 x.1 x.2=some (!(λ_=>true) x):=by
 obtain⟨Y,Z,ac⟩:=K;obtain⟨a,O⟩:∃a:Nat,x.1=(a:Int):=⟨x.1.toNat,by omega⟩;obtain⟨b,hb⟩:∃b:Nat,x.2=(b:Int):=⟨x.2.toNat,by omega⟩;rw [O,hb];have:b<=4:=by omega
 have:a<b:=by omega
 match a,b with
 | 0,1 | 0,2 | 0,3 | 0,4 | 1,2 | 1,3 | 1,4 | 2,3 | 2,4 | 3,4=>rfl
 | 0,0=>omega
 | a+1,0=>omega
 | a+1,1=>omega
 | a+2,2=>omega
 | a+3,3=>omega
 | a+4,4=>omega
 | a,b+5=>omega
abbrev GR(o:OW):List (List DT):=FW o.1.length (C5 o) λ_=>true
theorem TI{F:Nat}{o:OW}(K:100<F)(h:VO o):f71 F o 0=some (GR o):=Yg K h λx O=>Y0 h.n5 x O
theorem WC{n:Nat}{w:List Int}{P:PR->Bool}{m:Nat}{s:List DT}(U:n<=5)(hm:m<=5)(hw:BN 200 w)(K:s∈CV n w P m [] (Eo n)):s.length=m/\∀d∈s,BD d:=by
 unfold CV at K;obtain⟨c,O,K⟩:=List.mem_filterMap.1 K;rw [List.nil_append] at K;unfold HF at K;obtain⟨r,Y,rfl⟩:=Option.map_eq_some_iff.1 K;have Z:=(Mt (x:=(0,0)) O).1;have ac:∀x∈c,VP n x:=λx ag=>Rs (List.mem_filter.1 ((Mt O).2 ag)).1;have al:(200:Int)*3 ^ c.length<=1000000000000:=by
  have:=R9 (k:=c.length) (by omega);omega
 obtain⟨k1,am⟩:=OF U c.length c w [] r 200 rfl ac hw (by omega) al (by simp) Y;refine⟨by rw [QZ,am,Z];simp,λd hd=>k1 d ((QV _).1 hd)⟩
theorem XM{n:Nat}{w:List Int}{P:PR->Bool}:FW n w P= []∨∃m,m<n/\FW n w P=CV n w P m [] (Eo n)/\(∀j,j<m->CV n w P j [] (Eo n)= []):=by
 unfold FW;rw [List.find?_map];rcases h:(List.range n).find? ((λl:List (List DT)=> !l.isEmpty)∘λm=>CV n w P m [] (Eo n)) with _ | m
 ·exact .inl rfl
 ·obtain⟨Y,K,O⟩:=List.find?_range_eq_some.1 h;refine .inr ⟨m,List.mem_range.1 K,rfl,λj U=>?_⟩;have:=O j U;simpa using this
theorem Pg{n:Nat}{w:List Int}{P:PR->Bool}(K:n<=5)(hw:BN 200 w):(FW n w P).length<=1024/\∃m,m<=5/\∀s∈FW n w P,s.length=m/\∀d∈s,BD d:=by
 rcases XM (n:=n) (w:=w) (P:=P) with h | ⟨m,hm,h,_⟩
 ·rw [h];exact⟨by simp,0,by omega,by simp⟩
 ·rw [h];refine⟨?_,m,by omega,λs O=>WC K (by omega) hw O⟩;exact Nat.le_trans Q6 (Nat.le_trans (Nat.pow_le_pow_right (by decide) (Qv K)) (by decide))
def Fb:List DT->List DT->Bool
 | [],[]=>false
 | [],_::_=>true
 | _::_,[]=>false
 | x::xs,y::ys=>if x=y then Fb xs ys else FF x y
theorem OD{a b:List DT}:∀{i:Nat},i<=a.length->i<=b.length->a.take i=b.take i->Fb a b=Fb (a.drop i) (b.drop i):=by
 induction a generalizing b with
 | nil=>intro i K _ _;simp at K;subst K;simp
 | cons x xs U=>
  intro i K O h;cases i with
  | zero=>simp
  | succ i=>
   cases b with
   | nil=>simp at O
   | cons y ys=>
    simp only [List.take_succ_cons,List.cons.injEq] at h;simp only [List.drop_succ_cons];rw [Fb,if_pos h.1];exact U (by simpa using K) (by simpa using O) h.2
theorem W9{F:Nat}{a b:List DT}(al:100<F)(am:a.length<=40)(U:∀d∈a,BD d)(Y:∀d∈b,BD d):BL (f112 F a b) (λc=>c<0↔Fb a b=true):=by
 unfold f112;refine BJ (S:=λr=>(∃c,r=Sum.inl c/\(c<0↔Fb a b=true))∨(r=Sum.inr ()/\a.length<=b.length/\a=b.take a.length)) ?_ ?_
 ·refine Fg a.length (λi s=>s=(i:Int)/\i<=b.length/\a.take i=b.take i) ⟨rfl,by simp,by simp⟩ (by omega) ?_ ?_
  ·rintro i s hi ⟨rfl,K,he⟩;unfold MN;have O:a.drop i=a[i]::a.drop (i+1):=List.drop_eq_getElem_cons hi;refine DK (by omega) (Dk (m:=i) rfl hi ?_);refine Dj (λh=>AI (.inl ⟨1,rfl,?_⟩)) (λh=>?_)
   ·rw [OD (i:=i) (by omega) K he,O,List.drop_eq_nil_of_le (by omega:b.length<=i)];simp [Fb]
   have hb:i<b.length:=by omega
   have Z:b.drop i=b[i]::b.drop (i+1):=List.drop_eq_getElem_cons hb;refine Dk (m:=i) rfl hb ?_;refine BJ (SB (U _ (List.getElem_mem hi)) (Y _ (List.getElem_mem hb))) ?_;rintro c ⟨c1,c2⟩;refine Dj (λh=>AI (.inl ⟨c,rfl,?_⟩)) (λh=>?_)
   ·rw [OD (i:=i) (by omega) K he,O,Z,Fb,if_neg (λk=>h (c2.2 k))];exact c1
   ·have heq:=c2.1 (Decidable.not_not.1 h);refine BQ ((i+1:Nat):Int) (by simp) (by omega) (by omega) ?_;refine AI ⟨rfl,by omega,?_⟩;rw [List.take_add_one,List.take_add_one,he,List.getElem?_eq_getElem hi,List.getElem?_eq_getElem hb,heq]
  ·rintro s ⟨rfl,K,he⟩;unfold MN;rw [List.take_length] at he;exact C9 (by omega) (AI ⟨_,rfl,.inr ⟨rfl,K,he⟩⟩)
 ·rintro r (⟨c,rfl,ac⟩ | ⟨rfl,ag,he⟩)
  ·rw [Sum.elim_inl];exact AI ac
  ·rw [Sum.elim_inr];have e:Fb a b=Fb [] (b.drop a.length):=by
    rw [OD (i:=a.length) (Nat.le_refl _) ag (by rw [List.take_length];exact he),List.drop_length]
   refine Dj (λh=>AI ?_) (λh=>AI ?_)
   ·rw [e];cases hd:b.drop a.length with
    | nil=>have:=congrArg List.length hd;simp at this;omega
    | cons=>simp [Fb]
   ·rw [e,List.drop_eq_nil_of_le (by omega)];simp [Fb]
def Er(b:List DT×Bool)(x:List DT):List DT×Bool:=if(!b.2 || Fb x b.1)=true then(x,true) else b
def Ii(l:List (List DT)):List DT:=(l.foldl Er ([],false)).1
theorem Ti{F:Nat}{o:OW}(aw:2000<F)(h:VO o):f22 F o=some (Ii (GR o),0):=by
 obtain⟨ay,al⟩:=Nl (F:=F) (by omega) h;obtain⟨am,m,hm,ap⟩:=Pg (P:=λ_=>true) h.n5 al;refine Ff ?_;unfold f22;refine BE (TJ (by omega) h) (C9 (by simp) ?_);refine BE (TI (by omega) h) (BJ (S:=λr=>r.1=Ii (GR o)) ?_ (λr Z=>AI (by rw [Z])));have aq:(GR o).length<=1024:=am;have ac:∀s∈GR o,s.length=m/\∀d∈s,BD d:=ap;generalize GR o=L at aq ac ⊢;refine Fg L.length (λi s=>s.2.2=(i:Int)/\(s.1,s.2.1)=(L.take i).foldl Er ([],false)/\∀d∈s.1,BD d) ⟨rfl,rfl,by simp⟩ (by omega) ?_ ?_
 ·rintro i ⟨b,t,c⟩ hi ⟨K,O,U⟩;simp only at K O U;subst K;obtain⟨az,ag⟩:=ac _ (List.getElem_mem hi);have av:(L.take (i+1)).foldl Er ([],false)=Er (b,t) L[i]:=by
   rw [List.take_add_one,List.getElem?_eq_getElem hi,List.foldl_append,← O];rfl
  unfold Nm;refine DK (by simp only;omega) (Dk (m:=i) rfl hi ?_);refine BE (b:=Er (b,t) L[i]) ?_ ?_
  ·refine Ff ?_;unfold f72;refine BJ (S:=λc=>c=(!t || Fb L[i] b)) ?_ ?_
   ·refine Dj (λh=>AI ?_) (λh=>?_)
    ·simp only at h;rw [h];rfl
    ·simp only at h;obtain rfl:t=true:=by simpa using h
     refine BJ (S:=λc=>c=Fb L[i] b) ?_ (λc K=>AI (by rw [K];simp));unfold f73 f74;refine BJ (S:=λc=>c<0↔Fb L[i] b=true) (BJ (W9 (by omega) (by omega) ag U) (λc K=>AI K)) ?_;intro c K;refine AI ?_;by_cases Y:Fb L[i] b=true
     ·rw [Y];exact decide_eq_true (K.2 Y)
     ·rw [Bool.eq_false_iff.2 Y];exact decide_eq_false λk=>Y (K.1 k)
   ·rintro c rfl;refine BJ (S:=λr=>r=Er (b,t) L[i]) ?_ (λr Z=>AI Z);unfold Er;refine Dj (λh=>AI ?_) (λh=>AI ?_)
    ·rw [if_pos h]
    ·rw [if_neg h]
  ·refine BQ ((i+1:Nat):Int) (by simp) (by omega) (by omega) (AI ⟨rfl,av.symm,?_⟩);simp only;unfold Er;split
   ·exact ag
   ·exact U
 ·rintro⟨b,t,c⟩ ⟨K,O,U⟩;simp only at K O U;subst K;rw [List.take_length] at O;unfold Nm;refine C9 (by simp) (AI ⟨_,rfl,?_⟩);simp only;unfold Ii;rw [← O]
theorem SY{F:Nat}{o:OW}(K:2000<F)(h:VO o):f24 F o=some (((GR o).length:Int),0):=by
 refine Ff ?_;unfold f24;refine BE (TJ (by omega) h) (C9 (by simp) ?_);exact BE (TI (by omega) h) (AI rfl)
theorem QK{l:List (List DT)}:Ii l= []∨Ii l∈l:=by
 have:∀l:List (List DT),(l.foldl Er ([],false)).1= []∨(l.foldl Er ([],false)).1∈l:=by
  intro l;refine KS (P:=λl=>(l.foldl Er ([],false)).1= []∨(l.foldl Er ([],false)).1∈l) (.inl rfl) (λl x h=>?_) l;rw [List.foldl_append];show(Er _ x).1= []∨(Er _ x).1∈l++ [x];generalize l.foldl Er ([],false)=b at*;unfold Er;split
  ·exact .inr (by simp)
  ·rcases h with h | h
   ·exact .inl h
   ·exact .inr (List.mem_append_left _ h)
 exact this l
theorem Us{o:OW}(h:VO o):(Ii (GR o)).length<=5:=by
 obtain⟨U,K⟩:=Nl (F:=101) (by omega) h;obtain⟨Y,m,hm,O⟩:=Pg (P:=λ_=>true) h.n5 K;rcases QK (l:=GR o) with e | e
 ·rw [e];simp
 ·have:=(O _ e).1;omega
end Pal
namespace Pal
open Go Go.Conc Go.Proofs
open Go.Proofs.Tryz
variable {J:Judge Tryz.prog}{E:LH}
end Pal
namespace Pal
theorem XW{w:List Int}{d:DT}(h:w.length=5)(a1:0<=d.1)(K:d.1<5)(O:0<=d.2.1)(U:d.2.1<5)(j:Nat):gN (JM w d) j=gN w j+(if(j:Int)=d.2.1 then d.2.2 else 0)+(if(j:Int)=d.1 then -d.2.2 else 0):=by
 unfold JM;rw [To (by unfold Hf;rw [List.length_set];exact h) a1 K,To h O U]
theorem Sy{w:List Int}{d:DT}(h:w.length=5):(JM w d).length=5:=by unfold JM Hf;rw [List.length_set,List.length_set];exact h
end Pal
namespace Pal
def Ct(d:DT):DT:=(d.1,d.2.1,d.2.2+d.2.2)
def Fv(w:List Int):List Int:=w.map λx=>x+x
theorem Pz(w:List Int)(j:Nat):gN (Fv w) j=gN w j+gN w j:=by
 unfold gN Fv;rw [List.getD_eq_getElem?_getD,List.getElem?_map,List.getD_eq_getElem?_getD];cases w[j]? <;> simp
theorem RP(w:List Int)(i v:Int):Hf (Fv w) i (v+v)=Fv (Hf w i v):=by
 unfold Hf;rw [Pz];unfold Fv;rw [List.map_set];congr 1;omega
theorem Xm(w:List Int)(d:DT):Kk (Fv w) (Ct d)=Fv (Kk w d):=by
 unfold Kk Ct;simp only;rw [RP,show -(d.2.2+d.2.2)= -d.2.2+ -d.2.2 by omega,RP]
theorem ai(p:Int)(x:PR)(m:Int):dP p x (m+m)=Ct (dP p x m):=by
 unfold dP Ct;by_cases h:0<m
 ·rw [if_pos h,if_pos (by omega)]
 ·rw [if_neg h,if_neg (by omega)];refine Prod.ext rfl (Prod.ext rfl ?_);simp only;omega
theorem Xr{w u:List Int}:Fv w=Fv u->w=u:=by
 unfold Fv;intro h;refine List.map_inj_right (f:=λx:Int=>x+x) (λa b h=>?_) |>.1 h;have h:a+a=b+b:=h;omega
theorem Rq(n:Nat):∀(k:Nat) (l:List PR) (w:List Int) (out:List DT),EM n k l (Fv w) (out.map Ct)=(EM n k l w out).map (List.map Ct)
 | 0,l,w,out=>by
  unfold EM
  have K:Fv (List.replicate 5 0)=List.replicate 5 0:=rfl
  by_cases h:w=List.replicate 5 0
  ·rw [if_pos h,if_pos (by rw [h];exact K)];rfl
  ·rw [if_neg h,if_neg (λe=>h (Xr (e.trans K.symm)))];rfl
 | k+1,l,w,out=>by
  unfold EM;cases JF n l with
  | none=>rfl
  | some p=>
   simp only [Option.bind_some,Pz,ai,Xm];by_cases h:gN w p=0
   ·rw [if_pos h,if_pos (by omega)];rfl
   ·rw [if_neg h,if_neg (by omega),← Rq n k,List.map_append];rfl
theorem S8(a b:DT):FF (Ct a) (Ct b)=FF a b:=by
 unfold FF Ct;simp only;congr 1;refine propext ⟨λh=>?_,λh=>?_⟩ <;> omega
theorem RO(x:DT):∀l:List DT,Fp (Ct x) (l.map Ct)=(Fp x l).map Ct
 | []=>rfl
 | y::ys=>by
  simp only [List.map_cons,Fp,S8]
  split
  ·rfl
  ·rw [RO x ys];rfl
theorem Wz(l:List DT):DR (l.map Ct)=(DR l).map Ct:=KS (P:=λl=>DR (l.map Ct)=(DR l).map Ct) rfl (λl x h=>by rw [List.map_append,List.map_singleton,KC,KC,h,RO]) l
theorem Xz(n:Nat)(w:List Int)(S:List PR):HF n (Fv w) S=(HF n w S).map (List.map Ct):=by
 unfold HF;rw [show EM n S.length S (Fv w) []=_ from Rq n S.length S w []];cases EM n S.length S w [] with
 | none=>rfl
 | some r=>simp [Wz]
theorem R6(n:Nat)(w:List Int)(P:PR->Bool)(m:Nat)(l ys:List PR):CV n (Fv w) P m l ys=(CV n w P m l ys).map (List.map Ct):=by
 unfold CV;rw [List.map_filterMap];congr 1;funext c;rw [Xz]
theorem ZQ(n:Nat)(w:List Int)(P:PR->Bool):FW n (Fv w) P=(FW n w P).map (List.map Ct):=by
 unfold FW;rw [List.find?_map,List.find?_map];have:((λl:List (List DT)=> !l.isEmpty)∘λm=>CV n (Fv w) P m [] (Eo n))=((λl:List (List DT)=> !l.isEmpty)∘λm=>CV n w P m [] (Eo n)):=by
  funext m;simp only [Function.comp,R6,List.isEmpty_map]
 rw [this];cases (List.range n).find? _ with
 | none=>rfl
 | some m=>simp [R6]
theorem Tm:∀a b:List DT,Fb (a.map Ct) (b.map Ct)=Fb a b
 | [],[]=>rfl
 | [],_::_=>rfl
 | _::_,[]=>rfl
 | x::xs,y::ys=>by
  simp only [List.map_cons,Fb,S8]
  have:Ct x=Ct y↔x=y:=by
   obtain⟨K,x2,O⟩:=x;obtain⟨U,Y,Z⟩:=y;unfold Ct;simp only [Prod.mk.injEq];omega
  by_cases h:x=y
  ·rw [if_pos h,if_pos (this.2 h),Tm xs ys]
  ·rw [if_neg h,if_neg (λe=>h (this.1 e))]
theorem Wr(l:List (List DT)):Ii (l.map (List.map Ct))=(Ii l).map Ct:=by
 have:∀l:List (List DT),(l.map (List.map Ct)).foldl Er ([],false)=((l.foldl Er ([],false)).1.map Ct,(l.foldl Er ([],false)).2):=by
  refine KS rfl λl x h=>?_;rw [List.map_append,List.foldl_append,h,List.foldl_append];generalize l.foldl Er ([],false)=b;show Er (b.1.map Ct,b.2) (x.map Ct)=((Er b x).1.map Ct,(Er b x).2);unfold Er;simp only [Tm];split <;> rfl
 unfold Ii;rw [this]
theorem XR{o:OW}(h:VO o):C5 (o.1,o.2++o.2)=Fv (C5 o):=by
 have am:=h.n5;have U:∀d∈o.2,0<=d.1/\d.1<5/\0<=d.2.1/\d.2.1<5:=λd hd=>by
  obtain⟨v1,v2,ap,v4,_⟩:=h.ds d hd;omega
 have hlen:∀(ds:List DT) (w:List Int),w.length=5->(ds.foldl JM w).length=5:=by
  intro ds
  induction ds with
  | nil=>exact λw hw=>hw
  | cons d ds O=>exact λw hw=>O _ (Sy hw)
 have key:∀(j:Nat) (ds:List DT) (w:List Int),w.length=5->(∀d∈ds,0<=d.1/\d.1<5/\0<=d.2.1/\d.2.1<5)->gN (ds.foldl JM w) j=gN w j+(ds.map λd=>(if(j:Int)=d.2.1 then d.2.2 else 0)+(if(j:Int)=d.1 then -d.2.2 else 0)).sum:=by
  intro j ds
  induction ds with
  | nil=>intro w _ _;simp
  | cons d ds O=>
   intro w hw hd;obtain⟨a1,Y,Z,ac⟩:=hd d List.mem_cons_self;rw [List.foldl_cons,O _ (Sy hw) (λx ag=>hd x (List.mem_cons_of_mem _ ag)),XW hw a1 Y Z ac,List.map_cons,List.sum_cons];omega
 have K:(List.replicate 5 (0:Int)).length=5:=rfl;have al:∀j,gN (List.replicate 5 (0:Int)) j=0:=by
  intro j;unfold gN;rw [List.getD_eq_getElem?_getD,List.getElem?_replicate];split <;> rfl
 refine Wu (hlen _ _ K) (by unfold Fv;rw [List.length_map];exact hlen _ _ K) λj aq=>?_;rw [Pz];unfold C5;rw [key j _ _ K (λd hd=>U d (by rcases List.mem_append.1 hd with h | h <;> exact h)),key j _ _ K U,List.map_append,List.sum_append,al];omega
theorem Zy{F:Nat}(O:2000<F)(ac:f18 F=some true)(TN:List Int):f7 F TN=some true:=by
 refine Ff ?_;unfold f7;refine BJ (S:=λb=>BG 0 b) ?_ ?_
 ·unfold f20;exact AI ⟨Int.le_refl 0,Int.le_refl 0⟩
 intro b hb;refine BJ (YZ (pm:=5) (dm:=4) (by omega) hb (by omega) (by omega) (by omega) (by omega)) ?_;rintro⟨o,av⟩ ⟨K,ag,hd,al⟩;simp only at K ag hd al ⊢;have U:VO (o.1,o.2++o.2):=⟨K.n2,K.n5,K.cs,by simp;omega,λx U=>K.ds x (by rcases List.mem_append.1 U with h | h <;> exact h)⟩;refine BE (b:=o) ?_ ?_
 ·refine Ff ?_;unfold NO;have n:=K.nv;refine BE (YM (by omega) n.l1 n.n1) (BE (b:=o.2) ?_ (AI rfl));unfold NJ;have:C3 ([]:List DT) o.2=some o.2:=by unfold C3;rw [if_pos (by simp;omega)];rfl
  rw [this];rfl
 refine BL.L5 (by omega) (BE (Ti O K) ?_);refine BE (Ti O U) (BE (SY O K) ?_);refine BE (SY O U) ?_;have e:GR (o.1,o.2++o.2)=(GR o).map (List.map Ct):=by
  show FW _ (C5 _) _=_;rw [XR K];exact ZQ _ _ _
 have aw:=Us K;have am:∀d∈Ii (GR o),BD d:=by
  obtain⟨ay,ap⟩:=Nl (F:=F) (by omega) K;obtain⟨az,m,hm,aq⟩:=Pg (P:=λ_=>true) K.n5 ap;rcases QK (l:=GR o) with e | e
  ·rw [e];simp
  ·exact(aq _ e).2
 rw [e,Wr,List.length_map];simp only [ne_eq,not_true_eq_false,decide_false,if_false,Option.bind_some,Bool.false_eq_true,List.length_map];generalize Ii (GR o)=L at*;refine BJ (S:=λq=>q=Sum.inr ()) ?_ ?_
 ·refine Fg L.length (λi s=>s=(i:Int)) rfl (by omega) ?_ ?_
  ·rintro i s hi rfl;have hb:=am _ (List.getElem_mem hi);unfold BD at hb;have Y:i<(L.map Ct).length:=by rw [List.length_map];exact hi
   have Z:(L.map Ct)[i]=Ct L[i]:=List.getElem_map ..;unfold NB;refine DK (by simp only;omega) ?_;refine Dk (m:=i) rfl Y ?_;refine Dk (m:=i) rfl hi ?_;rw [Z];refine BJ (S:=λc=>c=false) ?_ ?_
   ·refine C9 (by unfold Ct;simp) (Dk (m:=i) rfl Y ?_);refine Dk (m:=i) rfl hi ?_;rw [Z];exact AI (by unfold Ct;simp)
   rintro c rfl;refine BJ (S:=λc=>c=false) ?_ ?_
   ·refine C9 (by decide) (Dk (m:=i) rfl Y ?_);refine Dk (m:=i) rfl hi (Dk (m:=i) rfl hi ?_);refine BQ _ rfl (by simp only;omega) (by simp only;omega) ?_;rw [Z];exact AI (by unfold Ct;simp)
   rintro c rfl;refine C9 (by decide) (BQ ((i+1:Nat):Int) (by simp) (by omega) (by omega) ?_);exact AI rfl
  ·rintro s rfl;unfold NB;exact C9 (by simp only;omega) (AI ⟨_,rfl,rfl⟩)
 ·rintro q rfl;rw [Sum.elim_inr];exact BE ac (AI rfl)
end Pal
