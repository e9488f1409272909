/- DebtKept states that all nets together are 0: a part (5 of 9) of the proof of its row. -/
import Derived.Test.YtmeophcclkejkaaGreatDoorKea
import Derived.Test.YtmeophcclkejkaaGreatDoorKeb
import Derived.Test.YtmeophcclkejkaaGreatDoorKec
import Derived.Test.YtmeophcclkejkaaGreatDoorKed
import Derived.Handed
import Derived.LaidLaws
import Derived.LaidHandle
import Derived.Test.YtmeophcclkejkaaGreatDoorRows
import Derived.Test.YtmeophcclkejkaaGreatDoorChecked
import Derived.Conc.LeavingOf
import Derived.Conc.HoldsTime
import Derived.Carry
import Derived.ChangeSame
import Derived.ChangeVars
import Derived.ChangeSlices
import Derived.JoinedOf
import Derived.RowKit
import Derived.Deep.Strs
import Derived.Stop.Joined
set_option linter.all false
set_option maxRecDepth 100000
namespace Pal
open Go Go.Conc Go.Conc.Lib Go.Proofs Go.ConcR.Gen
theorem JL.uA{J:Judge Tryz.prog}{F:Fam}{Q:GP}{b:Frame}{n:Nat}{L:Env}{ds:Ld_}{k:Li_}{cs:Lf_}{s:St}{ops:Ao_}{i:Nat}{rest:List Nat}{d:Option Tmp}{x:Operand}{ty:TypeId}{p:String}{af:Ae_}{g:On_}(K:Fi b n L ops i=some ⟨d,.fieldAddr 136 x 0,ty,p,af,g⟩)(O:ev L x=some (.pointer (some F.uA)))(h:JL J Q b n (Au L d (.pointer (some F.uA))) ds (.inRegion ops rest::k) cs s):JL J Q b n L ds (.inRegion ops (i::rest)::k) cs s:=Am K (λρ h=>DJ (a:=F.uA) 0 0 Tryz.underlying136 (AN Tryz.type21) V V V (h _ _ O)) h
theorem aF{P:Program}{J:Judge P}{Q:GP}{n:Nat}{L:Env}{ds:Ld_}{c:Code}{k:Li_}{cs:Lf_}{s:St}{b:Frame}(h:∀K,K=k->JL J Q b n L ds (.code c::K) cs s):JL J Q b n L ds (.code c::k) cs s:=h _ V
theorem TZ{P:Program}{J:Judge P}{Q:GP}{n:Nat}{L:Env}{ds:Ld_}{k:Li_}{cs:Lf_}{s:St}{b:Frame}(h:∀K,K=k->JL J Q b n L ds K cs s):JL J Q b n L ds k cs s:=h _ V
theorem Io:(Tryz.prog.funcs[168]?).any (·.norace)=true:=by rw [Tryz.func168];rfl
theorem cm:(Tryz.prog.funcs[136]?).any (·.norace)=true:=by rw [Tryz.func136];rfl
theorem bC:(Tryz.prog.funcs[170]?).any (·.norace)=true:=by rw [Tryz.func170];rfl
theorem PU:(Tryz.prog.funcs[192]?).any (·.norace)=true:=by rw [Tryz.func192];rfl
theorem O1:(Tryz.prog.info? 136).map (λi=>decide (i.size=0))=some false:=(congrArg (Option.map (λi=>decide (i.size=0))) Tryz.type136).trans V
abbrev GZ:=Bool×Bool×Nat×M4×Int
def Ud(a:GZ):Prop:=(a.2.1=true->a.2.2.2.1.k=true)/\a.2.2.1<=4/\C4 a.2.2.2.1
def PQ(a:GZ):LP:= .Ce a.1 a.2.1 a.2.2.1 a.2.2.2.1
theorem YT{F:Fam}{sv aw:Bool}{it:Nat}{old:M4}{q:Nat}(h:old.l=false/\old.s=false):(mN sv aw old,q,#[Fam.B8 F.uA,Fam.Ek F.uA],some LP.len)∈F.BV (.Ce sv aw it old) old q:=by
 obtain⟨l,k,s,w⟩:=old;obtain⟨K,O⟩:=h;simp only at K O;subst K O;simp [Fam.BV,Fam.Fv,mN]
theorem RG{F:Fam}{sv aw:Bool}{it:Nat}{old:M4}{q:Nat}(h:¬(old.l=false/\old.s=false))(x:LP)(K:x= .Ij sv∨x= .Co sv):(mN sv aw old,q,#[Fam.B8 F.uA,Fam.Ek F.uA],some x)∈F.BV (.Ce sv aw it old) old q:=by
 obtain⟨l,k,s,w⟩:=old;show _∈F.Fv _ _ _ _ _ _;unfold Fam.Fv;rw [List.mem_append];right;rw [if_pos rfl,if_neg h];cases l <;> cases s <;> simp [mN] at h ⊢ <;> rcases K with rfl | rfl <;> simp
theorem WS{F:Fam}{sv aw:Bool}{it:Nat}{old m:M4}{q:Nat}(h:m≠old):(m,q,#[Fam.B8 F.uA],some (LP.Ef sv aw it))∈F.BV (.Ce sv aw it old) m q:=by
 show _∈F.Fv _ _ _ _ _ _;unfold Fam.Fv;rw [List.mem_append];right;rw [if_neg h];exact List.mem_singleton.2 V
theorem Yx{F:Fam}{sv:Bool}{it:Nat}{old:M4}{q:Nat}(K:old.l=true/\old.s=false)(O:it<4)(U:old.k=false)(Y:old.w≠0):(({old with k:=true}:M4),q,#[Fam.B8 F.uA,Fam.Ek F.uA],some (LP.Ef sv true (it+1)))∈F.BV (.Ce sv false it old) old q:=by
 show _∈F.Fv _ _ _ _ _ _;unfold Fam.Fv;rw [List.mem_append];left;rw [if_pos ⟨K.1,K.2,O⟩,if_pos ⟨rfl,U,Y⟩,if_pos rfl];exact List.mem_singleton.2 V
theorem Yn{F:Fam}{sv:Bool}{it:Nat}{old m:M4}{q:Nat}(K:old.l=true/\old.s=false)(O:it<4)(U:old.k=false)(Y:old.w≠0)(hm:m≠old):(m,q,#[Fam.B8 F.uA],some (LP.Ef sv false (it+1)))∈F.BV (.Ce sv false it old) m q:=by
 show _∈F.Fv _ _ _ _ _ _;unfold Fam.Fv;rw [List.mem_append];left;rw [if_pos ⟨K.1,K.2,O⟩,if_pos ⟨rfl,U,Y⟩,if_neg hm];exact List.mem_singleton.2 V
theorem OY{F:Fam}{sv aw:Bool}{it:Nat}{old m:M4}{q:Nat}(K:old.l=true/\old.s=false)(O:it<4)(U:¬(aw=false/\old.k=false/\old.w≠0)):(m,q,#[],some (LP.Ce sv aw (it+1) m))∈F.BV (.Ce sv aw it old) m q:=by
 show _∈F.Fv _ _ _ _ _ _;unfold Fam.Fv;rw [List.mem_append];left;rw [if_pos ⟨K.1,K.2,O⟩,if_neg U];exact List.mem_singleton.2 V
theorem G0(m:M4)(h:m.s=true):m={m with l:=m.l || !m.s}:=by
 obtain⟨l,k,s,w⟩:=m;simp only at h;subst h;simp
set_option maxHeartbeats 4000000 in
theorem Wh{F:Fam}{n:Nat}{L:Env}{ds:Ld_}{k:Li_}{cs:Lf_}{s:St}{b:Frame}{ops:Ao_}{i:Nat}{rest:List Nat}{d:Option Tmp}{x:Operand}{ats:Array TypeId}{ty:TypeId}{pp:String}{af:Ae_}{g:On_}{kk:Nat}(ac:s.q=false)(cX:ops[i]? =some ⟨d,.call ⟨.value (.func 168),#[x],ats⟩,ty,pp,af,g⟩)(hw:AM L ops ⟨d,.call ⟨.value (.func 168),#[x],ats⟩,ty,pp,af,g⟩=some true)(cY:((b.kind != .early)&&Bf n d)=true)(cZ:ev L x=some (.pointer (some F.uA)))
  (h:JL (AU Tryz.prog false) (Stop Tryz.prog F (.lk kk .Fy)) b n (Au L d (.tuple #[])) ds (.inRegion ops rest::k) cs s):
  JL (AU Tryz.prog false) (Stop Tryz.prog F (.lk kk (.Ef false false 0))) b n L ds (.inRegion ops (i::rest)::k) cs s:=by
 refine Hb (vs:= [.pointer (some F.uA)]) cX hw cY Tryz.func168 (by decide+kernel) V (by simp [evs,cZ]) (Nat.le_of_ble_eq_true V) λcp back=>C 20 V (JL.uA V V ?_);refine Ha (kk:=kk) (p:= .Ef false false 0) CR.stop ac V V V V V G3 Io V λct de ca=>⟨some (.Ce false false 0 ct),List.mem_singleton.2 V,?_⟩;refine C 3 V (aF λc0 c4=>?_);have a4:∀X:Ph->GP,CR Tryz.prog F X->(∀p g s,Stop Tryz.prog F p g s->X p g s)->∀L',look L' 0=some (.pointer (some F.uA))->JL (AU Tryz.prog false) (X (.lk kk .len)) (base 168) Tryz.f168.ntmps L' [] c0 (cp::cs) s:=by
  intro X O a1 L' c5;rw [c4];refine DW (L':= [(0,.pointer (some F.uA))]) ⟨c5,trivial⟩ (C 3 V ?_);refine K1 (kk:=kk) (p:= .len) O ac V (λ_ _=>V) V V V V (by simp) N3 (C 3 V ?_);refine ON (kk:=kk) (p:= .KF) O ac V (λ_ _=>V) V V V V Tryz.underlying247 Tryz.underlying174 O1 V (O5 (kk:=kk) (p:= .JZ) (ad:=F.uA) O ac V (λ_ _=>V) V V V V (by simp) TU V V ?_);refine JL.done (JL.fin V V (By.none Tryz.func168 V) (back _ _ _ _ ?_));exact M0 (λg s=>a1 _ g s) h
 refine JL.block (H7 ?_);refine Ep [(0,.pointer (some F.uA)),(2,iV 0),(3,.bool false),(4,.bool false),(5,iV ((0:Nat):Int)),(6,.int .i32 (ct:M4).num)] V (TZ λcw a9=>?_);refine TA (P:=Tryz.prog) (F:=F) (s:=s) (kk:=kk) (ph:=PQ) (ok:=Ud) (head:=λ(X:Ph->GP) (a:GZ)=>JL (AU Tryz.prog false) (X (.lk kk (PQ a))) (base 168) Tryz.f168.ntmps ([(0,.pointer (some F.uA)),(2,iV a.2.2.2.2),(3,.bool a.1),(4,.bool a.2.1),(5,iV (a.2.2.1:Int)),(6,.int .i32 (a.2.2.2.1:M4).num)]) [] cw (cp::cs) s) ?_ (false,false,0,ct,0) ⟨(λe=>by cases e),Nat.zero_le _,ca.2.2.1⟩;intro Y cc df hC;have key:∀N (a:GZ),4 - a.2.2.1<N->Ud a->(λ(X:Ph->GP) (a:GZ)=>JL (AU Tryz.prog false) (X (.lk kk (PQ a))) (base 168) Tryz.f168.ntmps ([(0,.pointer (some F.uA)),(2,iV a.2.2.2.2),(3,.bool a.1),(4,.bool a.2.1),(5,iV (a.2.2.1:Int)),(6,.int .i32 (a.2.2.2.1:M4).num)]) [] cw (cp::cs) s) Y a:=by
  intro N
  induction N with
  | zero=>intro a cK;omega
  | succ N ce=>
   rintro⟨sv,aw,it,old,wt⟩ c6 ca;simp only at c6;have c7:aw=true->old.k=true:=ca.1;have cy:C4 old:=ca.2.2;have a5:Cf old:=cy.Cf;show JL (AU Tryz.prog false) (Y (.lk kk (.Ce sv aw it old))) (base 168) Tryz.f168.ntmps [(0,.pointer (some F.uA)),(2,iV wt),(3,.bool sv),(4,.bool aw),(5,iV (it:Int)),(6,.int .i32 (old:M4).num)] [] cw (cp::cs) s;rw [a9];refine C 2 V (Br (λL s'=>s=s'/\L= [(0,.pointer (some F.uA)),(2,iV wt),(3,.bool sv),(4,.bool aw),(5,iV (it:Int)),(6,.int .i32 (old:M4).num)]) ?_ ?_)
   rotate_left
   ·intro a2;refine C 3 V (Am (v:=CL (Bw old&&& 5)) V (λρ h=>En (c:=5) a5 (h _ _ V) (h _ _ V) (by decide)) ?_);refine C 2 V (LJ (q:=((Bw old&&& 5:Nat):Int)=1) (i:=17) V (λcM=>?_) (λcM=>?_))
    ·refine Am (v:=iV (it:Int)) V (λρ h=>Yl.move (h _ _ V)) (JL.canSpin (it:=(it:Int)) ac V V V V ah V (λGh=>?_) ?_)
     ·refine Am (v:= .bool true) V (λρ h=>LG (h _ _ V) (h _ _ V)) ?_;have a6:=(cu old).1 cM;refine C 5 V ?_;have ci:it<4:=by omega
      refine C 1 V (Am (v:= .bool (!aw)) V (λρ h=>Yl.not (h _ _ V)) ?_);refine C 1 V (Ki (c:= !aw) (i:=23) V (λc1=>?_) (λc1=>?_))
      ·refine Am (v:= .int .i32 (old:M4).num) V (λρ h=>Yl.move (h _ _ V)) (Am (v:=CL (Bw old&&& 2)) V (λρ h=>En (c:=2) a5 (h _ _ V) (h _ _ V) (by decide)) ?_);refine C 3 V (LJ (q:=((Bw old&&& 2:Nat):Int)=0) (i:=28) V (λc2=>?_) (λc2=>?_))
       ·refine Am (v:= .int .i32 (old:M4).num) V (λρ h=>Yl.move (h _ _ V)) (Am (v:=CL old.w) V (λρ h=>IC a5 (h _ _ V) (h _ _ V)) ?_);refine C 3 V (LJ (q:=(old.w:Int)≠0) (i:=33) V (λc3=>?_) (λc3=>?_))
        ·have c8:aw=false:=by simpa using c1
         subst c8;have cO:=(PX old).1 c2;have cP:old.w≠0:=by omega
         refine C 2 V (JL.uA V V ?_);refine C 2 V (Am (v:= .int .i32 ({old with k:=true}:M4).num) V (λρ h=>Ny (c:=2) a5 (by decide) (Qd old) V (h _ _ V) (h _ _ V)) ?_);refine RZ (kk:=kk) (p:= .Ce sv false it old) (old:=old) (nw:={old with k:=true}) cc ac V V V V V NQ V V V (λq a7=>⟨some (.Ef sv true (it+1)),Yx a6 ci cO cP,?_⟩) (λm q hm a7=>⟨some (.Ef sv false (it+1)),Yn a6 ci cO cP hm,?_⟩)
         ·refine Am (v:= .bool true) V (λρ h=>LG (h _ _ V) (h _ _ V)) (C 7 V ?_);refine JL.ext (v:= .tuple #[]) V V V LM V V (C 4 V ?_);refine Am (v:=iV ((it+1:Nat):Int)) V (λρ h=>Fq (h _ _ V) (h _ _ V) (by unfold Av;rw [if_pos (by omega)];congr 1)) (C 6 V ?_);refine JL.uA V V (Ha (kk:=kk) (p:= .Ef sv true (it+1)) cc ac V V V V V G3 Io V λbb cQ b2=>⟨some (.Ce sv true (it+1) bb),List.mem_singleton.2 V,?_⟩);refine C 3 V (JL.again ?_);rw [← a9];exact Ep [(0,.pointer (some F.uA)),(2,iV wt),(3,.bool sv),(4,.bool true),(5,iV ((it+1:Nat):Int)),(6,.int .i32 (bb:M4).num)] V (ce (sv,true,it+1,bb,wt) (by show 4 - (it+1)<N;omega) ⟨b2.2.2.2,(by show it+1<=4;omega),b2.2.2.1⟩)
         ·refine Am (v:= .bool false) V (λρ h=>LG (h _ _ V) (h _ _ V)) (C 5 V ?_);refine JL.ext (v:= .tuple #[]) V V V LM V V (C 4 V ?_);refine Am (v:=iV ((it+1:Nat):Int)) V (λρ h=>Fq (h _ _ V) (h _ _ V) (by unfold Av;rw [if_pos (by omega)];congr 1)) (C 6 V ?_);refine JL.uA V V (Ha (kk:=kk) (p:= .Ef sv false (it+1)) cc ac V V V V V G3 Io V λbb cQ b2=>⟨some (.Ce sv false (it+1) bb),List.mem_singleton.2 V,?_⟩);refine C 3 V (JL.again ?_);rw [← a9];exact Ep [(0,.pointer (some F.uA)),(2,iV wt),(3,.bool sv),(4,.bool false),(5,iV ((it+1:Nat):Int)),(6,.int .i32 (bb:M4).num)] V (ce (sv,false,it+1,bb,wt) (by show 4 - (it+1)<N;omega) ⟨b2.2.2.2,(by show it+1<=4;omega),b2.2.2.1⟩)
        ·refine Ih V V V (C 12 V ?_);refine JL.ext (v:= .tuple #[]) V V V LM V V (C 4 V ?_);refine Am (v:=iV ((it+1:Nat):Int)) V (λρ h=>Fq (h _ _ V) (h _ _ V) (by unfold Av;rw [if_pos (by omega)];congr 1)) (C 6 V ?_);refine JL.uA V V (Ha (kk:=kk) (p:= .Ce sv aw it old) cc ac V V V V V G3 Io V λm q a7=>⟨some (.Ce sv aw (it+1) m),OY a6 ci (λe=>c3 (by omega)),?_⟩);refine C 3 V (JL.again ?_);rw [← a9];exact Ep [(0,.pointer (some F.uA)),(2,iV wt),(3,.bool sv),(4,.bool aw),(5,iV ((it+1:Nat):Int)),(6,.int .i32 (m:M4).num)] V (ce (sv,aw,it+1,m,wt) (by show 4 - (it+1)<N;omega) ⟨a7.2.2.2.2.2,(by show it+1<=4;omega),a7.2.2.2.2.1⟩)
       ·refine Ih V V V (C 17 V ?_);refine JL.ext (v:= .tuple #[]) V V V LM V V (C 4 V ?_);refine Am (v:=iV ((it+1:Nat):Int)) V (λρ h=>Fq (h _ _ V) (h _ _ V) (by unfold Av;rw [if_pos (by omega)];congr 1)) (C 6 V ?_);refine JL.uA V V (Ha (kk:=kk) (p:= .Ce sv aw it old) cc ac V V V V V G3 Io V λm q a7=>⟨some (.Ce sv aw (it+1) m),OY a6 ci (λe=>c2 ((PX old).2 e.2.1)),?_⟩);refine C 3 V (JL.again ?_);rw [← a9];exact Ep [(0,.pointer (some F.uA)),(2,iV wt),(3,.bool sv),(4,.bool aw),(5,iV ((it+1:Nat):Int)),(6,.int .i32 (m:M4).num)] V (ce (sv,aw,it+1,m,wt) (by show 4 - (it+1)<N;omega) ⟨a7.2.2.2.2.2,(by show it+1<=4;omega),a7.2.2.2.2.1⟩)
      ·refine Ih V V V (C 22 V ?_);refine JL.ext (v:= .tuple #[]) V V V LM V V (C 4 V ?_);refine Am (v:=iV ((it+1:Nat):Int)) V (λρ h=>Fq (h _ _ V) (h _ _ V) (by unfold Av;rw [if_pos (by omega)];congr 1)) (C 6 V ?_);refine JL.uA V V (Ha (kk:=kk) (p:= .Ce sv aw it old) cc ac V V V V V G3 Io V λm q a7=>⟨some (.Ce sv aw (it+1) m),OY a6 ci (λe=>by rw [e.1] at c1;cases c1),?_⟩);refine C 3 V (JL.again ?_);rw [← a9];exact Ep [(0,.pointer (some F.uA)),(2,iV wt),(3,.bool sv),(4,.bool aw),(5,iV ((it+1:Nat):Int)),(6,.int .i32 (m:M4).num)] V (ce (sv,aw,it+1,m,wt) (by show 4 - (it+1)<N;omega) ⟨a7.2.2.2.2.2,(by show it+1<=4;omega),a7.2.2.2.2.1⟩)
     ·refine Am (v:= .bool false) V (λρ h=>LG (h _ _ V) (h _ _ V)) (C 3 V ?_);exact AA (a2 _ _ ⟨V,V⟩) V
    ·refine Ih V V V (C 5 V ?_);exact AA (a2 _ _ ⟨V,V⟩) V
   rintro _ _ ⟨rfl,rfl⟩;refine C 6 V (Br (λL s'=>s=s'/\L= [(0,.pointer (some F.uA)),(2,iV wt),(3,.bool sv),(4,.bool aw),(5,iV (it:Int)),(6,.int .i32 (old:M4).num),(7,.int .i32 ({old with l:=old.l || !old.s}:M4).num)]) ?_ ?_)
   rotate_left
   ·intro a2;refine C 3 V (Am (v:=CL (Bw old&&& 4)) V (λρ h=>En (c:=4) a5 (h _ _ V) (h _ _ V) (by decide)) ?_);refine C 2 V (F8 (p:=((Bw old&&& 4:Nat):Int)=0) V (λc=>?_) (λc=>?_))
    ·refine JL.region (C 1 V ?_);refine Am (v:= .int .i32 ({old with l:=true}:M4).num) V (λρ h=>Ny (c:=1) a5 (by decide) (cB old) V (h _ _ V) (h _ _ V)) (C 2 V ?_);refine DW ?_ (a2 _ _ ⟨V,V⟩);exact⟨V,V,V,V,V,V,congrArg (λm:M4=>some (Value.int .i32 m.num)) (by rw [(HM old).1 c];simp),trivial⟩
    ·refine JL.skip (DW ?_ (a2 _ _ ⟨V,V⟩));exact⟨V,V,V,V,V,V,congrArg (λm:M4=>some (Value.int .i32 m.num)) ((Bool.eq_false_or_eq_true old.s).elim (G0 old) (λhh=>absurd ((HM old).2 hh) c)),trivial⟩
   rintro _ _ ⟨rfl,rfl⟩;have dg:Cf {old with l:=old.l || !old.s}:=a5;refine JL.seq (Br (λL s'=>s=s'/\L= [(0,.pointer (some F.uA)),(2,iV wt),(3,.bool sv),(4,.bool aw),(5,iV (it:Int)),(6,.int .i32 (old:M4).num),(7,.int .i32 ({old with l:=old.l || !old.s,w:=if old.l=true∨old.s=true then old.w+1 else old.w}:M4).num)]) ?_ ?_)
   rotate_left
   ·intro a2;refine C 3 V (Am (v:=CL (Bw old&&& 5)) V (λρ h=>En (c:=5) a5 (h _ _ V) (h _ _ V) (by decide)) ?_);refine C 2 V (F8 (p:=((Bw old&&& 5:Nat):Int)≠0) V (λc=>?_) (λc=>?_))
    ·refine JL.region (C 1 V ?_);refine Am (v:= .int .i32 ({old with l:=old.l || !old.s,w:=old.w+1}:M4).num) V (λρ h=>Yb (m:={old with l:=old.l || !old.s}) cy (h _ _ V) (h _ _ V)) (C 2 V ?_);refine DW ?_ (a2 _ _ ⟨V,V⟩);exact⟨V,V,V,V,V,V,congrArg (λm:M4=>some (Value.int .i32 m.num)) (by rw [if_pos (by have:=λe=>c ((L8 old).2 e);cases dh:old.l <;> cases di:old.s <;> simp_all)]),trivial⟩
    ·refine JL.skip (DW ?_ (a2 _ _ ⟨V,V⟩));exact⟨V,V,V,V,V,V,congrArg (λm:M4=>some (Value.int .i32 m.num)) (by rw [if_neg (by have:=(L8 old).1 (Decidable.not_not.1 c);rw [this.1,this.2];simp)]),trivial⟩
   rintro _ _ ⟨rfl,rfl⟩;have cR:Cf ({old with l:=old.l || !old.s,w:=if old.l=true∨old.s=true then old.w+1 else old.w}:M4):=by unfold C4 at cy;unfold Cf;simp only;split <;> omega
   refine JL.seq (Br (λL s'=>s=s'/\L= [(0,.pointer (some F.uA)),(2,iV wt),(3,.bool sv),(4,.bool aw),(5,iV (it:Int)),(6,.int .i32 (old:M4).num),(7,.int .i32 ({old with l:=old.l || !old.s,s:=old.s || (sv&&old.l),w:=if old.l=true∨old.s=true then old.w+1 else old.w}:M4).num)]) ?_ ?_)
   rotate_left
   ·intro a2;refine C 4 V (Ki (c:=sv) (i:=61) V (λc1=>?_) (λc1=>?_))
    ·refine Am (v:= .int .i32 (old:M4).num) V (λρ h=>Yl.move (h _ _ V)) (Am (v:=CL (Bw old&&& 1)) V (λρ h=>En (c:=1) a5 (h _ _ V) (h _ _ V) (by decide)) ?_);refine C 3 V (F8 (p:=((Bw old&&& 1:Nat):Int)≠0) V (λc=>?_) (λc=>?_))
     ·refine JL.region (C 1 V ?_);refine Am (v:= .int .i32 ({old with s:=true,l:=old.l || !old.s,w:=if old.l=true∨old.s=true then old.w+1 else old.w}:M4).num) V (λρ h=>Ny (c:=4) (m:={old with l:=old.l || !old.s,w:=if old.l=true∨old.s=true then old.w+1 else old.w}) cR (by decide) (cH _) V (h _ _ V) (h _ _ V)) ?_
      refine C 2 V (DW ?_ (a2 _ _ ⟨V,V⟩));exact⟨V,V,V,V,V,V,congrArg (λm:M4=>some (Value.int .i32 m.num)) (by rcases Bool.eq_false_or_eq_true old.l with hh | hh <;> first | exact absurd ((PY old).2 hh) c | (rw [c1,hh];simp)),trivial⟩
     ·refine JL.skip (DW ?_ (a2 _ _ ⟨V,V⟩));exact⟨V,V,V,V,V,V,congrArg (λm:M4=>some (Value.int .i32 m.num)) (by have:=(PY old).1 (Decidable.not_not.1 c);rw [this];simp),trivial⟩
    ·refine Ih V V V (C 6 V ?_);refine DW ?_ (a2 _ _ ⟨V,V⟩);exact⟨V,V,V,V,V,V,congrArg (λm:M4=>some (Value.int .i32 m.num)) (by rw [c1];simp),trivial⟩
   rintro _ _ ⟨rfl,rfl⟩;have cT:Cf ({old with l:=old.l || !old.s,s:=old.s || (sv&&old.l),w:=if old.l=true∨old.s=true then old.w+1 else old.w}:M4):=cR
   refine JL.seq (Br (λL s'=>s=s'/\L= [(0,.pointer (some F.uA)),(2,iV wt),(3,.bool sv),(4,.bool aw),(5,iV (it:Int)),(6,.int .i32 (old:M4).num),(7,.int .i32 (mN sv aw old:M4).num)]) ?_ ?_)
   rotate_left
   ·intro a2;refine C 4 V (OX (t:=aw) V (λc=>?_) (λc=>?_))
    ·have cV:old.k=true:=c7 c;refine C 4 V ?_;refine Am (v:=CL (Bw ({old with l:=old.l || !old.s,s:=old.s || (sv&&old.l),w:=if old.l=true∨old.s=true then old.w+1 else old.w}:M4)&&& 2)) V (λρ h=>En (c:=2) (m:={old with l:=old.l || !old.s,s:=old.s || (sv&&old.l),w:=if old.l=true∨old.s=true then old.w+1 else old.w}) cT (h _ _ V) (h _ _ V) (by decide)) ?_
     refine Am (v:= .bool false) V (λρ h=>Yl.to (Yl.eql (h _ _ V) (h _ _ V)) (by rw [decide_eq_false (λe=>by have q:=(PX _).1 e;simp only at q;rw [cV] at q;cases q)])) (C 5 V ?_);refine Am (v:= .int .i32 ({old with k:=false,l:=old.l || !old.s,s:=old.s || (sv&&old.l),w:=if old.l=true∨old.s=true then old.w+1 else old.w}:M4).num) V (λρ h=>Yl.Pe (m:={old with l:=old.l || !old.s,s:=old.s || (sv&&old.l),w:=if old.l=true∨old.s=true then old.w+1 else old.w}) cT cV (h _ _ V) (h _ _ V)) ?_
     refine C 2 V (DW ?_ (a2 _ _ ⟨V,V⟩));exact⟨V,V,V,V,V,V,congrArg (λm:M4=>some (Value.int .i32 m.num)) (by simp [mN,c]),trivial⟩
    ·refine JL.skip (DW ?_ (a2 _ _ ⟨V,V⟩));exact⟨V,V,V,V,V,V,congrArg (λm:M4=>some (Value.int .i32 m.num)) (by simp [mN,c]),trivial⟩
   rintro _ _ ⟨rfl,rfl⟩;refine C 4 V (JL.uA V V ?_);refine C 2 V (λT c9=>(AU Tryz.prog false).stop (hC (sv,aw,it,old,wt) _ ca λX dj da O a1 co=>?_));refine OT (kk:=kk) (p:= .Ce sv aw it old) (old:=old) (nw:=mN sv aw old) da ac V V V V V NQ V V V (λq a7=>?_) (λm q hm a7=>⟨some (.Ef sv aw it),WS hm,?_⟩) T c9
   ·by_cases a6:old.l=false/\old.s=false
    ·refine⟨some .len,YT a6,?_⟩;refine C 6 V (Am (v:=CL (Bw old&&& 5)) V (λρ h=>En (c:=5) a5 (h _ _ V) (h _ _ V) (by decide)) ?_);refine Am (v:= .bool true) V (λρ h=>Yl.to (Yl.eql (h _ _ V) (h _ _ V)) (by rw [decide_eq_true ((L8 old).2 a6)])) (C 3 V ?_);exact a4 X O a1 _ V
    ·by_cases cW:wt=0
     ·refine⟨some ((.Ij sv)),RG a6 _ (.inl V),?_⟩;refine C 6 V (Am (v:=CL (Bw old&&& 5)) V (λρ h=>En (c:=5) a5 (h _ _ V) (h _ _ V) (by decide)) ?_);refine Am (v:= .bool false) V (λρ h=>Yl.to (Yl.eql (h _ _ V) (h _ _ V)) (by rw [decide_eq_false (λe=>a6 ((L8 old).1 e))])) ?_;refine C 13 V (Am (v:= .bool true) V (λρ h=>Yl.to (Yl.eql (h _ _ V) (h _ _ V)) (by rw [decide_eq_true cW])) ?_);refine C 3 V (OJ (kk:=kk) (p:= .Ij sv) O ac V V V V V PE PU λm a8 v al=>⟨some (.Co sv),List.mem_singleton.2 V,?_⟩);refine C 6 V (Am (v:= .pointer (some F.qA)) V (λρ h=>DJ (a:=F.uA) 0 1 Tryz.underlying136 MH V V V (h _ _ V)) ?_);refine C 1 V (QZ (kk:=kk) (sv:=sv) O ac V V V V Tq V V ?_);refine JL.done ?_;cases sv
      ·rw [if_neg (by decide)];refine C 4 V (OJ (kk:=kk) (p:= .FY) O ac V V V V V PE PU λdb dc v2 dd=>⟨some (.Es (decide (IntKind.i64.wrap (v2 - v)>1000000))),by (cases decide (IntKind.i64.wrap (v2 - v)>1000000) <;> simp [Fam.BV]),?_⟩);refine C 1 V (Am (v:= .int .i64 (IntKind.i64.wrap (v2 - v))) V (λρ h=>Yl.sub (h _ _ V) (h _ _ V)) ?_);refine C 4 V ?_;generalize decide (IntKind.i64.wrap (v2 - v)>1000000)=a0;refine C 4 V (JL.uA V V ?_);refine Ha (kk:=kk) (p:= .Es a0) O ac V V V V V G3 Io V ?_;intro m cJ a3;have be:C4 m:=a3.2.2;have am:Cf m:=be.Cf;by_cases ag:m.s=true
       ·refine⟨some (.Ed (!a0 || m.w==1)),by simp [Fam.BV,ag],?_⟩;refine C 2 V ?_;obtain⟨b3,b4,b5⟩:=a3.1 ag;refine C 4 V (Am (v:=CL (Bw m&&& 4)) V (λρ h=>En (c:=4) am (h _ _ V) (h _ _ V) (by decide)) ?_);refine Am (v:= .bool true) V (λρ h=>Yl.to (HD (h _ _ V) (h _ _ V)) (by have b6:(((Bw m&&& 4:Nat):Int)≠0):=(λe=>by rw [(HM m).1 e] at ag;cases ag);rw [decide_eq_true b6])) ?_;refine C 6 V (Am (v:=CL (Bw m&&& 3)) V (λρ h=>En (c:=3) am (h _ _ V) (h _ _ V) (by decide)) ?_);refine Am (v:= .bool false) V (λρ h=>Yl.to (HD (h _ _ V) (h _ _ V)) (by rw [(NS m).2 ⟨b3,b4⟩];rfl)) (C 2 V ?_);refine Am (v:=CL m.w) V (λρ h=>IC am (h _ _ V) (h _ _ V)) (Am (v:= .bool false) V (λρ h=>Yl.to (Yl.eql (h _ _ V) (h _ _ V)) (by rw [decide_eq_false (λe=>b5 (by omega))])) ?_);refine C 12 V (Am (v:= .bool (!a0)) V (λρ h=>Yl.not (h _ _ V)) ?_);refine C 1 V (Ki (c:= !a0) (i:=119) V (λd1=>?_) (λd1=>?_))
        ·refine Ih V V V (C 5 V ?_);have hex:(!a0 || m.w==1)=true:=by rw [d1];simp
         rw [hex];refine C 2 V (Am (v:= .int .i32 (-11)) V (λρ h=>Yl.to (Yl.sub (h _ _ V) (h _ _ V)) V) ?_);refine C 6 V (JL.uA V V ?_);refine C 1 V (G8 (kk:=kk) (p:= .Ed true) (dl:= -11) O ac V V V V V Hg V V λK a8 al=>⟨⟨true,K.k,false,K.w - 1⟩,some .len,?_,List.mem_singleton.2 V,?_⟩)
         ·obtain⟨bi,bo,bv,w3⟩:=K;obtain⟨U,g2,Z,ap,bw,aq⟩:=al;simp only at U g2 Z ap;subst U g2 Z;have b0:w3<134217728:=aq;have e:(⟨false,false,true,w3⟩:M4).num+(-11)=((8*(w3 - 1)+1:Nat):Int):=by simp only [M4.num,Bool.toNat_true,Bool.toNat_false];omega
          rw [e,Ft (by omega)];simp only [M4.num,Bool.toNat_true,Bool.toNat_false];omega
         exact C 2 V (a4 X O a1 _ V)
        ·refine Am (v:= .int .i32 (m:M4).num) V (λρ h=>Yl.move (h _ _ V)) (Am (v:=CL m.w) V (λρ h=>IC am (h _ _ V) (h _ _ V)) ?_);refine C 3 V (F8 (p:=(m.w:Int)=1) V (λd2=>?_) (λd2=>?_))
         ·have hex:(!a0 || m.w==1)=true:=by rw [d1];simp;omega
          rw [hex];refine C 2 V (Am (v:= .int .i32 (-11)) V (λρ h=>Yl.to (Yl.sub (h _ _ V) (h _ _ V)) V) ?_);refine C 6 V (JL.uA V V ?_);refine C 1 V (G8 (kk:=kk) (p:= .Ed true) (dl:= -11) O ac V V V V V Hg V V λK a8 al=>⟨⟨true,K.k,false,K.w - 1⟩,some .len,?_,List.mem_singleton.2 V,?_⟩)
          ·obtain⟨bi,bo,bv,w3⟩:=K;obtain⟨U,g2,Z,ap,bw,aq⟩:=al;simp only at U g2 Z ap;subst U g2 Z;have b0:w3<134217728:=aq;have e:(⟨false,false,true,w3⟩:M4).num+(-11)=((8*(w3 - 1)+1:Nat):Int):=by simp only [M4.num,Bool.toNat_true,Bool.toNat_false];omega
           rw [e,Ft (by omega)];simp only [M4.num,Bool.toNat_true,Bool.toNat_false];omega
          exact C 2 V (a4 X O a1 _ V)
         ·have hex:(!a0 || m.w==1)=false:=by rw [d1];simp;omega
          rw [hex];refine C 5 V (JL.uA V V ?_);refine C 1 V (G8 (kk:=kk) (p:= .Ed false) (dl:= -7) O ac V V V V V Hg V V λK a8 al=>⟨⟨true,K.k,true,K.w - 1⟩,some .len,?_,List.mem_singleton.2 V,?_⟩)
          ·obtain⟨bi,bo,bv,w3⟩:=K;obtain⟨U,g2,Z,ap,bw,aq⟩:=al;simp only at U g2 Z ap;subst U g2 Z;have b0:w3<134217728:=aq;have e:(⟨false,false,true,w3⟩:M4).num+(-7)=((8*(w3 - 1)+5:Nat):Int):=by simp only [M4.num,Bool.toNat_true,Bool.toNat_false];omega
           rw [e,Ft (by omega)];simp only [M4.num,Bool.toNat_true,Bool.toNat_false];omega
          exact C 2 V (a4 X O a1 _ V)
       ·refine⟨some (.Ce a0 true 0 m),by simp [Fam.BV,ag],?_⟩;refine C 2 V ?_;have b1:m.s=false:=by simpa using ag
        refine C 4 V (Am (v:=CL (Bw m&&& 4)) V (λρ h=>En (c:=4) am (h _ _ V) (h _ _ V) (by decide)) ?_);refine Am (v:= .bool false) V (λρ h=>Yl.to (HD (h _ _ V) (h _ _ V)) (by rw [(HM m).2 b1];rfl)) (C 11 V ?_);refine JL.again ?_;rw [← a9];exact Ep [(0,.pointer (some F.uA)),(2,iV v),(3,.bool a0),(4,.bool true),(5,iV ((0:Nat):Int)),(6,.int .i32 (m:M4).num)] V (co (a0,true,0,m,v) ⟨λ_=>a3.2.1 b1,Nat.zero_le _,be⟩)
      ·rw [if_pos rfl];refine C 15 V (JL.uA V V ?_);refine Ha (kk:=kk) (p:= .Es true) O ac V V V V V G3 Io V ?_;intro m cJ a3;have be:C4 m:=a3.2.2;have am:Cf m:=be.Cf;by_cases ag:m.s=true
       ·refine⟨some (.Ed (!true || m.w==1)),by simp [Fam.BV,ag],?_⟩;refine C 2 V ?_;obtain⟨b3,b4,b5⟩:=a3.1 ag;refine C 4 V (Am (v:=CL (Bw m&&& 4)) V (λρ h=>En (c:=4) am (h _ _ V) (h _ _ V) (by decide)) ?_);refine Am (v:= .bool true) V (λρ h=>Yl.to (HD (h _ _ V) (h _ _ V)) (by have b6:(((Bw m&&& 4:Nat):Int)≠0):=(λe=>by rw [(HM m).1 e] at ag;cases ag);rw [decide_eq_true b6])) ?_;refine C 6 V (Am (v:=CL (Bw m&&& 3)) V (λρ h=>En (c:=3) am (h _ _ V) (h _ _ V) (by decide)) ?_);refine Am (v:= .bool false) V (λρ h=>Yl.to (HD (h _ _ V) (h _ _ V)) (by rw [(NS m).2 ⟨b3,b4⟩];rfl)) (C 2 V ?_);refine Am (v:=CL m.w) V (λρ h=>IC am (h _ _ V) (h _ _ V)) (Am (v:= .bool false) V (λρ h=>Yl.to (Yl.eql (h _ _ V) (h _ _ V)) (by rw [decide_eq_false (λe=>b5 (by omega))])) ?_);refine C 12 V (Am (v:= .bool (!true)) V (λρ h=>Yl.not (h _ _ V)) ?_);refine C 1 V (Ki (c:= !true) (i:=119) V (λd1=>?_) (λd1=>?_))
        ·refine Ih V V V (C 5 V ?_);have hex:(!true || m.w==1)=true:=by rw [d1];simp
         rw [hex];refine C 2 V (Am (v:= .int .i32 (-11)) V (λρ h=>Yl.to (Yl.sub (h _ _ V) (h _ _ V)) V) ?_);refine C 6 V (JL.uA V V ?_);refine C 1 V (G8 (kk:=kk) (p:= .Ed true) (dl:= -11) O ac V V V V V Hg V V λK a8 al=>⟨⟨true,K.k,false,K.w - 1⟩,some .len,?_,List.mem_singleton.2 V,?_⟩)
         ·obtain⟨bi,bo,bv,w3⟩:=K;obtain⟨U,g2,Z,ap,bw,aq⟩:=al;simp only at U g2 Z ap;subst U g2 Z;have b0:w3<134217728:=aq;have e:(⟨false,false,true,w3⟩:M4).num+(-11)=((8*(w3 - 1)+1:Nat):Int):=by simp only [M4.num,Bool.toNat_true,Bool.toNat_false];omega
          rw [e,Ft (by omega)];simp only [M4.num,Bool.toNat_true,Bool.toNat_false];omega
         exact C 2 V (a4 X O a1 _ V)
        ·refine Am (v:= .int .i32 (m:M4).num) V (λρ h=>Yl.move (h _ _ V)) (Am (v:=CL m.w) V (λρ h=>IC am (h _ _ V) (h _ _ V)) ?_);refine C 3 V (F8 (p:=(m.w:Int)=1) V (λd2=>?_) (λd2=>?_))
         ·have hex:(!true || m.w==1)=true:=by rw [d1];simp;omega
          rw [hex];refine C 2 V (Am (v:= .int .i32 (-11)) V (λρ h=>Yl.to (Yl.sub (h _ _ V) (h _ _ V)) V) ?_);refine C 6 V (JL.uA V V ?_);refine C 1 V (G8 (kk:=kk) (p:= .Ed true) (dl:= -11) O ac V V V V V Hg V V λK a8 al=>⟨⟨true,K.k,false,K.w - 1⟩,some .len,?_,List.mem_singleton.2 V,?_⟩)
          ·obtain⟨bi,bo,bv,w3⟩:=K;obtain⟨U,g2,Z,ap,bw,aq⟩:=al;simp only at U g2 Z ap;subst U g2 Z;have b0:w3<134217728:=aq;have e:(⟨false,false,true,w3⟩:M4).num+(-11)=((8*(w3 - 1)+1:Nat):Int):=by simp only [M4.num,Bool.toNat_true,Bool.toNat_false];omega
           rw [e,Ft (by omega)];simp only [M4.num,Bool.toNat_true,Bool.toNat_false];omega
          exact C 2 V (a4 X O a1 _ V)
         ·have hex:(!true || m.w==1)=false:=by rw [d1];simp;omega
          rw [hex];refine C 5 V (JL.uA V V ?_);refine C 1 V (G8 (kk:=kk) (p:= .Ed false) (dl:= -7) O ac V V V V V Hg V V λK a8 al=>⟨⟨true,K.k,true,K.w - 1⟩,some .len,?_,List.mem_singleton.2 V,?_⟩)
          ·obtain⟨bi,bo,bv,w3⟩:=K;obtain⟨U,g2,Z,ap,bw,aq⟩:=al;simp only at U g2 Z ap;subst U g2 Z;have b0:w3<134217728:=aq;have e:(⟨false,false,true,w3⟩:M4).num+(-7)=((8*(w3 - 1)+5:Nat):Int):=by simp only [M4.num,Bool.toNat_true,Bool.toNat_false];omega
           rw [e,Ft (by omega)];simp only [M4.num,Bool.toNat_true,Bool.toNat_false];omega
          exact C 2 V (a4 X O a1 _ V)
       ·refine⟨some (.Ce true true 0 m),by simp [Fam.BV,ag],?_⟩;refine C 2 V ?_;have b1:m.s=false:=by simpa using ag
        refine C 4 V (Am (v:=CL (Bw m&&& 4)) V (λρ h=>En (c:=4) am (h _ _ V) (h _ _ V) (by decide)) ?_);refine Am (v:= .bool false) V (λρ h=>Yl.to (HD (h _ _ V) (h _ _ V)) (by rw [(HM m).2 b1];rfl)) (C 11 V ?_);refine JL.again ?_;rw [← a9];exact Ep [(0,.pointer (some F.uA)),(2,iV v),(3,.bool true),(4,.bool true),(5,iV ((0:Nat):Int)),(6,.int .i32 (m:M4).num)] V (co (true,true,0,m,v) ⟨λ_=>a3.2.1 b1,Nat.zero_le _,be⟩)
     ·refine⟨some ((.Co sv)),RG a6 _ (.inr V),?_⟩;refine C 6 V (Am (v:=CL (Bw old&&& 5)) V (λρ h=>En (c:=5) a5 (h _ _ V) (h _ _ V) (by decide)) ?_);refine Am (v:= .bool false) V (λρ h=>Yl.to (Yl.eql (h _ _ V) (h _ _ V)) (by rw [decide_eq_false (λe=>a6 ((L8 old).1 e))])) ?_;refine C 13 V (Am (v:= .bool false) V (λρ h=>Yl.to (Yl.eql (h _ _ V) (h _ _ V)) (by rw [decide_eq_false cW])) ?_);refine C 7 V (Am (v:= .pointer (some F.qA)) V (λρ h=>DJ (a:=F.uA) 0 1 Tryz.underlying136 MH V V V (h _ _ V)) ?_);refine C 1 V (QZ (kk:=kk) (sv:=sv) O ac V V V V Tq V V ?_);refine JL.done ?_;cases sv
      ·rw [if_neg (by decide)];refine C 4 V (OJ (kk:=kk) (p:= .FY) O ac V V V V V PE PU λdb dc v2 dd=>⟨some (.Es (decide (IntKind.i64.wrap (v2 - wt)>1000000))),by (cases decide (IntKind.i64.wrap (v2 - wt)>1000000) <;> simp [Fam.BV]),?_⟩);refine C 1 V (Am (v:= .int .i64 (IntKind.i64.wrap (v2 - wt))) V (λρ h=>Yl.sub (h _ _ V) (h _ _ V)) ?_);refine C 4 V ?_;generalize decide (IntKind.i64.wrap (v2 - wt)>1000000)=a0;refine C 4 V (JL.uA V V ?_);refine Ha (kk:=kk) (p:= .Es a0) O ac V V V V V G3 Io V ?_;intro m cJ a3;have be:C4 m:=a3.2.2;have am:Cf m:=be.Cf;by_cases ag:m.s=true
       ·refine⟨some (.Ed (!a0 || m.w==1)),by simp [Fam.BV,ag],?_⟩;refine C 2 V ?_;obtain⟨b3,b4,b5⟩:=a3.1 ag;refine C 4 V (Am (v:=CL (Bw m&&& 4)) V (λρ h=>En (c:=4) am (h _ _ V) (h _ _ V) (by decide)) ?_);refine Am (v:= .bool true) V (λρ h=>Yl.to (HD (h _ _ V) (h _ _ V)) (by have b6:(((Bw m&&& 4:Nat):Int)≠0):=(λe=>by rw [(HM m).1 e] at ag;cases ag);rw [decide_eq_true b6])) ?_;refine C 6 V (Am (v:=CL (Bw m&&& 3)) V (λρ h=>En (c:=3) am (h _ _ V) (h _ _ V) (by decide)) ?_);refine Am (v:= .bool false) V (λρ h=>Yl.to (HD (h _ _ V) (h _ _ V)) (by rw [(NS m).2 ⟨b3,b4⟩];rfl)) (C 2 V ?_);refine Am (v:=CL m.w) V (λρ h=>IC am (h _ _ V) (h _ _ V)) (Am (v:= .bool false) V (λρ h=>Yl.to (Yl.eql (h _ _ V) (h _ _ V)) (by rw [decide_eq_false (λe=>b5 (by omega))])) ?_);refine C 12 V (Am (v:= .bool (!a0)) V (λρ h=>Yl.not (h _ _ V)) ?_);refine C 1 V (Ki (c:= !a0) (i:=119) V (λd1=>?_) (λd1=>?_))
        ·refine Ih V V V (C 5 V ?_);have hex:(!a0 || m.w==1)=true:=by rw [d1];simp
         rw [hex];refine C 2 V (Am (v:= .int .i32 (-11)) V (λρ h=>Yl.to (Yl.sub (h _ _ V) (h _ _ V)) V) ?_);refine C 6 V (JL.uA V V ?_);refine C 1 V (G8 (kk:=kk) (p:= .Ed true) (dl:= -11) O ac V V V V V Hg V V λK a8 al=>⟨⟨true,K.k,false,K.w - 1⟩,some .len,?_,List.mem_singleton.2 V,?_⟩)
         ·obtain⟨bi,bo,bv,w3⟩:=K;obtain⟨U,g2,Z,ap,bw,aq⟩:=al;simp only at U g2 Z ap;subst U g2 Z;have b0:w3<134217728:=aq;have e:(⟨false,false,true,w3⟩:M4).num+(-11)=((8*(w3 - 1)+1:Nat):Int):=by simp only [M4.num,Bool.toNat_true,Bool.toNat_false];omega
          rw [e,Ft (by omega)];simp only [M4.num,Bool.toNat_true,Bool.toNat_false];omega
         exact C 2 V (a4 X O a1 _ V)
        ·refine Am (v:= .int .i32 (m:M4).num) V (λρ h=>Yl.move (h _ _ V)) (Am (v:=CL m.w) V (λρ h=>IC am (h _ _ V) (h _ _ V)) ?_);refine C 3 V (F8 (p:=(m.w:Int)=1) V (λd2=>?_) (λd2=>?_))
         ·have hex:(!a0 || m.w==1)=true:=by rw [d1];simp;omega
          rw [hex];refine C 2 V (Am (v:= .int .i32 (-11)) V (λρ h=>Yl.to (Yl.sub (h _ _ V) (h _ _ V)) V) ?_);refine C 6 V (JL.uA V V ?_);refine C 1 V (G8 (kk:=kk) (p:= .Ed true) (dl:= -11) O ac V V V V V Hg V V λK a8 al=>⟨⟨true,K.k,false,K.w - 1⟩,some .len,?_,List.mem_singleton.2 V,?_⟩)
          ·obtain⟨bi,bo,bv,w3⟩:=K;obtain⟨U,g2,Z,ap,bw,aq⟩:=al;simp only at U g2 Z ap;subst U g2 Z;have b0:w3<134217728:=aq;have e:(⟨false,false,true,w3⟩:M4).num+(-11)=((8*(w3 - 1)+1:Nat):Int):=by simp only [M4.num,Bool.toNat_true,Bool.toNat_false];omega
           rw [e,Ft (by omega)];simp only [M4.num,Bool.toNat_true,Bool.toNat_false];omega
          exact C 2 V (a4 X O a1 _ V)
         ·have hex:(!a0 || m.w==1)=false:=by rw [d1];simp;omega
          rw [hex];refine C 5 V (JL.uA V V ?_);refine C 1 V (G8 (kk:=kk) (p:= .Ed false) (dl:= -7) O ac V V V V V Hg V V λK a8 al=>⟨⟨true,K.k,true,K.w - 1⟩,some .len,?_,List.mem_singleton.2 V,?_⟩)
          ·obtain⟨bi,bo,bv,w3⟩:=K;obtain⟨U,g2,Z,ap,bw,aq⟩:=al;simp only at U g2 Z ap;subst U g2 Z;have b0:w3<134217728:=aq;have e:(⟨false,false,true,w3⟩:M4).num+(-7)=((8*(w3 - 1)+5:Nat):Int):=by simp only [M4.num,Bool.toNat_true,Bool.toNat_false];omega
           rw [e,Ft (by omega)];simp only [M4.num,Bool.toNat_true,Bool.toNat_false];omega
          exact C 2 V (a4 X O a1 _ V)
       ·refine⟨some (.Ce a0 true 0 m),by simp [Fam.BV,ag],?_⟩;refine C 2 V ?_;have b1:m.s=false:=by simpa using ag
        refine C 4 V (Am (v:=CL (Bw m&&& 4)) V (λρ h=>En (c:=4) am (h _ _ V) (h _ _ V) (by decide)) ?_);refine Am (v:= .bool false) V (λρ h=>Yl.to (HD (h _ _ V) (h _ _ V)) (by rw [(HM m).2 b1];rfl)) (C 11 V ?_);refine JL.again ?_;rw [← a9];exact Ep [(0,.pointer (some F.uA)),(2,iV wt),(3,.bool a0),(4,.bool true),(5,iV ((0:Nat):Int)),(6,.int .i32 (m:M4).num)] V (co (a0,true,0,m,wt) ⟨λ_=>a3.2.1 b1,Nat.zero_le _,be⟩)
      ·rw [if_pos rfl];refine C 15 V (JL.uA V V ?_);refine Ha (kk:=kk) (p:= .Es true) O ac V V V V V G3 Io V ?_;intro m cJ a3;have be:C4 m:=a3.2.2;have am:Cf m:=be.Cf;by_cases ag:m.s=true
       ·refine⟨some (.Ed (!true || m.w==1)),by simp [Fam.BV,ag],?_⟩;refine C 2 V ?_;obtain⟨b3,b4,b5⟩:=a3.1 ag;refine C 4 V (Am (v:=CL (Bw m&&& 4)) V (λρ h=>En (c:=4) am (h _ _ V) (h _ _ V) (by decide)) ?_);refine Am (v:= .bool true) V (λρ h=>Yl.to (HD (h _ _ V) (h _ _ V)) (by have b6:(((Bw m&&& 4:Nat):Int)≠0):=(λe=>by rw [(HM m).1 e] at ag;cases ag);rw [decide_eq_true b6])) ?_;refine C 6 V (Am (v:=CL (Bw m&&& 3)) V (λρ h=>En (c:=3) am (h _ _ V) (h _ _ V) (by decide)) ?_);refine Am (v:= .bool false) V (λρ h=>Yl.to (HD (h _ _ V) (h _ _ V)) (by rw [(NS m).2 ⟨b3,b4⟩];rfl)) (C 2 V ?_);refine Am (v:=CL m.w) V (λρ h=>IC am (h _ _ V) (h _ _ V)) (Am (v:= .bool false) V (λρ h=>Yl.to (Yl.eql (h _ _ V) (h _ _ V)) (by rw [decide_eq_false (λe=>b5 (by omega))])) ?_);refine C 12 V (Am (v:= .bool (!true)) V (λρ h=>Yl.not (h _ _ V)) ?_);refine C 1 V (Ki (c:= !true) (i:=119) V (λd1=>?_) (λd1=>?_))
        ·refine Ih V V V (C 5 V ?_);have hex:(!true || m.w==1)=true:=by rw [d1];simp
         rw [hex];refine C 2 V (Am (v:= .int .i32 (-11)) V (λρ h=>Yl.to (Yl.sub (h _ _ V) (h _ _ V)) V) ?_);refine C 6 V (JL.uA V V ?_);refine C 1 V (G8 (kk:=kk) (p:= .Ed true) (dl:= -11) O ac V V V V V Hg V V λK a8 al=>⟨⟨true,K.k,false,K.w - 1⟩,some .len,?_,List.mem_singleton.2 V,?_⟩)
         ·obtain⟨bi,bo,bv,w3⟩:=K;obtain⟨U,g2,Z,ap,bw,aq⟩:=al;simp only at U g2 Z ap;subst U g2 Z;have b0:w3<134217728:=aq;have e:(⟨false,false,true,w3⟩:M4).num+(-11)=((8*(w3 - 1)+1:Nat):Int):=by simp only [M4.num,Bool.toNat_true,Bool.toNat_false];omega
          rw [e,Ft (by omega)];simp only [M4.num,Bool.toNat_true,Bool.toNat_false];omega
         exact C 2 V (a4 X O a1 _ V)
        ·refine Am (v:= .int .i32 (m:M4).num) V (λρ h=>Yl.move (h _ _ V)) (Am (v:=CL m.w) V (λρ h=>IC am (h _ _ V) (h _ _ V)) ?_);refine C 3 V (F8 (p:=(m.w:Int)=1) V (λd2=>?_) (λd2=>?_))
         ·have hex:(!true || m.w==1)=true:=by rw [d1];simp;omega
          rw [hex];refine C 2 V (Am (v:= .int .i32 (-11)) V (λρ h=>Yl.to (Yl.sub (h _ _ V) (h _ _ V)) V) ?_);refine C 6 V (JL.uA V V ?_);refine C 1 V (G8 (kk:=kk) (p:= .Ed true) (dl:= -11) O ac V V V V V Hg V V λK a8 al=>⟨⟨true,K.k,false,K.w - 1⟩,some .len,?_,List.mem_singleton.2 V,?_⟩)
          ·obtain⟨bi,bo,bv,w3⟩:=K;obtain⟨U,g2,Z,ap,bw,aq⟩:=al;simp only at U g2 Z ap;subst U g2 Z;have b0:w3<134217728:=aq;have e:(⟨false,false,true,w3⟩:M4).num+(-11)=((8*(w3 - 1)+1:Nat):Int):=by simp only [M4.num,Bool.toNat_true,Bool.toNat_false];omega
           rw [e,Ft (by omega)];simp only [M4.num,Bool.toNat_true,Bool.toNat_false];omega
          exact C 2 V (a4 X O a1 _ V)
         ·have hex:(!true || m.w==1)=false:=by rw [d1];simp;omega
          rw [hex];refine C 5 V (JL.uA V V ?_);refine C 1 V (G8 (kk:=kk) (p:= .Ed false) (dl:= -7) O ac V V V V V Hg V V λK a8 al=>⟨⟨true,K.k,true,K.w - 1⟩,some .len,?_,List.mem_singleton.2 V,?_⟩)
          ·obtain⟨bi,bo,bv,w3⟩:=K;obtain⟨U,g2,Z,ap,bw,aq⟩:=al;simp only at U g2 Z ap;subst U g2 Z;have b0:w3<134217728:=aq;have e:(⟨false,false,true,w3⟩:M4).num+(-7)=((8*(w3 - 1)+5:Nat):Int):=by simp only [M4.num,Bool.toNat_true,Bool.toNat_false];omega
           rw [e,Ft (by omega)];simp only [M4.num,Bool.toNat_true,Bool.toNat_false];omega
          exact C 2 V (a4 X O a1 _ V)
       ·refine⟨some (.Ce true true 0 m),by simp [Fam.BV,ag],?_⟩;refine C 2 V ?_;have b1:m.s=false:=by simpa using ag
        refine C 4 V (Am (v:=CL (Bw m&&& 4)) V (λρ h=>En (c:=4) am (h _ _ V) (h _ _ V) (by decide)) ?_);refine Am (v:= .bool false) V (λρ h=>Yl.to (HD (h _ _ V) (h _ _ V)) (by rw [(HM m).2 b1];rfl)) (C 11 V ?_);refine JL.again ?_;rw [← a9];exact Ep [(0,.pointer (some F.uA)),(2,iV wt),(3,.bool true),(4,.bool true),(5,iV ((0:Nat):Int)),(6,.int .i32 (m:M4).num)] V (co (true,true,0,m,wt) ⟨λ_=>a3.2.1 b1,Nat.zero_le _,be⟩)
   ·refine JL.done (C 4 V ?_);refine JL.uA V V (Ha (kk:=kk) (p:= .Ef sv aw it) O ac V V V V V G3 Io V λbb cQ b2=>⟨some (.Ce sv aw it bb),List.mem_singleton.2 V,?_⟩);refine C 3 V (JL.again ?_);rw [← a9];exact Ep [(0,.pointer (some F.uA)),(2,iV wt),(3,.bool sv),(4,.bool aw),(5,iV (it:Int)),(6,.int .i32 (bb:M4).num)] V (co (sv,aw,it,bb,wt) ⟨b2.2.2.2,ca.2.1,b2.2.2.1⟩)
 exact λa cK=>key 5 a (by omega) cK
set_option maxHeartbeats 4000000 in
theorem Vj{F:Fam}{n:Nat}{L:Env}{ds:Ld_}{k:Li_}{cs:Lf_}{s:St}{b:Frame}{ops:Ao_}{i:Nat}{rest:List Nat}{d:Option Tmp}{x:Operand}{ats:Array TypeId}{ty:TypeId}{pp:String}{af:Ae_}{g:On_}{kk:Nat}(K:s.q=false)(O:ops[i]? =some ⟨d,.call ⟨.value (.func 135),#[x],ats⟩,ty,pp,af,g⟩)(hw:AM L ops ⟨d,.call ⟨.value (.func 135),#[x],ats⟩,ty,pp,af,g⟩=some true)(U:((b.kind != .early)&&Bf n d)=true)(Y:ev L x=some (.pointer (some F.uA)))
  (h:JL (AU Tryz.prog false) (Stop Tryz.prog F (.lk kk .Fy)) b n (Au L d (.tuple #[])) ds (.inRegion ops rest::k) cs s):
  JL (AU Tryz.prog false) (Stop Tryz.prog F (.lk kk .F1)) b n L ds (.inRegion ops (i::rest)::k) cs s:=by
 refine Hb (vs:= [.pointer (some F.uA)]) O hw U Tryz.func135 (by decide+kernel) V (by simp [evs,Y]) (Nat.le_of_ble_eq_true V) λac back=>C 2 V (K1 (kk:=kk) (p:= .F1) CR.stop K V (λ_ _=>V) V V V V (by simp) Ue ?_);refine C 6 V (JL.uA V V ?_);refine RZ (kk:=kk) (p:= .Hi) (old:=M4.zero) (nw:=⟨true,false,false,0⟩) CR.stop K V V V V V NQ V V V (λq Z=>⟨some .len,by simp [Fam.BV],?_⟩) (λm q hm Z=>⟨some (.Ef false false 0),by simp [Fam.BV,hm],?_⟩)
 ·refine JL.done (C 5 V ?_);refine K1 (kk:=kk) (p:= .len) CR.stop K V (λ_ _=>V) V V V V (by simp) N3 (C 3 V ?_);refine ON (kk:=kk) (p:= .KF) CR.stop K V (λ_ _=>V) V V V V Tryz.underlying247 Tryz.underlying174 O1 V (O5 (kk:=kk) (p:= .JZ) (ad:=F.uA) CR.stop K V (λ_ _=>V) V V V V (by simp) TU V V ?_);exact JL.done (JL.ret V V (By.none Tryz.func135 V) (back _ _ _ _ h))
 ·refine JL.done (C 4 V ?_);refine Wh (kk:=kk) K V V V V (JL.done ?_);exact JL.fin V V (By.none Tryz.func135 V) (back _ _ _ _ h)
set_option maxHeartbeats 4000000 in
theorem V8{F:Fam}{n:Nat}{L:Env}{ds:Ld_}{k:Li_}{cs:Lf_}{s:St}{b:Frame}{ops:Ao_}{i:Nat}{rest:List Nat}{d:Option Tmp}{x:Operand}{ats:Array TypeId}{ty:TypeId}{pp:String}{af:Ae_}{g:On_}{kk:Nat}(K:s.q=false)(O:ops[i]? =some ⟨d,.call ⟨.value (.func 98),#[x],ats⟩,ty,pp,af,g⟩)(hw:AM L ops ⟨d,.call ⟨.value (.func 98),#[x],ats⟩,ty,pp,af,g⟩=some true)(U:((b.kind != .early)&&Bf n d)=true)(Y:ev L x=some (.pointer (some F.uA)))
  (h:JL (AU Tryz.prog false) (Stop Tryz.prog F (.lk kk .Fy)) b n (Au L d (.tuple #[])) ds (.inRegion ops rest::k) cs s):
  JL (AU Tryz.prog false) (Stop Tryz.prog F (.lk kk .F1)) b n L ds (.inRegion ops (i::rest)::k) cs s:=by
 refine Hb (vs:= [.pointer (some F.uA)]) O hw U Tryz.func98 (by decide+kernel) V (by simp [evs,Y]) (Nat.le_of_ble_eq_true V) λZ back=>C 3 V (Am (v:= .pointer (some F.uA)) V (λρ h=>DJ (a:=F.uA) 1 0 Tryz.underlying138 (AN Tryz.type136) V V V (h _ _ V)) ?_);refine Vj (kk:=kk) K V V V V (JL.done ?_);exact JL.fin V V (By.none Tryz.func98 V) (back _ _ _ _ h)
def Iu(m:M4):LP:=if m.l=false/\m.k=false/\m.s=false/\m.w≠0 then .ED m else .Fa
def P9(m:M4):LP:=if m.s=true then .EW true else if m.k=false/\m.w≠0 then .ED {m with l:=false} else .Fa
set_option maxHeartbeats 4000000 in
theorem VB{F:Fam}{n:Nat}{L:Env}{ds:Ld_}{k:Li_}{cs:Lf_}{s:St}{b:Frame}{ops:Ao_}{i:Nat}{rest:List Nat}{d:Option Tmp}{x Z:Operand}{nw:M4}{ats:Array TypeId}{ty:TypeId}{pp:String}{af:Ae_}{g:On_}{kk:Nat}(U:s.q=false)(a6:ops[i]? =some ⟨d,.call ⟨.value (.func 170),#[x,Z],ats⟩,ty,pp,af,g⟩)(hw:AM L ops ⟨d,.call ⟨.value (.func 170),#[x,Z],ats⟩,ty,pp,af,g⟩=some true)(a7:((b.kind != .early)&&Bf n d)=true)(a8:ev L x=some (.pointer (some F.uA)))(a9:ev L Z=some (.int .i32 nw.num))(al:nw.l=false)(bb:C4 nw)(ac:Cf nw)
  (h:JL (AU Tryz.prog false) (Stop Tryz.prog F (.lk kk .Fa)) b n (Au L d (.tuple #[])) ds (.inRegion ops rest::k) cs s):
  JL (AU Tryz.prog false) (Stop Tryz.prog F (.lk kk (if nw.s=true then .EW true else if nw.k=false/\nw.w≠0 then .ED nw else .Fa))) b n L ds (.inRegion ops (i::rest)::k) cs s:=by
 refine Hb (vs:= [.pointer (some F.uA),.int .i32 nw.num]) a6 hw a7 Tryz.func170 (by decide+kernel) V (by simp [evs,a8,a9]) (Nat.le_of_ble_eq_true V) λam back=>C 4 V (Am (v:= .int .i32 ({nw with l:=true}:M4).num) V (λρ h=>YP ac al (h _ _ V) (h _ _ V)) ?_);refine Am (v:=CL (Bw ({nw with l:=true}:M4)&&& 1)) V (λρ h=>En (c:=1) (m:={nw with l:=true}) ac (h _ _ V) (h _ _ V) (by decide)) (Am (v:= .bool false) V (λρ h=>Yl.to (Yl.eql (h _ _ V) (h _ _ V)) (by rw [decide_eq_false (λe=>by have q:=(PY _).1 e;cases q)])) ?_);refine C 6 V (Am (v:=CL (Bw nw&&& 4)) V (λρ h=>En (c:=4) ac (h _ _ V) (h _ _ V) (by decide)) ?_);refine C 2 V (F8 (p:=((Bw nw&&& 4:Nat):Int)=0) V (λc=>?_) (λc=>?_))
 ·have ap:=(HM nw).1 c;rw [if_neg (by rw [ap];exact Bool.false_ne_true)];refine C 6 V ?_;refine H7 ?_;refine Ep [(0,.pointer (some F.uA)),(4,.int .i32 nw.num)] V ?_;refine TZ λaq aw=>?_;have be:(if nw.k=false/\nw.w≠0 then LP.ED nw else .Fa)=Iu nw:=by unfold Iu;rw [al,ap];simp
  rw [be];refine TA (P:=Tryz.prog) (F:=F) (s:=s) (kk:=kk) (ph:=λm=>LP.ED m) (ok:=C4) (head:=λ(X:Ph->GP) (a:M4)=>JL (AU Tryz.prog false) (X (.lk kk (Iu a))) (base 170) Tryz.f170.ntmps ([(0,.pointer (some F.uA)),(4,.int .i32 (a:M4).num)]) [] aq (am::cs) s) ?_ nw bb;intro Y b4 a0 hC old a1;have K:Cf old:=a1.Cf;show JL (AU Tryz.prog false) (Y (.lk kk (Iu old))) (base 170) Tryz.f170.ntmps [(0,.pointer (some F.uA)),(4,.int .i32 old.num)] [] aq (am::cs) s;rw [aw];refine C 5 V (Am (v:=CL old.w) V (λρ h=>IC K (h _ _ V) (h _ _ V)) ?_);refine C 2 V (LJ (q:=(old.w:Int)=0) (i:=17) V (λc2=>?_) (λc2=>?_))
  ·have O:Iu old= .Fa:=by unfold Iu;rw [if_neg (λe=>e.2.2.2 (by omega))]
   refine C 6 V ?_;rw [O];exact JL.ret V V (By.none Tryz.func170 V) (back _ _ _ _ (M0 (λg s=>a0 _ g s) h))
  ·refine Am (v:= .int .i32 (old:M4).num) V (λρ h=>Yl.move (h _ _ V)) (Am (v:=CL (Bw old&&& 7)) V (λρ h=>En (c:=7) K (h _ _ V) (h _ _ V) (by decide)) ?_);refine C 3 V (F8 (p:=((Bw old&&& 7:Nat):Int)≠0) V (λc3=>?_) (λc3=>?_))
   ·have O:Iu old= .Fa:=by unfold Iu;rw [if_neg (λe=>c3 ((T7 old).2 ⟨e.1,e.2.1,e.2.2.1⟩))]
    rw [O];exact JL.ret V V (By.none Tryz.func170 V) (back _ _ _ _ (M0 (λg s=>a0 _ g s) h))
   ·have bi:=(T7 old).1 (Decidable.not_not.1 c3);obtain⟨l0,b5,b6,w0⟩:=old;obtain⟨z1,a2,a3⟩:=bi;simp only at z1 a2 a3 c2;subst z1 a2 a3;have a4:w0≠0:=by omega
    have O:Iu ⟨false,false,false,w0⟩= .ED ⟨false,false,false,w0⟩:=by unfold Iu;rw [if_pos ⟨rfl,rfl,rfl,a4⟩]
    rw [O];refine C 4 V (Am (v:= .int .i32 (⟨false,false,false,w0 - 1⟩:M4).num) V (λρ h=>XY (m:=⟨false,false,false,w0⟩) K a4 (h _ _ V) (h _ _ V)) ?_);refine Am (v:= .int .i32 (⟨false,true,false,w0 - 1⟩:M4).num) V (λρ h=>Ny (c:=2) (m:=⟨false,false,false,w0 - 1⟩) (by unfold Cf at K ⊢;simp only at K ⊢;omega) (by decide) (Qd _) V (h _ _ V) (h _ _ V)) (C 7 V ?_);refine JL.uA V V (C 2 V ?_);refine λT bo=>(AU Tryz.prog false).stop (hC ⟨false,false,false,w0⟩ _ a1 λX ca bv a5 bw b0=>?_);refine OT (kk:=kk) (p:= .ED ⟨false,false,false,w0⟩) (old:=⟨false,false,false,w0⟩) (nw:=⟨false,true,false,w0 - 1⟩) bv U V V V V V NQ V V V (λq b1=>⟨some (.EW false),by simp [Fam.BV],?_⟩) (λm q hm b1=>⟨some .Hl,by simp [Fam.BV,hm],?_⟩) T bo
    ·refine JL.done (C 5 V ?_);refine Am (v:= .pointer (some F.qA)) V (λρ h=>DJ (a:=F.uA) 0 1 Tryz.underlying136 MH V V V (h _ _ V)) (Q4 (kk:=kk) (st:=false) a5 U V V V V Tj V V ?_);exact JL.done (JL.ret V V (By.none Tryz.func170 V) (back _ _ _ _ (M0 (λg s=>bw _ g s) h)))
    ·refine JL.done (C 5 V ?_);refine JL.uA V V (Ha (kk:=kk) (p:= .Hl) a5 U V V V V V G3 bC V λag cc b2=>⟨some (Iu ag),List.mem_singleton.2 V,?_⟩);refine C 3 V (JL.again ?_);rw [← aw];exact Ep [(0,.pointer (some F.uA)),(4,.int .i32 ag.num)] V (b0 ag b2)
 ·have b3:nw.s=true:=by rcases Bool.eq_false_or_eq_true nw.s with hh | hh;exact hh;exact absurd ((HM nw).2 hh) c
  rw [if_pos b3];refine C 3 V (Am (v:= .pointer (some F.qA)) V (λρ h=>DJ (a:=F.uA) 0 1 Tryz.underlying136 MH V V V (h _ _ V)) ?_);refine Q4 (kk:=kk) (st:=true) CR.stop U V V V V Tj V V (JL.done ?_);exact JL.fin V V (By.none Tryz.func170 V) (back _ _ _ _ h)
set_option maxHeartbeats 4000000 in
theorem US{F:Fam}{n:Nat}{L:Env}{ds:Ld_}{k:Li_}{cs:Lf_}{s:St}{b:Frame}{ops:Ao_}{i:Nat}{rest:List Nat}{d:Option Tmp}{x:Operand}{ats:Array TypeId}{ty:TypeId}{pp:String}{af:Ae_}{g:On_}{kk:Nat}(K:s.q=false)(al:ops[i]? =some ⟨d,.call ⟨.value (.func 136),#[x],ats⟩,ty,pp,af,g⟩)(hw:AM L ops ⟨d,.call ⟨.value (.func 136),#[x],ats⟩,ty,pp,af,g⟩=some true)(am:((b.kind != .early)&&Bf n d)=true)(ap:ev L x=some (.pointer (some F.uA)))
  (h:JL (AU Tryz.prog false) (Stop Tryz.prog F .HS) b n (Au L d (.tuple #[])) ds (.inRegion ops rest::k) cs s):
  JL (AU Tryz.prog false) (Stop Tryz.prog F (.lk kk .Gy)) b n L ds (.inRegion ops (i::rest)::k) cs s:=by
 refine Hb (vs:= [.pointer (some F.uA)]) al hw am Tryz.func136 (by decide+kernel) V (by simp [evs,ap]) (Nat.le_of_ble_eq_true V) λa3 back=>C 6 V (JL.uA V V ?_);refine Ha (kk:=kk) (p:= .Gy) CR.stop K V V V V V G3 cm V λa4 a5 a6=>⟨some .J1,List.mem_singleton.2 V,?_⟩;refine C 4 V (ON (kk:=kk) (p:= .J1) CR.stop K V (λ_ _=>V) V V V V Tryz.underlying247 Tryz.underlying174 O1 V ?_);refine O5 (kk:=kk) (p:= .J0) (ad:=F.uA) CR.stop K V (λ_ _=>V) V V V V (by simp) cr V V (C 2 V ?_);refine K1 (kk:=kk) (p:= .JW) CR.stop K V (λ_ _=>V) V V V V (by simp) Ue (C 5 V ?_);refine JL.uA V V (G8 (kk:=kk) (p:= .HN) (dl:= -1) CR.stop K V V V V V Hg V V λm q Y=>⟨{m with l:=false},some (P9 m),?_,List.mem_singleton.2 V,?_⟩)
 ·obtain⟨aq,O,U,w3⟩:=m;obtain⟨Z,aw⟩:=Y;simp only at Z;subst Z;have a7:w3<134217728:=aw;have a8:=Bool.toNat_le O;have a9:=Bool.toNat_le U;have e:(⟨true,O,U,w3⟩:M4).num+(-1)=((2*O.toNat+4*U.toNat+8*w3:Nat):Int):=by simp only [M4.num,Bool.toNat_true];omega
  rw [e,Ft (by omega)];simp only [M4.num,Bool.toNat_false];omega
 ·have ac:C4 m:=Y.2;have a0:Cf ({m with l:=false}:M4):=(show C4 ({m with l:=false}:M4) from ac).Cf;refine C 8 V ?_;refine F8 (p:=({m with l:=false}:M4).num≠0) V (λc=>?_) (λc=>?_)
  ·refine JL.region (C 2 V ?_);refine VB (kk:=kk) (nw:={m with l:=false}) K V V V V V V ac a0 (C 2 V ?_);refine K1 (kk:=kk) (p:= .Fa) CR.stop K V (λ_ _=>V) V V V V (by simp) N3 (JL.done ?_);exact JL.fin V V (By.none Tryz.func136 V) (back _ _ _ _ h)
  ·have a1:({m with l:=false}:M4).num=0:=Decidable.not_not.1 c;have ag:m.k=false/\m.s=false/\m.w=0:=by
    obtain⟨aq,O,U,w3⟩:=m;cases O <;> cases U <;> simp [M4.num] at a1 ⊢ <;> omega
   have a2:P9 m= .Fa:=by unfold P9;rw [if_neg (by rw [ag.2.1];exact Bool.false_ne_true),if_neg (λe=>e.2 ag.2.2)]
   rw [a2];refine C 2 V (K1 (kk:=kk) (p:= .Fa) CR.stop K V (λ_ _=>V) V V V V (by simp) N3 ?_);exact JL.done (JL.fin V V (By.none Tryz.func136 V) (back _ _ _ _ h))
theorem JO.Yr{F:Fam}{n:Nat}{M:Env}{ds:Ld_}{cs:Lf_}{s:St}{b:Frame}{kk:Nat}(K:b.roundOf=none)(O:s.q=false)(h:JO (AU Tryz.prog false) (Stop Tryz.prog F .HS) b n M ds cs s):
  JO (AU Tryz.prog false) (Stop Tryz.prog F (.lk kk .Gy)) b n M (dcall 99 #[.pointer (some F.uA)]::ds) cs s:=by
 refine JO.enter (vs:= [.pointer (some F.uA)]) K Tryz.func99 (by decide+kernel) V (Nat.le_of_ble_eq_true V) λT U todo=>C 3 V (Am (v:= .pointer (some F.uA)) V (λρ h=>DJ (a:=F.uA) 1 0 Tryz.underlying138 (AN Tryz.type136) V V V (h _ _ V)) ?_);refine US (kk:=kk) O V V V V (JL.done ?_);exact JL.out V (JO.leaveD V Tryz.func99 V (.inl V) (h T U todo))
end Pal
namespace Pal
open Go Go.Conc
open Go.ConcN (upd)
variable {ops:Ao_}{i:Nat}{rest:List Nat}{f:FuncId}{x y z:Operand}{ats:Array TypeId}{ty t u tw:TypeId}{pp:String}{af:Ae_}{g:On_}{kk:Nat}
section
variable {P:Program}{F:Fam}{n:Nat}{L L':Env}{ds:Ld_}{k:Li_}{cs:Lf_}{s s':St}{b:Frame}
variable {d:Option Tmp}
theorem UX{m:Nat}(h:Bj P t=some m)(w:World):(Go.sizeOf t).run P w= .ok m w:=by
 unfold Bj at h;simp only [Go.sizeOf,typeInfo,bind,Sem.bind,program,Sem.run];cases hi:P.info? t with
 | none=>rw [hi] at h;cases h
 | some j=>rw [hi] at h;simp at h;subst h;rfl
theorem Yh{w:World}{K:Nat->Value}(h:F.FD w K)(O:kk<F.n):w.cell? ⟨F.fd,kk,none⟩=some (K kk)/\w.frozen? ⟨F.fd,kk,none⟩=false:=by
 unfold Fam.FD Fam.It at h;constructor
 ·simp [World.cell?,h,O]
 ·simp [World.frozen?,h]
theorem Vw{w:World}{O:Nat->Value}{v:Value}(h:F.FD w O)(ac:kk<F.n):w.setCell ⟨F.fd,kk,none⟩ v=F.Hj w (upd O kk v):=by
 unfold Fam.Hj World.setCell;congr 1;apply Array.ext_getElem?;intro i;unfold Fam.FD Fam.It at h;rw [Array.getElem?_modify];have U:F.fd<w.heap.size:=by
  rcases Nat.lt_or_ge F.fd w.heap.size with K | K
  ·exact K
  ·simp [Array.getElem?_eq_none K] at h
 by_cases e:F.fd=i
 ·subst e;rw [Array.getElem?_setIfInBounds_self_of_lt U,h];simp only [if_true,Option.map_some,Fam.It,Option.some.injEq,Obj.cells.injEq,and_true];apply Array.ext
  ·simp
  ·intro j ag Y;by_cases e2:kk=j
   ·subst e2;simp [upd]
   ·have Z:¬j=kk:=λe=>e2 e.symm;simp [upd,Z];rw [Array.getElem_setIfInBounds (by simpa using Y),if_neg e2];simp
 ·rw [Array.getElem?_setIfInBounds_ne e,if_neg e]
theorem Vm{X:Ph->GP}(aw:CR P F X){a:Option Addr}{l c:Nat}(a0:s.q=false)(Y:kk<F.n)
  (a1:ops[i]? =some ⟨d,.store t x y,ty,pp,af,g⟩) (Z:b.roundOf=none) (hw:AM L ops ⟨d,.store t x y,ty,pp,af,g⟩=some true) (U:((b.kind != .early)&&Bf n d)=true)
  (a2:Bj P t=some 1) (a3:(P.funcs[b.fn]?).any (·.norace)=false) (a4:ev L x=some (.pointer (some ⟨F.fd,kk,none⟩))) (a5:ev L y=some (.slice a l c)) (hm:F.msg kk (.slice a l c) s.E)
  (h:JL (AU P false) (X (.lk kk .Gy)) b n (Au L d undef) ds (.inRegion ops rest::k) cs s):
  JL (AU P false) (X (.lk kk .Fy)) b n L ds (.inRegion ops (i::rest)::k) cs s:=λT K=>by
 simp only [Bool.and_eq_true] at U
 refine(AU P _).stop (aw _ _ _ {
  run:=rfl,offers:=rfl,quiet:=(by simp [Fam.CG]),live:=λ_=>a0,act:=(by simp [Fam.act]),IJ:=(by simp),EZ:=(by simp),go:=(by simp),lk:=λk' l e a6=>by cases e;exact absurd rfl a6
  Co:=(by simp),store:=λk' e=>?_,fin:=(by simp)})
 cases e
 refine⟨_,hm,G (fr b (CC T d undef) ds (.inRegion ops rest::k)) cs,rfl,λw a7 ac=>?_,h _ (K.put U.2 _)⟩
 obtain⟨c1,c2⟩:=Yh ac Y
 have ag:execOp (⟨T,ds⟩:Act).eval ⟨d,.store t x y,ty,pp,af,g⟩=(do Instr.storeAt t (.pointer (some ⟨F.fd,kk,none⟩)) (.slice a l c);pure Next.skip):=by
  rw [KR];simp only [execOp,K.ev a4,K.ev a5]
 have al:(Value.slice a l c).cells= #[.slice a l c]:=rfl;have am:(Value.slice a l c).oneCell'=true:=rfl;have ap:(Addr.add ⟨F.fd,kk,none⟩ 0)=⟨F.fd,kk,none⟩:=by rw [Dw rfl];rfl
 have aq:=UX (P:=P) a2 w;have O:=run_store P w ⟨F.fd,kk,none⟩ (.slice a l c) .plain am;rw [c1] at O;simp only [c2,Bool.false_eq_true,if_false] at O;rw [BI Z,BI Z,stepG_none (a:=⟨T,ds⟩) (w':=F.Hj w (upd a7 kk (.slice a l c))) a1 (B3 K hw) (by simpa using U.1) (by
  rw [ag]
  simp [Instr.storeAt,Instr.sureAddr,storeVar,al,aq,storeCells,ap,O,Vw ac Y,Result.andThen]),DU]
 have e2:listed P b.fn ⟨T,ds⟩ ⟨d,.store t x y,ty,pp,af,g⟩ w= #[⟨.cell ⟨F.fd,kk,none⟩,true,false⟩]:=by
  unfold listed;rw [ag];have a8:=events_store (P:=P) (w:=w) (es:= #[]) ⟨F.fd,kk,none⟩ (.slice a l c) .plain am;have a9:(do Instr.storeAt t (.pointer (some ⟨F.fd,kk,none⟩)) (.slice a l c);pure Next.skip:Sem Next).events P w #[]= #[⟨.cell ⟨F.fd,kk,none⟩,true,false⟩]:=by
   simp [Instr.storeAt,Instr.sureAddr,storeVar,al,aq,storeCells,ap,O,c1,c2,a8,Result.evThen]
  rw [a9,seen_def];simp [seenStep,a3]
 rw [e2]
end
end Pal
namespace Pal
open Go Go.Conc Go.Proofs
open Go.Proofs.Tryz
open Go.Conc.Lib Go.ConcR.Gen
theorem bg:(Tryz.prog.funcs[94]?).any (·.norace)=false:=by rw [func94];rfl
def Kw(fu_:Nat)(K:A5)(p:Aw)(j:Nat):Option (List Int):=
 (f120 fu_ K).bind λO=>
 (f119 fu_ ([O]:List (List (AG))) ((j:Nat):Int) p ([]:List ((Nat×Bn)×Bool))).bind λU=>
 some U.1
set_option maxHeartbeats 1000000 in
theorem Y9{F:Fam}{j:Nat}{E:LH}{ap a1 aq:Ao}{Z c2 aw ac op ag al am oi kf off:Nat}{p:Aw}{O:A5}(a6:At E ac op [.slice ap p.length Z])(a7:Al Ay E ap Z p)(a8:At E ag al [sV a1 O.1 c2,sV aq O.2 aw])(a9:Al (rL rI) E a1 c2 O.1)(bb:Al Ay E aq aw O.2)(hi:At E am oi [iV ((j:Nat):Int)])(be:At E kf off [.slice (some ⟨F.fd,0,none⟩) F.n F.n]){fu_:Nat}{r:List Int}(a3:Kw fu_ O p j=some r)(a4:j<F.n)(bi:∀E' a c,Le E E'->Al rI E' a c r->(r= []->a=none)->F.msg j (.slice a r.length c) E'):
  Way Tryz.prog false (Stop Tryz.prog F (F.start j)) (born Tryz.prog ⟨.fn (.func 94) [.pointer (some F.sA),Ak ac op,Ak ag al,Ak am oi,.pointer (some F.uA),Ak kf off].toArray,#[]⟩) ⟨E,λ_=>none,false⟩:=by
 refine Xf (fn:=Tryz.f94) (vs:= [.pointer (some F.sA),Ak ac op,Ak ag al,Ak am oi,.pointer (some F.uA),Ak kf off]) func94 (by decide+kernel) V (by simp) (Nat.le_of_ble_eq_true V) ?_;obtain⟨H,bo⟩:∃H:LH,H=λ_=>none:=⟨_,V⟩;rw [← bo];have bv:Aq E H []:=trivial;refine(?_:JL (AU Tryz.prog false) (Stop Tryz.prog F (.lk j .F1)) (baseD 94) Tryz.f94.ntmps (Ga 0 [.pointer (some F.sA),Ak ac op,Ak ag al,Ak am oi,.pointer (some F.uA),Ak kf off]) [] [.code _] [Lg Tryz.prog] (Aj E H []));unfold Kw at a3;refine C 2 V (JL.defer (vs:= [.pointer (some F.sA)]) V V V V V ?_);refine C 3 V (CY 0 a6 Bz V V V ?_);refine JS.makeMap V V V bv λr1 bw=>Am (v:= .agg #[sV ap p Z,.map (some r1)]) V (λρ h=>CI [(0,1),(1,1)] h (Db type149) underlying149 ⟨V,AN type96,V,AN type147,trivial⟩ V V) (JS.box (v:= .agg #[sV ap p Z,.map (some r1)]) V V V bw V λcO b0=>?_);refine C 3 V (CF 1 b0 V λcP K b1 b2=>?_);refine EV 5 λa0=>Ds 0 a0 V V (I9 1 a0 (a8.Ah K) FC Dl V V V ?_);refine Er 4 a0 0 (hi.Ah K) AR V V V V ?_;obtain⟨a5,b3,b4⟩:=bs a3;refine JG.call (i:=2) (vs:= [.agg #[sV a1 O.1 c2,sV aq O.2 aw]]) (aD (a9.Ah K) (bb.Ah K) b3) (by decide+kernel) V V V (A0 func97 V) V b2 ?_;rintro _ cQ _ U ⟨b5,b6,rfl,rfl,ca⟩ cc;refine JG.one (i:=3) V (by decide+kernel) (Take.EO (pp:=(rL (rM rI false rI false))) [sV b5 a5 b6] ([a5]:List (List AG)) cc V V V underlying154 Ju ME (by decide) V V V ⟨⟨_,_,V,ca⟩,trivial⟩ λcR cT ce ci=>?_);refine Dc [5,6] (B6 3 ce ci V λcV Y co cp=>?_);obtain⟨ct,cw,cy⟩:=bs b4;refine B9 0 (ae co (b1.Ah (U.Ad Y)) (a7.Ah ((K.Ad U).Ad Y)) BA.nil cw) V V (A0 func96 V) cp V ?_;rintro _ cW _ a2 ⟨cX,cY,cZ,rfl,rfl,cJ,cK,c0⟩ c1;refine C 3 V ?_;have cM:r=ct.1:=(Option.some.inj cy).symm;subst cM;refine JL.region (V8 (kk:=j) V V V V V ?_);refine C 3 V (JL.defer (vs:= [.pointer (some F.uA)]) V V V V V ?_);refine C 2 V (CY 0 (be.Ah (((K.Ad U).Ad Y).Ad a2)) FB V V V ?_);refine CY 0 (hi.Ah (((K.Ad U).Ad Y).Ad a2)) AR V V V (C 1 V ?_);refine Am (v:= Ak F.fd j) V (λρ h=>Yl.to (Fs (xs:=List.replicate F.n ()) (m:=((j:Nat):Int)) (xv:=()) (List.length_replicate) (by simp [ix,a4]) underlying25 GG (h _ _ V) (h _ _ V)) (by show Ak F.fd (j*1)=_;rw [Nat.mul_one])) (Vm (kk:=j) CR.stop V a4 V V V V GG bg V V (bi _ _ _ (((K.Ad U).Ad Y).Ad a2) cJ cK) ?_);exact JL.done (JL.out V (JO.Yr (kk:=j) V V (JO.bR Tryz.Kr V V (JO.leaveD V func94 V (.inr V) Vz))))
theorem OL.YW{e:TypeId}{E:LH}{r c:Nat}{seg:Seg}{xs:Lv_}(h:OL e rV E (AW r) c seg xs)(Y:c=xs.length):seg= [(r,.cells xs.toArray e (0,0))]:=by
 obtain⟨wss,ag,K,Z⟩:=h;rcases ag with⟨al,_⟩ | ⟨bk,f,am,e2,ac,ap,O⟩
 ·cases al
 cases am;have hw:wss=xs.map λx=> [x]:=by
  apply List.ext_getElem?;intro i;rw [List.getElem?_map];cases U:xs[i]? with
  | none=>rw [List.getElem?_eq_none (by rw [K];exact List.getElem?_eq_none_iff.1 U)];rfl
  | some x=>
   have hi:i<wss.length:=by rw [K];exact(List.getElem?_eq_some_iff.1 U).1
   have:=(Z i x wss[i] U (List.getElem?_eq_getElem hi)).1;rw [List.getElem?_eq_getElem hi,this];rfl
 have aq:wss.flatten=xs:=by
  rw [hw];clear hw O Z K ac ap Y
  induction xs with
  | nil=>rfl
  | cons x xs aw=>simp [aw]
 rw [aq] at O;have a1:rV.n=1:=V;have a0:f.toList=xs:=by
  rw [O];rw [List.take_of_length_le (by rw [Array.length_toList,ac,Y];exact Nat.le_refl _)]
 rw [e2,← a0]
noncomputable def Ky:Code:=match(Tryz.f61.body).bind (Jc 0) with | some (.loop c)=>c | _=> .skip
noncomputable def Uo:Code:=match(Tryz.f61.body).bind (Jc 2) with | some (.loop c)=>c | _=> .skip
set_option maxHeartbeats 1000000 in
theorem XS{F:Fam}{n:Nat}(a0:F.n=n)(b4:0<n)(b5:n<=1000){E:LH}{ap a1 al:Ao}{am c2 aq:Nat}{p:Aw}{O:A5}(a2:Al Ay E ap am p)(a3:Al (rL rI) E a1 c2 O.1)(a4:Al Ay E al aq O.2)(hlen:p.length=n){Y Z kf:Nat}(a5:At E Y 0 [.slice ap p.length am])(a6:At E Z 0 [sV a1 O.1 c2,sV al O.2 aq])(a7:At E kf 0 [.slice (some ⟨F.fd,0,none⟩) F.n F.n]){fu_:Nat}{xs:Nat->List Int}(a8:∀j,j<n->Kw fu_ O p j=some (xs j))(a9:∀j,j<n->∀E' a c,Al rI E' a c (xs j)->(xs j= []->a=none)->F.msg j (.slice a (xs j).length c) E'){j:Nat}(ac:j<n){ag H:LH}(hle:Le E ag)(bb:Aq ag H []){k:Li_}{cs:Lf_}
  (h:∀U,Le E U->Aq U H []->JL (AU Tryz.prog true) (Stop Tryz.prog F (F.Et j)) (base 61) Tryz.f61.ntmps [(2,Ak Z 0),(3,Ak Y 0),(6,.pointer (some F.uA)),(7,.pointer (some F.sA)),(8,Ak kf 0),(19,iV (p.length:Int)),(20,iV ((j+1:Nat):Int))] [] (.inLoop Ky::k) cs (Aj U H [])):
  JL (AU Tryz.prog true) (Stop Tryz.prog F (.Gc j)) (base 61) Tryz.f61.ntmps [(2,Ak Z 0),(3,Ak Y 0),(6,.pointer (some F.uA)),(7,.pointer (some F.sA)),(8,Ak kf 0),(19,iV (p.length:Int)),(20,iV ((j:Nat):Int))] [] (.code Ky:: .inLoop Ky::k) cs (Aj ag H []):=by
 refine C 2 V (Am (v:= .bool true) V (λρ h=>Yl.to (Yl.lss (h _ _ V) (h _ _ V)) (by rw [decide_eq_true (show((j:Nat):Int)<(p.length:Int) by omega)])) ?_);refine C 9 V (BM bb Ct λrn be=>?_);refine BF 0 be Ax λbi=>?_;refine CF 0 bi V λU bo bv bw=>H8 (S':= []) (by simp) bw λb0=>?_;have K:=hle.trans bo;refine C 3 V (We Tryz.Kr V V V V V V ?_);refine C 2 V (Am (v:= .func (.func 94) #[] ([.pointer (some F.sA),Ak Y 0,Ak Z 0,Ak rn 0,.pointer (some F.uA),Ak kf 0]:Lv_).toArray) V (λρ h=>KP (by simp) (by simp [h (.tmp 7) _ rfl,h (.tmp 3) _ rfl,h (.tmp 2) _ rfl,h (.tmp 9) _ rfl,h (.tmp 6) _ rfl,h (.tmp 8) _ rfl])) ?_);have aw:=Y9 (F:=F) (j:=j) (a5.Ah K) (a2.Ah K) (a6.Ah K) (a3.Ah K) (a4.Ah K) bv (a7.Ah K) (a8 j ac) (by rw [a0];exact ac) (λE' a c _ b1 b2=>a9 j ac E' a c b1 b2);refine ZY (fi:= #[]) V V V V V V V (by first | exact aw | (simp only [List.append_toArray,List.nil_append,Array.append_empty,Array.empty_append];exact aw)) ?_
 refine C 3 V ?_;have b3:Av (((j:Nat):Int)+1)=some (((j+1:Nat)):Int):=by unfold Av;rw [if_pos (by omega)];simp
 refine Bo b3 V V V (C 2 V ?_);exact AA (h U K b0) V
theorem Vy{F:Fam}{n:Nat}(Y:F.n=n)(a0:0<n)(a2:n<=1000){E:LH}{ap a1 ag:Ao}{al c2 am:Nat}{p:Aw}{O:A5}(a3:Al Ay E ap al p)(a4:Al (rL rI) E a1 c2 O.1)(a5:Al Ay E ag am O.2)(hlen:p.length=n){Z ac kf:Nat}(a6:At E Z 0 [.slice ap p.length al])(a7:At E ac 0 [sV a1 O.1 c2,sV ag O.2 am])(a8:At E kf 0 [.slice (some ⟨F.fd,0,none⟩) F.n F.n]){fu_:Nat}{xs:Nat->List Int}(a9:∀j,j<n->Kw fu_ O p j=some (xs j))(bb:∀j,j<n->∀E' a c,Al rI E' a c (xs j)->(xs j= []->a=none)->F.msg j (.slice a (xs j).length c) E'){H:LH}{k:Li_}{cs:Lf_}
  (h:∀K,Le E K->Aq K H []->JL (AU Tryz.prog true) (Stop Tryz.prog F .Di) (base 61) Tryz.f61.ntmps [(2,Ak ac 0),(3,Ak Z 0),(6,.pointer (some F.uA)),(7,.pointer (some F.sA)),(8,Ak kf 0),(19,iV (p.length:Int)),(20,iV (p.length:Int))] [] (.code Ky:: .inLoop Ky::k) cs (Aj K H [])):
  ∀(m j:Nat),j+m=n->0<m->∀U,Le E U->Aq U H []->JL (AU Tryz.prog true) (Stop Tryz.prog F (.Gc j)) (base 61) Tryz.f61.ntmps [(2,Ak ac 0),(3,Ak Z 0),(6,.pointer (some F.uA)),(7,.pointer (some F.sA)),(8,Ak kf 0),(19,iV (p.length:Int)),(20,iV ((j:Nat):Int))] [] (.code Ky:: .inLoop Ky::k) cs (Aj U H []):=by
 intro m
 induction m with
 | zero=>intro j _ be;cases be
 | succ m bi=>
  intro j bw _ U hle bo;refine XS Y a0 a2 a3 a4 a5 hlen a6 a7 a8 a9 bb (by omega) hle bo λK aq aw=>JL.again ?_;by_cases hm:m=0
  ·subst hm;have bv:j+1=F.n:=by rw [Y];omega
   have e:F.Et j= .Di:=by unfold Fam.Et;rw [if_pos bv]
   rw [e];have e2:((j+1:Nat):Int)=(p.length:Int):=by rw [hlen];omega
   rw [e2];exact h K aq aw
  ·have e:F.Et j= .Gc (j+1):=by unfold Fam.Et;rw [if_neg (by rw [Y];omega)]
   rw [e];exact bi (j+1) (by omega) (by omega) K aq aw
def N7(fu_:Nat)(K:A5)(p:Aw)(j:Nat):List Int:=(Kw fu_ K p j).getD []
def LY(n:Nat)(xs:Nat->List Int):(List Int)×Bool:=match(List.range n).find? (λj=> !(xs j).isEmpty) with | some j=>(xs j,true) | none=>([],false)
def f77(fu_:Nat)(K:A5)(p:Aw):Option ((List Int)×Bool):= if p.length=0 then some ([],true) else if p.length<=1000/\(List.range p.length).all (λj=>(Kw fu_ K p j).isSome)=true then some (LY p.length (N7 fu_ K p)) else none
theorem VX{n:Nat}{xs:Nat->List Int}{i:Nat}(hi:i<n)(K:xs i≠ [])(O:∀k,k<i->xs k= []):LY n xs=(xs i,true):=by
 unfold LY;have:(List.range n).find? (λj=> !(xs j).isEmpty)=some i:=by
  rw [List.find?_range_eq_some];refine⟨by simp [K],by simpa using hi,λj U=>by simp [O j U]⟩
 rw [this]
theorem Wx{n:Nat}{xs:Nat->List Int}(K:∀k,k<n->xs k= []):LY n xs=([],false):=by
 unfold LY;have:(List.range n).find? (λj=> !(xs j).isEmpty)=none:=by
  rw [List.find?_eq_none];intro j O;simp [K j (List.mem_range.1 O)]
 rw [this]
theorem X5{E:LH}{a:Ao}{c:Nat}{xs:List Int}(h:Al rI E a c xs)(K:xs≠ []):a.isNone=false:=by
 rcases h.2 with⟨e,_⟩ | ⟨bk,off,e,_⟩
 ·exact absurd e K
 ·rw [e];rfl
set_option maxHeartbeats 1000000 in
theorem ZB{J:Judge Tryz.prog}{Q:Gs_}{Y:Frame}{cs:Lf_}{fd n:Nat}{f:Nat->Value}{xs:Nat->List Int}(a1:n<=1000){E H:LH}{k:Li_}(ag:Aq E H [[(fd,.cells (Array.ofFn λi:Fin n=>f i) 22 (0,0))]])(hm:∀k,k<n->∃a c,f k= .slice a (xs k).length c/\Al rI E a c (xs k)/\(xs k= []->a=none))
  (al:∀i a c L',i<n->xs i≠ []->(∀k,k<i->xs k= [])->Al rI E a c (xs i)->look L' 4=some (.slice a (xs i).length c)->look L' 5=some (.bool true)->∀k',JL J Q (base 61) Tryz.f61.ntmps L' [] (.code .ret::k') (Y::cs) (Aj E H [[(fd,.cells (Array.ofFn λi:Fin n=>f i) 22 (0,0))]]))
  (am:(∀k,k<n->xs k= [])->JL J Q (base 61) Tryz.f61.ntmps [] [] k (Y::cs) (Aj E H [[(fd,.cells (Array.ofFn λi:Fin n=>f i) 22 (0,0))]])):
  ∀m i,i+m=n->(∀k,k<i->xs k= [])->JL J Q (base 61) Tryz.f61.ntmps [(27,.slice (AW fd) n n),(28,iV (n:Int)),(29,iV (i:Int))] [] (.code Uo:: .inLoop Uo:: .inBlock 2::k) (Y::cs) (Aj E H [[(fd,.cells (Array.ofFn λi:Fin n=>f i) 22 (0,0))]]):=by
 intro m
 induction m with
 | zero=>
  intro i hi K;refine C 2 V (Am (v:= .bool false) V (λρ h=>Yl.to (Yl.lss (h _ _ V) (h _ _ V)) (by rw [decide_eq_false (show ¬((i:Int)<(n:Int)) by omega)])) ?_);refine C 4 V (Ep [] V ?_);exact am λk a2=>K k (by omega)
 | succ m ap=>
  intro i hi K;have O:i<n:=by omega
  obtain⟨a,c,aq,ac,aw⟩:=hm i O;refine C 2 V (Am (v:= .bool true) V (λρ h=>Yl.to (Yl.lss (h _ _ V) (h _ _ V)) (by rw [decide_eq_true (show(i:Int)<(n:Int) by omega)])) ?_);refine C 8 V (Am (v:= Ak fd i) V (λρ h=>Yl.to (Fs (xs:=List.replicate n ()) (m:=((i:Nat):Int)) (xv:=()) (List.length_replicate) (by simp [ix,O]) underlying25 GG (h _ _ V) (h _ _ V)) (by show Ak fd (i*1)=_;rw [Nat.mul_one])) ?_);refine Am (v:= .slice a (xs i).length c) V (λρ h=>Yl.load J8 (h _ _ V) (BR (j:=0) (off:=i) ag V (by simp [O,aq]))) (C 5 V ?_);refine Am (v:= .bool (!a.isNone)) V (λρ h=>Wz underlying22 (h _ _ V) (h _ _ V)) (JL.done ?_);by_cases U:xs i= []
  ·have Z:(!a.isNone)=false:=by rw [aw U];rfl
   rw [Z];refine C 4 V ?_;have a0:Av (((i:Nat):Int)+1)=some (((i+1:Nat)):Int):=by unfold Av;rw [if_pos (by omega)];simp
   refine Bo a0 V V V ?_;refine C 2 V ?_;refine JL.again ?_;refine DW ?_ (ap (i+1) (by omega) (λk a3=>by
    by_cases e:k=i
    ·subst e;exact U
    ·exact K k (by omega)))
   exact⟨V,V,V,trivial⟩
  ·have Z:(!a.isNone)=true:=by rw [X5 ac U];rfl
   rw [Z];exact C 7 V (al i a c _ O U K ac V V _)
set_option maxHeartbeats 2000000 in
theorem bE{E:LH}{a1:Ao}{c2:Nat}{be:Ao}{bi:Nat}{ap:Ao}{bo:Nat}{O:A5}{p:Aw}(cw:Al (rL rI) E a1 c2 O.1)(cy:Al Ay E be bi O.2)(cJ:Al Ay E ap bo p){fu_:Nat}{r:(List Int)×Bool}(U:f77 fu_ O p=some r):
  AL (GK Tryz.prog) 61 [.agg #[sV a1 O.1 c2,sV be O.2 bi],sV ap p bo] E [] (λw E' B'=>∃(bv:Ao) (bw:Nat),w= .tuple #[sV bv r.1 bw,.bool r.2]/\B'= []/\Al rI E' bv bw r.1):=by
 refine K7 func61 V V λQ dn cs H cK Y=>?_;unfold f77 at U;refine C 2 V (Dd cK λcM dp cO cP cQ=>?_);refine Dd cQ λcR dq b0 am cT=>?_;refine H8 (S':= []) (by simp) cT λb1=>?_;have b2:=cO.Ad b0;refine C 6 V (CY 0 am Bz V V V ?_);refine JL.ln underlying96 V V V (C 2 V ?_);refine F8 (p:=(p.length:Int)=0) V (λcV=>?_) (λcV=>?_)
 ·rw [if_pos (by omega)] at U;have Z:=(Option.some.inj U).symm;subst Z;refine C 5 V (AS func61 V V ?_);exact Y _ _ _ _ b2 V ⟨none,0,V,V,Al.nil⟩ b1
 rw [if_neg (by omega)] at U;split at U
 rotate_left
 ·cases U
 rename_i hb;obtain⟨b3,cW⟩:=hb;have Z:=(Option.some.inj U).symm;have ag:∀j,j<p.length->Kw fu_ O p j=some (N7 fu_ O p j):=λj a3=>by
  have aq:=List.all_eq_true.1 cW j (List.mem_range.2 a3);obtain⟨x,a4⟩:=Option.isSome_iff_exists.1 aq;unfold N7;rw [a4];rfl
 generalize dr:N7 fu_ O p=xs at ag Z;have b4:0<p.length:=by omega
 refine C 3 V (BM b1 (Db type138) λmu cX=>?_);refine C 3 V (BM cX (Db type144) λwg cY=>?_);refine JL.done (H8 (S':= [[(mu,.cells #[.int .i32 0,.int .u32 0] 138 (0,0))],[(wg,.cells #[.int .u64 0,.int .u32 0] 144 (0,0))]]) (by simp [Value.cells]) cY λcZ=>?_);refine C 2 V (CY 0 am Bz V V V ?_);refine JL.ln underlying96 V V V ?_;have c0:He (p.length:Int) (Value.slice none 0 0)=some (List.replicate p.length nS):=by unfold He;rw [if_pos (by omega)];simp
 refine JS.make (pp:=rV) c0 V V V V V underlying25 GG (CX type22) (by decide) Lu (by decide) ⟨V,V⟩ cZ λfd dt c1 b5=>?_;have c3:=OL.YW c1 V;subst c3;obtain⟨K,b6⟩:∃K,K=List.replicate p.length (Value.slice none 0 0):=⟨_,V⟩;have ca:(List.replicate p.length (Value.slice none 0 0)).length=p.length:=by simp
 rw [← b6] at b5 ca ⊢;rw [ca];refine BM b5 (Db type25) λkf c4=>?_;refine BF 3 c4 Fl λc5=>?_;refine CF 3 c5 V λac aw cc c6=>H8 (S':= [[(mu,.cells #[.int .i32 0,.int .u32 0] 138 (0,0))],[(wg,.cells #[.int .u64 0,.int .u32 0] 144 (0,0))],[(fd,.cells K.toArray 22 (0,0))]]) (by simp) c6 λal=>?_;have a0:=b2.Ad aw;refine C 4 V (CY 0 (am.Ah aw) Bz V V V ?_);refine JL.ln underlying96 V V V (C 3 V ?_);refine H7 (Ep [(2,Ak cM 0),(3,Ak cR 0),(6,.pointer (some (⟨mu,0,none⟩:Addr))),(7,.pointer (some (⟨wg,0,none⟩:Addr))),(8,Ak kf 0),(19,iV (p.length:Int)),(20,iV ((0:Nat):Int))] V ?_);have ce:=Nd.iff.1 al;intro T c7;let F:Fam:=⟨wg,mu,fd,144,138,22,p.length,λkk v E=>kk<p.length/\∃a c,v= .slice a (xs kk).length c/\Al rI E a c (xs kk)/\(xs kk= []->a=none),λg s=>(GK Tryz.prog).ok Q g s⟩;have a2:=ce.1;simp only [List.flatten_cons,List.flatten_nil,List.append_nil,List.cons_append,List.nil_append,List.map_cons,List.map_nil,List.nodup_cons,List.mem_cons,List.not_mem_nil,not_or,or_false,not_false_eq_true,and_true,List.nodup_nil] at a2;have c8:(Aj ac H [[(mu,.cells #[.int .i32 0,.int .u32 0] 138 (0,0))],[(wg,.cells #[.int .u64 0,.int .u32 0] 144 (0,0))],[(fd,.cells K.toArray 22 (0,0))]]).H fd=some (F.It λ_=> nS):=by
  rw [JV (j:=2) al rfl];have:(Array.ofFn λ_:Fin p.length=>Value.slice none 0 0)=K.toArray:=by
   rw [b6];apply Array.ext
   ·simp
   ·intro i aq ci;simp
  show some (Obj.cells K.toArray 22 (0,0))=some (Obj.cells (Array.ofFn λ_:Fin p.length=>Value.slice none 0 0) 22 (0,0));rw [this]
 refine YA F (f₀:=λ_=> .slice none 0 0) (show 1<=p.length by omega) (show p.length<134217728 by omega) ?_ a2.1.1 (λe=>a2.2 e.symm) (λe=>a2.1.2 e.symm) (JV (j:=1) al V) (JV (j:=0) al V) c8 ?_ (λg s h=>h)
 ·rintro kk v du dv c9 ⟨aq,a,c,ci,a5,a6⟩;exact⟨aq,a,c,ci,a5.Ah c9,a6⟩
 have da:=Ve al;show Way Tryz.prog true (Stop Tryz.prog F (.Gc 0)) _ (⟨(Aj ac H [[(mu,.cells #[.int .i32 0,.int .u32 0] 138 (0,0))],[(wg,.cells #[.int .u64 0,.int .u32 0] 144 (0,0))],[(fd,.cells K.toArray 22 (0,0))]]).E,JD (Aj ac H [[(mu,.cells #[.int .i32 0,.int .u32 0] 138 (0,0))],[(wg,.cells #[.int .u64 0,.int .u32 0] 144 (0,0))],[(fd,.cells K.toArray 22 (0,0))]]).H wg mu fd,false⟩:St);rw [show(Aj ac H [[(mu,.cells #[.int .i32 0,.int .u32 0] 138 (0,0))],[(wg,.cells #[.int .u64 0,.int .u32 0] 144 (0,0))],[(fd,.cells K.toArray 22 (0,0))]]).E=ac from rfl,da];have db:Aq ac H []:=trivial;have dc:H fd=none:=(ce.2 (fd,.cells K.toArray 22 (0,0)) (by simp)).2;refine Vy (F:=F) (n:=p.length) V b4 b3 (cJ.Ah a0) (cw.Ah a0) (cy.Ah a0) V (am.Ah aw) (cP.Ah (b0.Ad aw)) cc ag (λj a3 E' a c dd de=>⟨a3,a,c,V,dd,de⟩) (λdf co dw=>?_) p.length 0 (by omega) b4 ac AF db T c7;refine C 2 V ?_;refine Am (v:= .bool false) V (λρ h=>Yl.to (Yl.lss (h _ _ V) (h _ _ V)) (by rw [decide_eq_false (show ¬((p.length:Int)<(p.length:Int)) by omega)])) ?_;refine C 6 V ?_;refine JL.wait Tryz.Kr (F:=F) (show p.length<2147483648 by omega) V V V V V (Q:=Q) (λg s h=>h) λa7 f cp dg dx dh=>?_;have a8:Aq a7 H [[(fd,F.It f)]]:=Nd.iff.2 ⟨by simp,λq ag=>by
  simp at ag;subst ag;exact⟨dg,dc⟩⟩
 have es:(⟨a7,F.JF (Aj df H []).H f,false⟩:St)=Aj a7 H [[(fd,F.It f)]]:=by
  unfold Aj mk;congr 1
 rw [es];have ct:=(a0.Ad co).Ad cp;refine C 4 V (CY 0 (cc.Ah (co.Ad cp)) FB V V V ?_);refine JL.ln underlying25 V V V (C 3 V ?_);refine H7 (Ep [(27,.slice (AW fd) p.length p.length),(28,iV (p.length:Int)),(29,iV ((0:Nat):Int))] V ?_);refine ZB (n:=p.length) (f:=f) (xs:=xs) b3 a8 (λk Y=>?_) (λi a c L' hi a4 a9 di a5 a6 k'=>?_) (λa9=>?_) p.length 0 (by omega) (λk Y=>absurd Y (Nat.not_lt_zero _))
 ·obtain⟨_,a,c,dj,e2,dk⟩:=dh k Y;exact⟨a,c,dj,e2,dk⟩
 ·rw [VX hi a4 a9] at Z;subst Z;exact JL.ret (v:= .tuple #[.slice a (xs i).length c,.bool true]) V V (By.list func61 V (vs:= [.slice a (xs i).length c,.bool true]) ⟨a5,a6,trivial⟩) (QK a8 λbb=>Y _ _ _ _ ct V ⟨a,c,V,V,di⟩ bb)
 ·rw [Wx a9] at Z;subst Z;refine C 5 V (AS func61 V V ?_);exact QK a8 λbb=>Y _ _ _ _ ct V ⟨none,0,V,V,Al.nil⟩ bb
end Pal
namespace Pal
open Go Go.Conc Go.Proofs
open Go.Proofs.Tryz
def TB(fu_:Nat)(Z:A5×Int)(O:AX)(K:Int):Option (Bm Int ((Aw×(List Int)×Int)⊕(Unit))):= if K<(O.length:Int) then((ix O K).bind λU=> (f77 fu_ Z.1 U).bind λY=> if Y.2=true then(some (.done (Sum.inl (U,Y.1,0)))) else((Av (K+1)).bind λac=> some (.more ac))) else(some (.done (Sum.inr ())))
def f27(fu_:Nat)(p0:A5):Option (Aw×(List Int)×Int):= (f70 fu_ p0 ([])).bind λK=> if K.2≠0 then(some ([],[],K.2)) else((f71 fu_ K.1 0).bind λO=> (f76 fu_ O).bind λU=> Option.bind (iter (TB fu_ K U) fu_ 0) λY=> Sum.elim (λr=>some r) (λZ=> some ([],[],11)) Y)
theorem bM{E:LH}{a1:Ao}{c2:Nat}{al:Ao}{am:Nat}{p0:A5}(cy:Al (rL rI) E a1 c2 p0.1)(cJ:Al Ay E al am p0.2){fu_:Nat}{r:Aw×(List Int)×Int}(be:f27 fu_ p0=some r):AL (GK Tryz.prog) 24 [.agg #[sV a1 p0.1 c2,sV al p0.2 am]] E [] (λw E' B'=>∃(bi:Ao) (bo:Nat) (bv:Ao) (bw:Nat),w= .tuple #[sV bi r.1 bo,sV bv r.2.1 bw,iV r.2.2]/\B'= []/\Al Ay E' bi bo r.1/\Al rI E' bv bw r.2.1):=by
 refine Bg func24 λQ dJ cs H cK a5=>?_;unfold f27 at be;refine C 2 V (Dd cK λcM dK Y cO cP=>?_);refine C 6 V (BX cO ER CQ V V ?_);obtain⟨K,cQ,cR⟩:=bs be;refine BU (Ks (cy.Ah Y) (cJ.Ah Y) Al.nil cQ) V V J9 cP ?_;rintro _ dL _ a6 ⟨ap,aq,aw,a0,rfl,rfl,b0,b1⟩ cT;refine C 3 V (BM cT Hx λb2 cV=>?_);refine BF 3 cV Dl λcW=>?_;refine CF 3 cW V λdM O b3 b4=>C 8 V (AV cR (λcX cY=>?_) (λcX cZ=>?_))
 ·refine C 7 V ?_;obtain rfl:=oi cY;exact AS func24 V V (a5 ((Y.Ad a6).Ad O) V ⟨none,0,none,0,V,V,Al.nil,Al.nil⟩ b4)
 ·refine C 3 V (BX b3 FC Dl V V ?_);obtain⟨dN,c0,c1⟩:=bs cZ;refine BU (PO (b0.Ah O) (b1.Ah O) c0) V V Oj b4 ?_;rintro _ dO dP Z ⟨a2,a3,_,rfl,rfl,c3⟩ c4;obtain⟨ac,c5,c6⟩:=bs c1;refine C 5 V (B9 4 (Zj c3 c5) V V (A0 func63 V) c4 V ?_);rintro _ c7 c8 ag ⟨rfl,c9,a7⟩ da;refine DW (L':= [(23,.tuple #[]),(0,.agg #[.slice a1 p0.1.length c2,.slice al p0.2.length am]),(1,Ak cM 0),(2,.slice none 0 0),(3,.slice none 0 0),(4,iV 0),(13,.agg #[.slice a1 p0.1.length c2,.slice al p0.2.length am]),(14,.tuple #[.agg #[.slice ap K.1.1.length aq,.slice aw K.1.2.length a0],iV K.2]),(12,.tuple #[.agg #[.slice ap K.1.1.length aq,.slice aw K.1.2.length a0],iV K.2]),(15,.agg #[.slice ap K.1.1.length aq,.slice aw K.1.2.length a0]),(16,iV K.2),(5,Ak b2 0),(6,iV K.2),(17,iV K.2),(18,.bool (decide (K.2≠0))),(20,.agg #[.slice ap K.1.1.length aq,.slice aw K.1.2.length a0]),(21,.slice a2 ac.length a3),(7,.slice a2 ac.length a3),(22,.slice a2 ac.length a3)]) ⟨V,V,V,V,V,V,V,V,V,V,V,V,V,V,V,V,by rw [a7];rfl,by rw [a7];rfl,by rw [a7];rfl,trivial⟩ ?_;refine C 5 V (JL.ln underlying91 V V V ?_);obtain⟨b5,db,b6⟩:=bs c6;refine C 2 V (Br (λL s=>∃(ca:Unit) (cc:LH),b5=Sum.inr ca/\Jm c7 H cc [] [] L s) ?_ ?_)
  ·rintro _ _ ⟨ca,cc,rfl,rfl,rfl,dc,dd⟩;have de:=elim_inr b6;refine C 6 V ?_;obtain rfl:=oi de;exact AS func24 V V (a5 (((((Y.Ad a6).Ad O).Ad Z).Ad ag).Ad dc) V ⟨none,0,none,0,V,V,Al.nil,Al.nil⟩ dd)
  ·intro df;refine JL.block (DZ db (λa8=> [c8]) (λa8=> [(5,Ak b2 0),(24,sV a2 ac a3),(25,iV (ac.length:Int)),(26,iV a8)]) AF da ?_);rintro a8 dg U a9 ce ⟨dQ,a4⟩ dh;have ci:=a4;unfold TB at ci;refine C 5 V (AV ci (λdi dj=>?_) (λdi dk=>?_))
   ·obtain⟨dn,dp,dq⟩:=bs dj;refine C 5 V (I6 0 (c9.Ah U) dp V V V V V V underlying91 Bh ?_);rintro dR dS f93 _ dr ⟨co,cp,rfl,ct⟩ dt dT dU dV dW;refine Am (v:= sV co dn cp) V (λρ h=>Yl.load Bz (h _ _ V) (BR (j:=0) a9 dr (dt 0 _ V))) (C 4 V ?_);refine BX (b3.Ah ((Z.Ad ag).Ad U)) FC Dl V V ?_;obtain⟨dX,du,dv⟩:=bs dq;refine C 1 V (BU (bE (b0.Ah (((O.Ad Z).Ad ag).Ad U)) (b1.Ah (((O.Ad Z).Ad ag).Ad U)) ct du) V V (A0 func61 V) a9 ?_);rintro _ dY _ bb ⟨dw,dx,rfl,rfl,dy⟩ cw;refine C 10 V (Cn dv (λdz dA=>?_) (λdz dB=>?_))
    ·refine C 8 V (JS.drop 0 cw V λdC=>?_);obtain rfl:=oi dA;obtain rfl:=ce _ a4;have dD:=elim_inl b6;obtain rfl:=oi dD;exact AS func24 V V (a5 ((((((Y.Ad a6).Ad O).Ad Z).Ad ag).Ad U).Ad bb) V ⟨co,cp,dw,dx,V,V,(ct.Ah bb),dy⟩ dC)
    ·obtain⟨dE,dF,dG⟩:=bs dB;refine C 3 V (Bo dF V V V ?_);refine C 2 V ?_;obtain rfl:=oi dG;exact dh dE (U.Ad bb) cw V a4
   ·refine JL.exit V (JS.drop 0 a9 V λdH=>?_);obtain rfl:=oi dk;have dI:b5=(Sum.inr ()):=(ce _ a4).symm;exact AA (df _ _ ⟨(),dg,dI,V,V,U,dH⟩) V
variable {J:Judge Tryz.prog}{E:LH}
def Ti(fu_:Nat)(p0:List Int)(K:Aw×Int):Option (Bm (Aw×Int) (Aw)):= (Av (K.2+2)).bind λO=> if O<(p0.length:Int) then((ix p0 K.2).bind λU=> (Av (K.2+1)).bind λY=> (ix p0 Y).bind λZ=> (Av (K.2+2)).bind λac=> (ix p0 ac).bind λag=> (Dy K.1 ([(U,Z,ag)]:Aw)).bind λal=> (Av (K.2+3)).bind λam=> some (.more (al,am))) else(some (.done K.1))
def f67(fu_:Nat)(p0:List Int):Option (Aw):= Option.bind (iter (Ti fu_ p0) fu_ ([],0)) λK=> some K
theorem NN{a1:Ao}{c2:Nat}{p0:List Int}(aq:Al rI E a1 c2 p0){fu_:Nat}{r:Aw}(a5:f67 fu_ p0=some r):AL J 44 [sV a1 p0 c2] E [] (λw E' B'=>∃(a6:Ao) (a7:Nat) (g0:Seg),w= sV a6 r a7/\B'=g0/\OL 42 Ay E' a6 a7 g0 r):=by
 refine Bg func44 λQ dg cs H bv bw=>?_;unfold f67 at a5;obtain⟨a8,b0,b1⟩:=bs a5;refine C 13 V (Br (λL s=>∃(aw:LH) (Y:Ao) (Z:Nat) (ac:Seg),Jn E H aw [ac] [(3,sV Y a8 Z)] L s (OL 42 Ay aw Y Z ac a8)) ?_ ?_)
 ·rintro _ _ ⟨aw,Y,Z,ac,rfl,rfl,b2,b3,b4⟩;refine C 5 V ?_;obtain rfl:=oi b1;exact AS func44 V V (bw b2 V ⟨Y,Z,ac,V,(by first | rfl | simp | (simp [Value.cells])),b4⟩ b3)
 ·intro b5;refine JL.block (Cl b0 (λL s ag=>∃(al:LH) (am:Ao) (ap:Nat) (O:Seg),Jn E H al [O] [(0,sV a1 p0 c2),(3,sV am ag.1 ap),(4,iV ag.2)] L s (OL 42 Ay al am ap O ag.1)) ⟨E,none,0,[],V,V,AF,bv,OL.nil⟩ ?_);rintro _ _ ag ⟨al,am,ap,O,rfl,rfl,U,a9,bb⟩ b6 ⟨dh,a0⟩ ca;have be:=a0;unfold Ti at be;obtain⟨di,cc,ce⟩:=bs be;refine C 4 V (Bo cc V V V ?_);refine C 1 V (JL.ln underlying22 V V V ?_);refine C 2 V (AV ce (λci co=>?_) (λci cp=>?_))
  ·refine C 3 V (EV 17 λK=>?_);refine Bc K V [0,1,2] V ?_;obtain⟨a2,ct,cw⟩:=bs co;refine Fe 3 (aq.Ah U) ct K underlying22 Ax ?_;rintro dj dk _ rfl cy;refine Er 4 K 0 cy AR V V V V (Bc K V [5,6] V ?_);obtain⟨dn,cJ,cK⟩:=bs cw;refine AP 7 K V V (λρ h s' bi=>Fq (h _ _ V) (h _ _ V) cJ) ?_;obtain⟨a3,cM,cO⟩:=bs cK;refine Fe 8 (aq.Ah U) cM K underlying22 Ax ?_;rintro dp dq _ rfl cP;refine Er 9 K 0 cP AR V V V V (Bc K V [10,11] V ?_);obtain⟨dr,cQ,cR⟩:=bs cO;refine AP 12 K V V (λρ h s' bi=>Fq (h _ _ V) (h _ _ V) cQ) ?_;obtain⟨a4,cT,cV⟩:=bs cR;refine Fe 13 (aq.Ah U) cT K underlying22 Ax ?_;rintro dt du _ rfl cW;refine Er 14 K 0 cW AR V V V V (AP (v:= .agg #[iV a2,iV a3,iV a4]) 15 K V V (λρ h s' bi=>CI [(0,1),(1,1),(2,1)] h Bx underlying42 ⟨V,AN type3,V,AN type3,V,AN type3,trivial⟩ V V) ?_);refine JG.one (i:=16) V (by decide+kernel) (Take.EO (pp:=Ay) [.agg #[iV a2,iV a3,iV a4]] ([(a2,a3,a4)]:Aw) a9 V V V underlying26 A9 Bx (by decide) V V V ⟨⟨_,_,V,V,⟨_,_,V,V,V⟩⟩,trivial⟩ λdv cX cY cZ=>?_);refine Dc [17,18] (BB (S':= [O,cX]) V cZ λc0=>?_);refine B6 1 cY c0 V λc1 bo c3 c4=>?_;obtain⟨c5,c6,c7⟩:=bs cV;refine I5 (pp:=Ay) 0 c6 V V V V V V V underlying26 underlying26 A9 (CX type42) Bx V (by decide) (by decide) (bb.Ah bo) c3 c4 V λc8 c9 da db dc=>?_;obtain⟨dd,de,df⟩:=bs c7;refine C 5 V (Bo de V V V ?_);refine C 2 V ?_;obtain rfl:=oi df;exact AA (ca _ _ (c5,dd) ⟨c1,c8,c9,da,V,V,(U.Ad bo),dc,db⟩ a0) V
  ·refine JL.exit V ?_;obtain rfl:=oi cp;obtain rfl:=b6 _ a0;exact AA (b5 _ _ ⟨al,am,ap,O,V,V,U,a9,bb⟩) V
def f110(fu_:Nat)(p0:List Int)(K:List Int):Option (A5):= (f67 fu_ ([0,1,5,1,2,5,2,3,2,0,3,1,3,1,1]:List Int)).bind λO=> (f67 fu_ K).bind λU=> (Dy O U).bind λY=> some (([p0,[],([3]:List Int),([1]:List Int)]:Bn),Y)
theorem Pp{a1:Ao}{c2:Nat}{a2:Ao}{a3:Nat}{p0:List Int}{al:List Int}(bi:Al rI E a1 c2 p0)(bo:Al rI E a2 a3 al){fu_:Nat}{r:A5}(a4:f110 fu_ p0 al=some r):AL J 42 [sV a1 p0 c2,sV a2 al a3] E [] (λw E' B'=>∃(a5:Ao) (a6:Nat) (a7:Ao) (a8:Nat),w= .agg #[sV a5 r.1 a6,sV a7 r.2 a8]/\B'= []/\Al (rL rI) E' a5 a6 r.1/\Al Ay E' a7 a8 r.2):=by
 refine Bg func42 λQ dh cs H bv bw=>?_;unfold f110 at a4;refine C 2 V (BM bv Js λY b0=>?_);refine C 4 V (FU (pp:=rI) [iV 3] [3] V V V underlying22 Ax Ct (by decide) V V V ⟨V,trivial⟩ b0 λb1 b2 b3 b4=>?_);refine FU (pp:=rI) [iV 1] [1] V V V underlying22 Ax Ct (by decide) V V V ⟨V,trivial⟩ b4 λb5 b6 ca cc=>BB (S':= [[],[(Y,.cells #[nS,nS] 28 (0,0))],b2,b6]) V cc λce=>B6 2 b3 ce V λdi ac ci co=>B6 3 (ca.Ah ac) co V λdj ag cp ct=>FU (pp:=(rL rI)) [sV a1 p0 c2,nS,.slice (AW b1) (([3]:List Int)).length 1,.slice (AW b5) (([1]:List Int)).length 1] [p0,[],([3]:List Int),([1]:List Int)] V V V underlying25 GG Lu (by decide) V V V ⟨⟨_,_,V,(bi.Ah (ac.Ad ag))⟩,⟨_,_,V,Al.nil⟩,⟨_,_,V,(ci.Ah ag)⟩,⟨_,_,V,cp⟩,trivial⟩ ct λK am cw cy=>BB (S':= [[],[(Y,.cells #[nS,nS] 28 (0,0))],[],[],am]) V cy λcJ=>FU (pp:=rI) [iV 0,iV 1,iV 5,iV 1,iV 2,iV 5,iV 2,iV 3,iV 2,iV 0,iV 3,iV 1,iV 3,iV 1,iV 1] [0,1,5,1,2,5,2,3,2,0,3,1,3,1,1] V V V underlying22 Ax Ct (by decide) V V V ⟨V,V,V,V,V,V,V,V,V,V,V,V,V,V,V,trivial⟩ cJ λdk dn cK cM=>B6 5 cK cM V λdp ap cO cP=>?_;obtain⟨dq,cQ,cR⟩:=bs a4;refine BU (NN cO cQ) V V MC cP ?_;rintro _ dr cT aq ⟨dt,du,_,rfl,rfl,cV⟩ cW;refine BB (S':= [[],[(Y,.cells #[nS,nS] 28 (0,0))],[],[],am,[],cT]) V cW λcX=>?_;obtain⟨dv,cY,cZ⟩:=bs cR;refine C 1 V (BU (NN (bo.Ah (((ac.Ad ag).Ad ap).Ad aq)) cY) V V MC cX ?_);rintro _ dw dx aw ⟨dy,dz,_,rfl,rfl,c0⟩ c1;refine B6 7 c0 c1 V λdA a0 c3 c4=>?_;obtain⟨Z,c5,c6⟩:=bs cZ;refine I5 (pp:=Ay) 6 c5 V V V V V V V underlying26 underlying26 A9 (CX type42) Bx V (by decide) (by decide) (cV.Ah (aw.Ad a0)) c3 c4 V λO U c7 c8 c9=>BB (S':= [[],[(Y,.cells #[nS,nS] 28 (0,0))],[],[],am,[],c7,[]]) V c9 λda=>Am (v:= .agg #[.slice (AW K) (([p0,[],([3]:List Int),([1]:List Int)]:Bn)).length 4,sV O Z U]) V (λρ h=>CI [(0,1),(1,1)] h Js underlying28 ⟨V,AN type25,V,AN type26,trivial⟩ V V) (BF 1 da CQ λdb=>?_);refine JL.done (B6 4 (cw.Ah (((ap.Ad aq).Ad aw).Ad a0)) db V λdB a9 dc dd=>?_);refine B6 6 (c8.Ah a9) dd V λdC bb de df=>BB (S':= [[],[(Y,.cells #[.slice (AW K) (([p0,[],([3]:List Int),([1]:List Int)]:Bn)).length 4,sV O Z U] 28 (0,0))],[],[],[],[],[],[]]) V df λbe=>?_;obtain rfl:=oi c6;refine JL.ret (v:= .agg #[.slice (AW K) (([p0,[],([3]:List Int),([1]:List Int)]:Bn)).length 4,sV O Z U]) V V (By.list func42 V (vs:= [.agg #[.slice (AW K) (([p0,[],([3]:List Int),([1]:List Int)]:Bn)).length 4,sV O Z U]]) ⟨⟨_,V,Ld.many (vs:= [.slice (AW K) (([p0,[],([3]:List Int),([1]:List Int)]:Bn)).length 4,sV O Z U]) ER CQ (G4 (off:=0) 1 be V V)⟩,trivial⟩) (Em 1 be V λdg=>?_);exact bw (((((((ac.Ad ag).Ad ap).Ad aq).Ad aw).Ad a0).Ad a9).Ad bb) V ⟨(AW K),4,O,U,V,V,(dc.Ah bb),de⟩ dg
def f63(fu_:Nat):Option (A5):= (f110 fu_ ([1,2,3]:List Int) ([])).bind λK=> some K
theorem NU{fu_:Nat}{r:A5}(ac:f63 fu_=some r):AL J 40 [] E [] (λw E' B'=>∃(ag:Ao) (al:Nat) (am:Ao) (ap:Nat),w= .agg #[sV ag r.1 al,sV am r.2 ap]/\B'= []/\Al (rL rI) E' ag al r.1/\Al Ay E' am ap r.2):=by
 refine Bg func40 λQ bv cs H aw a0=>?_;unfold f63 at ac;refine C 2 V (BM aw Js λr1 a1=>?_);refine C 3 V (FU (pp:=rI) [iV 1,iV 2,iV 3] [1,2,3] V V V underlying22 Ax Ct (by decide) V V V ⟨V,V,V,trivial⟩ a1 λbw b0 a2 a3=>?_);refine B6 2 a2 a3 V λb1 a4 a5 a6=>?_;obtain⟨K,a7,a8⟩:=bs ac;refine BU (Pp a5 Al.nil a7) V V Om a6 ?_;rintro _ b2 _ a9 ⟨O,U,Y,Z,rfl,rfl,bb,be⟩ bi;refine BF 1 bi CQ λaq=>?_;refine JL.done ?_;obtain rfl:=oi a8;refine JL.ret (v:= .agg #[sV O K.1 U,sV Y K.2 Z]) V V (By.list func40 V (vs:= [.agg #[sV O K.1 U,sV Y K.2 Z]]) ⟨⟨_,V,Ld.many (vs:= [sV O K.1 U,sV Y K.2 Z]) ER CQ (G4 (off:=0) 1 aq V V)⟩,trivial⟩) (Em 1 aq V λbo=>?_);exact a0 (a4.Ad a9) V ⟨O,U,Y,Z,V,V,bb,be⟩ bo
def f64(fu_:Nat):Option (A5):= (f110 fu_ ([]) ([])).bind λK=> some K
theorem bf{fu_:Nat}{r:A5}(ac:f64 fu_=some r):AL J 50 [] E [] (λw E' B'=>∃(ag:Ao) (al:Nat) (am:Ao) (ap:Nat),w= .agg #[sV ag r.1 al,sV am r.2 ap]/\B'= []/\Al (rL rI) E' ag al r.1/\Al Ay E' am ap r.2):=by
 refine Bg func50 λQ a9 cs H aw a0=>?_;unfold f64 at ac;refine C 2 V (BM aw Js λr1 a1=>?_);obtain⟨K,a2,a3⟩:=bs ac;refine C 3 V (BU (Pp Al.nil Al.nil a2) V V Om a1 ?_);rintro _ bb _ a4 ⟨O,U,Y,Z,rfl,rfl,a5,a6⟩ a7;refine BF 1 a7 CQ λaq=>?_;refine JL.done ?_;obtain rfl:=oi a3;refine JL.ret (v:= .agg #[sV O K.1 U,sV Y K.2 Z]) V V (By.list func50 V (vs:= [.agg #[sV O K.1 U,sV Y K.2 Z]]) ⟨⟨_,V,Ld.many (vs:= [sV O K.1 U,sV Y K.2 Z]) ER CQ (G4 (off:=0) 1 aq V V)⟩,trivial⟩) (Em 1 aq V λa8=>?_);exact a0 a4 V ⟨O,U,Y,Z,V,V,a5,a6⟩ a8
def f65(fu_:Nat):Option (A5):= (f110 fu_ ([5,1]:List Int) ([])).bind λK=> some K
theorem bI{fu_:Nat}{r:A5}(ac:f65 fu_=some r):AL J 49 [] E [] (λw E' B'=>∃(ag:Ao) (al:Nat) (am:Ao) (ap:Nat),w= .agg #[sV ag r.1 al,sV am r.2 ap]/\B'= []/\Al (rL rI) E' ag al r.1/\Al Ay E' am ap r.2):=by
 refine Bg func49 λQ bv cs H aw a0=>?_;unfold f65 at ac;refine C 2 V (BM aw Js λr1 a1=>?_);refine C 3 V (FU (pp:=rI) [iV 5,iV 1] [5,1] V V V underlying22 Ax Ct (by decide) V V V ⟨V,V,trivial⟩ a1 λbw b0 a2 a3=>?_);refine B6 2 a2 a3 V λb1 a4 a5 a6=>?_;obtain⟨K,a7,a8⟩:=bs ac;refine BU (Pp a5 Al.nil a7) V V Om a6 ?_;rintro _ b2 _ a9 ⟨O,U,Y,Z,rfl,rfl,bb,be⟩ bi;refine BF 1 bi CQ λaq=>?_;refine JL.done ?_;obtain rfl:=oi a8;refine JL.ret (v:= .agg #[sV O K.1 U,sV Y K.2 Z]) V V (By.list func49 V (vs:= [.agg #[sV O K.1 U,sV Y K.2 Z]]) ⟨⟨_,V,Ld.many (vs:= [sV O K.1 U,sV Y K.2 Z]) ER CQ (G4 (off:=0) 1 aq V V)⟩,trivial⟩) (Em 1 aq V λbo=>?_);exact a0 (a4.Ad a9) V ⟨O,U,Y,Z,V,V,bb,be⟩ bo
def f66(fu_:Nat):Option (Aw):= (f67 fu_ ([0,1,1,0,2,3,0,3,2]:List Int)).bind λK=> some K
theorem cf{fu_:Nat}{r:Aw}(K:f66 fu_=some r):AL J 46 [] E [] (λw E' B'=>∃(O:Ao) (U:Nat),w= sV O r U/\B'= []/\Al Ay E' O U r):=by
 refine Bg func46 λQ a8 cs H Y Z=>?_;unfold f66 at K;refine C 6 V (FU (pp:=rI) [iV 0,iV 1,iV 1,iV 0,iV 2,iV 3,iV 0,iV 3,iV 2] [0,1,1,0,2,3,0,3,2] V V V underlying22 Ax Ct (by decide) V V V ⟨V,V,V,V,V,V,V,V,V,trivial⟩ Y λr1 g2 ac ag=>?_);refine B6 1 ac ag V λa9 al am ap=>?_;obtain⟨bb,aq,aw⟩:=bs K;refine BU (NN am aq) V V MC ap ?_;rintro _ be bi a0 ⟨a1,a2,_,rfl,rfl,a3⟩ a4;refine C 2 V (B6 2 a3 a4 V λbo a5 a6 a7=>?_);obtain rfl:=oi aw;exact AS func46 V V (Z ((al.Ad a0).Ad a5) V ⟨a1,a2,V,V,a6⟩ a7)
def Ns(fu_:Nat)(p0:List Int)(O:List Int)(K:Int):Option (Bm Int ((Bool)⊕(Unit))):= Option.bind (if K<(p0.length:Int) then(some (decide (K<(O.length:Int)))) else(some false)) λU=> if U=true then((ix p0 K).bind λY=> (ix O K).bind λZ=> if Y≠Z then(some (.done (Sum.inl false))) else((Av (K+1)).bind λac=> some (.more ac))) else(some (.done (Sum.inr ())))
def f29(fu_:Nat)(p0:List Int)(K:List Int):Option Bool:= Option.bind (iter (Ns fu_ p0 K) fu_ 0) λO=> Sum.elim (λr=>some r) (λU=> some (decide ((p0.length:Int)=(K.length:Int)))) O
theorem Lh{a1:Ao}{c2:Nat}{U:Ao}{Y:Nat}{p0:List Int}{K:List Int}(bb:Al rI E a1 c2 p0)(be:Al rI E U Y K){fu_:Nat}{r:Bool}(aw:f29 fu_ p0 K=some r):AL J 14 [sV a1 p0 c2,sV U K Y] E [] (λw E' B'=>w= .bool r/\B'= []):=by
 refine Bg func14 λQ cX cs H bi a0=>?_;unfold f29 at aw;obtain⟨a2,bo,a3⟩:=bs aw;refine C 9 V (Br (λL s=>∃(a4:Unit) (a5:LH),a2=Sum.inr a4/\Jm E H a5 [] [(0,sV a1 p0 c2),(1,sV U K Y)] L s) ?_ ?_)
 ·rintro _ _ ⟨a4,a5,rfl,rfl,rfl,bv,bw⟩;have b0:=elim_inr a3;refine C 3 V (JL.ln underlying22 V V V ?_);refine C 1 V (JL.ln underlying22 V V V ?_);refine C 3 V ?_;obtain rfl:=oi b0;exact AS func14 V V (a0 bv V ⟨V,V⟩ bw)
 ·intro b1;refine JL.block (DZ bo (λag=> []) (λag=> [(0,sV a1 p0 c2),(1,sV U K Y),(5,iV ag)]) AF bi ?_);rintro ag am Z a6 a7 ⟨cY,al⟩ b2;have a8:=al;unfold Ns at a8;refine C 5 V (JL.ln underlying22 V V V ?_);obtain⟨b3,b4,b5⟩:=bs a8;refine C 2 V (G6 [] (λL s=>∃(ap:LH),Jm am H ap [] [(0,sV a1 p0 c2),(1,sV U K Y),(5,iV ag),(15,.bool b3)] L s) ?_ ?_)
  ·rintro _ _ ⟨ap,rfl,rfl,ac,aq⟩;refine JL.done (Cn b5 (λb6 ca=>?_) (λb6 cc=>?_))
   ·refine C 4 V (EV 8 λO=>?_);refine Bc O V [0,1] V ?_;obtain⟨cZ,ce,ci⟩:=bs ca;refine Fe 2 (bb.Ah (Z.Ad ac)) ce O underlying22 Ax ?_;rintro c0 c1 _ rfl co;refine Er 3 O 0 co AR V V V V (Bc O V [4,5] V ?_);obtain⟨c3,cp,ct⟩:=bs ci;refine Fe 6 (be.Ah (Z.Ad ac)) cp O underlying22 Ax ?_;rintro c4 c5 _ rfl cw;refine Er 7 O 0 cw AR V V V V (Dc [8] ?_);refine C 2 V (AV ct (λcy cJ=>?_) (λcy cK=>?_))
    ·refine C 4 V ?_;obtain rfl:=oi cJ;obtain rfl:=a7 _ al;have cM:=elim_inl a3;obtain rfl:=oi cM;exact AS func14 V V (a0 (Z.Ad ac) V ⟨V,V⟩ aq)
    ·obtain⟨cO,cP,cQ⟩:=bs cK;refine C 4 V (Bo cP V V V ?_);refine C 2 V ?_;obtain rfl:=oi cQ;exact b2 cO (Z.Ad ac) aq V al
   ·refine JL.exit V ?_;obtain rfl:=oi cc;have cR:a2=(Sum.inr ()):=(a7 _ al).symm;exact AA (b1 _ _ ⟨(),ap,cR,V,V,(Z.Ad ac),aq⟩) V
  ·intro a9;refine Il 10 b4 (λcT cV=>?_) (λcT cW=>?_)
   ·refine C 2 V (JL.ln underlying22 V V V ?_);refine C 2 V ?_;obtain rfl:=oi cV;exact AA (a9 _ _ ⟨am,V,V,AF,a6⟩) V
   ·refine C 5 V ?_;obtain rfl:=oi cW;exact AA (a9 _ _ ⟨am,V,V,AF,a6⟩) V
def TK(fu_:Nat)(p0:Aw)(O:Aw)(K:Int):Option (Bm Int ((Bool)⊕(Unit))):= Option.bind (if K<(p0.length:Int) then(some (decide (K<(O.length:Int)))) else(some false)) λU=> if U=true then((ix p0 K).bind λY=> (ix O K).bind λZ=> if Y≠Z then(some (.done (Sum.inl false))) else((Av (K+1)).bind λac=> some (.more ac))) else(some (.done (Sum.inr ())))
def f26(fu_:Nat)(p0:Aw)(K:Aw):Option Bool:= Option.bind (iter (TK fu_ p0 K) fu_ 0) λO=> Sum.elim (λr=>some r) (λU=> some (decide ((p0.length:Int)=(K.length:Int)))) O
theorem T6{a1:Ao}{c2:Nat}{U:Ao}{Y:Nat}{p0:Aw}{K:Aw}(bi:Al Ay E a1 c2 p0)(bo:Al Ay E U Y K){fu_:Nat}{r:Bool}(a2:f26 fu_ p0 K=some r):AL J 34 [sV a1 p0 c2,sV U K Y] E [] (λw E' B'=>w= .bool r/\B'= []):=by
 refine Bg func34 λQ cZ cs H bv a3=>?_;unfold f26 at a2;obtain⟨a4,bw,a5⟩:=bs a2;refine C 9 V (Br (λL s=>∃(a6:Unit) (a7:LH),a4=Sum.inr a6/\Jm E H a7 [] [(0,sV a1 p0 c2),(1,sV U K Y)] L s) ?_ ?_)
 ·rintro _ _ ⟨a6,a7,rfl,rfl,rfl,b0,b1⟩;have b2:=elim_inr a5;refine C 3 V (JL.ln underlying26 V V V ?_);refine C 1 V (JL.ln underlying26 V V V ?_);refine C 3 V ?_;obtain rfl:=oi b2;exact AS func34 V V (a3 b0 V ⟨V,V⟩ b1)
 ·intro b3;refine JL.block (DZ bw (λap=> []) (λap=> [(0,sV a1 p0 c2),(1,sV U K Y),(5,iV ap)]) AF bv ?_);rintro ap aw Z a8 a9 ⟨c0,aq⟩ b4;have bb:=aq;unfold TK at bb;refine C 5 V (JL.ln underlying26 V V V ?_);obtain⟨b5,b6,ca⟩:=bs bb;refine C 2 V (G6 [] (λL s=>∃(ac:LH),Jm aw H ac [] [(0,sV a1 p0 c2),(1,sV U K Y),(5,iV ap),(15,.bool b5)] L s) ?_ ?_)
  ·rintro _ _ ⟨ac,rfl,rfl,ag,a0⟩;refine JL.done (Cn ca (λcc ce=>?_) (λcc ci=>?_))
   ·refine C 4 V (EV 8 λO=>?_);refine Bc O V [0,1] V ?_;obtain⟨al,co,cp⟩:=bs ce;refine Fe 2 (bi.Ah (Z.Ad ag)) co O underlying26 A9 ?_;rintro c1 c3 _ ⟨_,_,rfl,rfl,⟨_,_,rfl,rfl,rfl⟩⟩ ct;refine I9 3 O ct Da A9 V V V (Bc O V [4,5] V ?_);obtain⟨am,cw,cy⟩:=bs cp;refine Fe 6 (bo.Ah (Z.Ad ag)) cw O underlying26 A9 ?_;rintro c4 c5 _ ⟨_,_,rfl,rfl,⟨_,_,rfl,rfl,rfl⟩⟩ cJ;refine I9 7 O cJ Da A9 V V V (Dc [8] ?_);refine Am (v:= .bool (decide (al≠am))) V (λρ h=>Pd (E:=ac) (E':=ac) (ws:= [iV al.1,iV al.2.1,iV al.2.2]) (ws':= [iV am.1,iV am.2.1,iV am.2.2]) (a:=al) (b:=am) bK (by decide) (by decide+kernel) ⟨_,_,V,V,⟨_,_,V,V,V⟩⟩ ⟨_,_,V,V,⟨_,_,V,V,V⟩⟩ (h _ _ V) (h _ _ V)) (JL.done ?_);refine AV cy (λcK cM=>?_) (λcK cO=>?_)
    ·refine C 4 V ?_;obtain rfl:=oi cM;obtain rfl:=a9 _ aq;have cP:=elim_inl a5;obtain rfl:=oi cP;exact AS func34 V V (a3 (Z.Ad ag) V ⟨V,V⟩ a0)
    ·obtain⟨cQ,cR,cT⟩:=bs cO;refine C 4 V (Bo cR V V V ?_);refine C 2 V ?_;obtain rfl:=oi cT;exact b4 cQ (Z.Ad ag) a0 V aq
   ·refine JL.exit V ?_;obtain rfl:=oi ci;have cV:a4=(Sum.inr ()):=(a9 _ aq).symm;exact AA (b3 _ _ ⟨(),ac,cV,V,V,(Z.Ad ag),a0⟩) V
  ·intro be;refine Il 10 b6 (λcW cX=>?_) (λcW cY=>?_)
   ·refine C 2 V (JL.ln underlying26 V V V ?_);refine C 2 V ?_;obtain rfl:=oi cX;exact AA (be _ _ ⟨aw,V,V,AF,a8⟩) V
   ·refine C 5 V ?_;obtain rfl:=oi cY;exact AA (be _ _ ⟨aw,V,V,AF,a8⟩) V
def f18(fu_:Nat):Option Bool:= (f63 fu_).bind λag=> (f43 fu_ ag).bind λO=> (f63 fu_).bind λal=> (f33 fu_ al).bind λU=> (f63 fu_).bind λam=> (f22 fu_ am).bind λY=> (f63 fu_).bind λap=> (f24 fu_ ap).bind λZ=> (f64 fu_).bind λaq=> (f39 fu_ aq).bind λac=> (f65 fu_).bind λaw=> (f27 fu_ aw).bind λK=> Option.bind (if O.2=0 then(some (decide (U.2=0))) else(some false)) λa0=> Option.bind (if a0=true then(some (decide (Y.2=0))) else(some false)) λa1=> Option.bind (if a1=true then(some (decide (Z.2=0))) else(some false)) λa2=> Option.bind (if a2=true then(some (decide (ac.2=0))) else(some false)) λa3=> Option.bind (if a3=true then(some (decide (K.2.2=0))) else(some false)) λa4=> Option.bind (if a4=true then(some (decide (Z.1=16))) else(some false)) λa5=> Option.bind (if a5=true then((f29 fu_ O.1 ([(-6),1,3,2]:List Int)).bind λa6=> some a6) else(some false)) λa7=> Option.bind (if a7=true then((f29 fu_ U.1 ([1,2,3]:List Int)).bind λa8=> some a8) else(some false)) λa9=> Option.bind (if a9=true then((f66 fu_).bind λbb=> (f26 fu_ Y.1 bb).bind λbe=> some be) else(some false)) λbi=> Option.bind (if bi=true then((f29 fu_ ac.1 ([0]:List Int)).bind λbo=> some bo) else(some false)) λbv=> Option.bind (if bv=true then((f67 fu_ ([0,2,6,2,3,3,3,1,1]:List Int)).bind λbw=> (f26 fu_ K.1 bw).bind λb0=> some b0) else(some false)) λb1=> Option.bind (if b1=true then((f29 fu_ K.2.1 ([0,1,2]:List Int)).bind λb2=> some b2) else(some false)) λb3=> some b3
theorem bu{E:LH}{fu_:Nat}{r:Bool}(cc:f18 fu_=some r):AL (GK Tryz.prog) 21 [] E [] (λw E' B'=>w= .bool r/\B'= []):=by
 refine Bg func21 λQ g1 cs H df dg=>?_;unfold f18 at cc;obtain⟨g3,dh,di⟩:=bs cc;refine C 6 V (BU (NU dh) V V MD df ?_);rintro _ g4 _ dj ⟨g5,g6,g7,g8,rfl,rfl,dk,dn⟩ dp;obtain⟨a9,dq,dr⟩:=bs di;refine BU (Uc dk dn dq) V V (A0 func12 V) dp ?_;rintro _ g9 _ dt ⟨bb,be,rfl,rfl,du⟩ dv;obtain⟨ha,dw,dx⟩:=bs dr;refine C 8 V (BU (NU dw) V V MD dv ?_);rintro _ hb _ ce ⟨hc,hd,he,hf,rfl,rfl,dy,dz⟩ dA;refine BB (S':= [[],[],[],[]]) V dA λdB=>?_;obtain⟨aw,dC,dD⟩:=bs dx;refine BU (b7 dy dz dC) V V (A0 func45 V) dB ?_;rintro _ hg _ ci ⟨a0,a1,rfl,rfl,dE⟩ dF;obtain⟨hj,dG,dH⟩:=bs dD;refine C 8 V (BU (NU dG) V V MD dF ?_);rintro _ hk _ b5 ⟨hl,hm,hn,ho,rfl,rfl,dI,dJ⟩ dK;obtain⟨ag,dL,dM⟩:=bs dH;refine BU (bl dI dJ dL) V V (A0 func36 V) dK ?_;rintro _ hp _ b6 ⟨ap,aq,rfl,rfl,dN⟩ dO;refine BB (S':= [[],[],[],[],[],[],[]]) V dO λdP=>?_;obtain⟨hq,dQ,dR⟩:=bs dM;refine C 8 V (BU (NU dQ) V V MD dP ?_);rintro _ hr _ b0 ⟨hs,ht,hu,hv,rfl,rfl,dS,dT⟩ dU;obtain⟨a2,dV,dW⟩:=bs dR;refine Cj (bh dS dT dV) V V (A0 func38 V) dU λhw b1 dX=>?_;obtain⟨hx,dY,dZ⟩:=bs dW;refine C 8 V (BU (bf dY) V V (A0 func50 V) dX ?_);rintro _ hy _ b2 ⟨hz,hA,hB,hC,rfl,rfl,ea,eb⟩ ec;refine BB (S':= [[],[],[],[],[],[],[],[],[],[]]) V ec λed=>?_;obtain⟨O,ee,ef⟩:=bs dZ;refine BU (cb ea eb ee) V V (A0 func22 V) ed ?_;rintro _ hD _ b3 ⟨al,am,rfl,rfl,eg⟩ eh;obtain⟨hE,ei,ej⟩:=bs ef;refine C 8 V (BU (bI ei) V V (A0 func49 V) eh ?_);rintro _ hF _ bo ⟨hG,hH,hI,hJ,rfl,rfl,ek,el⟩ em;obtain⟨K,en,eo⟩:=bs ej;refine BU (bM ek el en) V V (A0 func24 V) em ?_;rintro _ hK _ bv ⟨Z,ac,U,Y,rfl,rfl,ep,er⟩ et;refine BB (S':= [[],[],[],[],[],[],[],[],[],[],[],[],[]]) V et λco=>?_;obtain⟨eu,ew,ex⟩:=bs eo;refine C 13 V (EB 6 52 [] [(1,sV bb a9.1 be),(3,sV a0 aw.1 a1),(5,sV ap ag.1 aq),(6,iV ag.2),(7,iV a2.1),(8,iV a2.2),(9,sV al O.1 am),(10,iV O.2),(11,sV Z K.1 ac),(12,sV U K.2.1 Y),(13,iV K.2.2),(50,.bool eu)] (λhL a3 cp=>?_) (λct=>?_))
 ·obtain⟨ey,ez,eA⟩:=bs ex;refine C 1 V (EB 10 48 [] [(1,sV bb a9.1 be),(3,sV a0 aw.1 a1),(5,sV ap ag.1 aq),(7,iV a2.1),(8,iV a2.2),(9,sV al O.1 am),(10,iV O.2),(11,sV Z K.1 ac),(12,sV U K.2.1 Y),(13,iV K.2.2),(54,.bool ey)] (λhM a4 cw=>?_) (λcy=>?_))
  ·obtain⟨eB,eC,eE⟩:=bs eA;refine C 1 V (EB 14 44 [] [(1,sV bb a9.1 be),(3,sV a0 aw.1 a1),(5,sV ap ag.1 aq),(7,iV a2.1),(9,sV al O.1 am),(10,iV O.2),(11,sV Z K.1 ac),(12,sV U K.2.1 Y),(13,iV K.2.2),(58,.bool eB)] (λhN a5 cJ=>?_) (λcK=>?_))
   ·obtain⟨eF,eG,eH⟩:=bs eE;refine C 1 V (EB 18 40 [] [(1,sV bb a9.1 be),(3,sV a0 aw.1 a1),(5,sV ap ag.1 aq),(7,iV a2.1),(9,sV al O.1 am),(11,sV Z K.1 ac),(12,sV U K.2.1 Y),(13,iV K.2.2),(62,.bool eF)] (λhO a6 cM=>?_) (λcO=>?_))
    ·obtain⟨eI,eJ,eK⟩:=bs eH;refine C 1 V (EB 22 36 [] [(1,sV bb a9.1 be),(3,sV a0 aw.1 a1),(5,sV ap ag.1 aq),(7,iV a2.1),(9,sV al O.1 am),(11,sV Z K.1 ac),(12,sV U K.2.1 Y),(66,.bool eI)] (λhP a7 cP=>?_) (λcQ=>?_))
     ·obtain⟨eL,eM,eN⟩:=bs eK;refine C 1 V (EB 26 32 [] [(1,sV bb a9.1 be),(3,sV a0 aw.1 a1),(5,sV ap ag.1 aq),(9,sV al O.1 am),(11,sV Z K.1 ac),(12,sV U K.2.1 Y),(70,.bool eL)] (λhQ a8 cR=>?_) (λcT=>?_))
      ·obtain⟨eO,eP,eQ⟩:=bs eN;refine C 1 V (EB 31 27 [] [(3,sV a0 aw.1 a1),(5,sV ap ag.1 aq),(9,sV al O.1 am),(11,sV Z K.1 ac),(12,sV U K.2.1 Y),(75,.bool eO)] (λhR bi cV=>?_) (λcW=>?_))
       ·obtain⟨eR,eS,eT⟩:=bs eQ;refine C 1 V (EB 36 22 [] [(5,sV ap ag.1 aq),(9,sV al O.1 am),(11,sV Z K.1 ac),(12,sV U K.2.1 Y),(80,.bool eR)] (λhS bw cX=>?_) (λcY=>?_))
        ·obtain⟨eU,eV,eW⟩:=bs eT;refine C 1 V (EB 41 17 [] [(9,sV al O.1 am),(11,sV Z K.1 ac),(12,sV U K.2.1 Y),(85,.bool eU)] (λhT b4 cZ=>?_) (λc0=>?_))
         ·obtain⟨eX,eY,eZ⟩:=bs eW;refine C 1 V (EB 46 12 [] [(11,sV Z K.1 ac),(12,sV U K.2.1 Y),(90,.bool eX)] (λhU ca c1=>?_) (λc2=>?_))
          ·obtain⟨e0,e1,e3⟩:=bs eZ;refine C 1 V (EB 52 6 [] [(12,sV U K.2.1 Y),(96,.bool e0)] (λhV c3 c4=>?_) (λc5=>?_))
           ·obtain⟨e4,e5,e6⟩:=bs e3;refine C 1 V (EB 57 1 [] [(101,.bool e4)] (λhW e7 e8=>?_) (λc6=>?_))
            ·refine C 2 V ?_;obtain rfl:=oi e6;exact AS func21 V V (dg (((((((((((((((((((((((dj.Ad dt).Ad ce).Ad ci).Ad b5).Ad b6).Ad b0).Ad b1).Ad b2).Ad b3).Ad bo).Ad bv).Ad a3).Ad a4).Ad a5).Ad a6).Ad a7).Ad a8).Ad bi).Ad bw).Ad b4).Ad ca).Ad c3).Ad e7) V ⟨V,V⟩ e8)
            ·refine DX 97 e5 (λe9 fa=>?_) (λe9 fb=>?_)
             ·refine C 1 V (FU (pp:=rI) [iV 0,iV 1,iV 2] [0,1,2] V V V underlying22 Ax Ct (by decide) V V V ⟨V,V,V,trivial⟩ c4 λhX hY fc fe=>?_);refine B6 0 fc fe V λhZ c7 ff fg=>?_;obtain⟨h0,fh,fj⟩:=bs fa;refine Cj (Lh (er.Ah (((((((((((a3.Ad a4).Ad a5).Ad a6).Ad a7).Ad a8).Ad bi).Ad bw).Ad b4).Ad ca).Ad c3).Ad c7)) ff fh) V V KL fg λh1 fk fl=>BB (S':= [[],[]]) V fl λfm=>C 1 V ?_;obtain rfl:=oi fj;exact c6 (c7.Ad fk) fm V
             ·refine C 4 V ?_;obtain rfl:=oi fb;exact c6 AF c4 V
           ·refine DX 91 e1 (λfo fp=>?_) (λfo fq=>?_)
            ·refine C 1 V (FU (pp:=rI) [iV 0,iV 2,iV 6,iV 2,iV 3,iV 3,iV 3,iV 1,iV 1] [0,2,6,2,3,3,3,1,1] V V V underlying22 Ax Ct (by decide) V V V ⟨V,V,V,V,V,V,V,V,V,trivial⟩ c1 λh2 h3 fs fu=>?_);refine B6 0 fs fu V λh4 c8 fv fw=>?_;obtain⟨h5,fx,fy⟩:=bs fp;refine BU (NN fv fx) V V MC fw ?_;rintro _ h6 fz c9 ⟨h7,h8,_,rfl,rfl,fA⟩ fB;refine BB (S':= [[],fz]) V fB λfC=>B6 1 fA fC V λh9 da fD fE=>?_;obtain⟨ia,fF,fG⟩:=bs fy;refine Cj (T6 (ep.Ah ((((((((((((a3.Ad a4).Ad a5).Ad a6).Ad a7).Ad a8).Ad bi).Ad bw).Ad b4).Ad ca).Ad c8).Ad c9).Ad da)) fD fF) V V (A0 func34 V) fE λic fH fI=>C 1 V ?_;obtain rfl:=oi fG;exact c5 (((c8.Ad c9).Ad da).Ad fH) fI V
            ·refine C 5 V ?_;obtain rfl:=oi fq;exact c5 AF c1 V
          ·refine DX 86 eY (λfJ fK=>?_) (λfJ fL=>?_)
           ·refine C 1 V (FU (pp:=rI) [iV 0] [0] V V V underlying22 Ax Ct (by decide) V V V ⟨V,trivial⟩ cZ λie ig fM fN=>?_);refine B6 0 fM fN V λih db fO fP=>?_;obtain⟨ii,fQ,fR⟩:=bs fK;refine Cj (Lh (eg.Ah (((((((((((bo.Ad bv).Ad a3).Ad a4).Ad a5).Ad a6).Ad a7).Ad a8).Ad bi).Ad bw).Ad b4).Ad db)) fO fQ) V V KL fP λij fS fT=>BB (S':= [[],[]]) V fT λfU=>C 1 V ?_;obtain rfl:=oi fR;exact c2 (db.Ad fS) fU V
           ·refine C 4 V ?_;obtain rfl:=oi fL;exact c2 AF cZ V
         ·refine DX 81 eV (λfW fX=>?_) (λfW fY=>?_)
          ·obtain⟨ik,fZ,ga⟩:=bs fX;refine C 1 V (BU (cf fZ) V V (A0 func46 V) cX ?_);rintro _ il _ dc ⟨io,iq,rfl,rfl,gb⟩ gc;obtain⟨ir,ge,gf⟩:=bs ga;refine Cj (T6 (dN.Ah ((((((((((((((b0.Ad b1).Ad b2).Ad b3).Ad bo).Ad bv).Ad a3).Ad a4).Ad a5).Ad a6).Ad a7).Ad a8).Ad bi).Ad bw).Ad dc)) gb ge) V V (A0 func34 V) gc λiu gg gh=>C 1 V ?_;obtain rfl:=oi gf;exact c0 (dc.Ad gg) gh V
          ·refine C 4 V ?_;obtain rfl:=oi fY;exact c0 AF cX V
        ·refine DX 76 eS (λgi gj=>?_) (λgi gk=>?_)
         ·refine C 1 V (FU (pp:=rI) [iV 1,iV 2,iV 3] [1,2,3] V V V underlying22 Ax Ct (by decide) V V V ⟨V,V,V,trivial⟩ cV λiv iw gl gm=>?_);refine B6 0 gl gm V λiy dd gn gp=>?_;obtain⟨iz,gq,gr⟩:=bs gj;refine Cj (Lh (dE.Ah (((((((((((((((b5.Ad b6).Ad b0).Ad b1).Ad b2).Ad b3).Ad bo).Ad bv).Ad a3).Ad a4).Ad a5).Ad a6).Ad a7).Ad a8).Ad bi).Ad dd)) gn gq) V V KL gp λiA gt gu=>BB (S':= [[],[]]) V gu λgv=>C 1 V ?_;obtain rfl:=oi gr;exact cY (dd.Ad gt) gv V
         ·refine C 4 V ?_;obtain rfl:=oi gk;exact cY AF cV V
       ·refine DX 71 eP (λgw gx=>?_) (λgw gy=>?_)
        ·refine C 1 V (FU (pp:=rI) [iV (-6),iV 1,iV 3,iV 2] [(-6),1,3,2] V V V underlying22 Ax Ct (by decide) V V V ⟨V,V,V,V,trivial⟩ cR λiB iC gz gA=>?_);refine B6 0 gz gA V λiD de gB gC=>?_;obtain⟨iE,gD,gE⟩:=bs gx;refine Cj (Lh (du.Ah ((((((((((((((((ce.Ad ci).Ad b5).Ad b6).Ad b0).Ad b1).Ad b2).Ad b3).Ad bo).Ad bv).Ad a3).Ad a4).Ad a5).Ad a6).Ad a7).Ad a8).Ad de)) gB gD) V V KL gC λiF gF gG=>BB (S':= [[],[]]) V gG λgH=>C 1 V ?_;obtain rfl:=oi gE;exact cW (de.Ad gF) gH V
        ·refine C 4 V ?_;obtain rfl:=oi gy;exact cW AF cR V
      ·refine DX 67 eM (λgI gJ=>?_) (λgI gK=>?_)
       ·refine C 3 V ?_;obtain rfl:=oi gJ;exact cT AF cP V
       ·refine C 3 V ?_;obtain rfl:=oi gK;exact cT AF cP V
     ·refine DX 63 eJ (λgL gM=>?_) (λgL gO=>?_)
      ·refine C 3 V ?_;obtain rfl:=oi gM;exact cQ AF cM V
      ·refine C 3 V ?_;obtain rfl:=oi gO;exact cQ AF cM V
    ·refine DX 59 eG (λgP gQ=>?_) (λgP gR=>?_)
     ·refine C 3 V ?_;obtain rfl:=oi gQ;exact cO AF cJ V
     ·refine C 3 V ?_;obtain rfl:=oi gR;exact cO AF cJ V
   ·refine DX 55 eC (λgS gT=>?_) (λgS gU=>?_)
    ·refine C 3 V ?_;obtain rfl:=oi gT;exact cK AF cw V
    ·refine C 3 V ?_;obtain rfl:=oi gU;exact cK AF cw V
  ·refine DX 51 ez (λgV gW=>?_) (λgV gX=>?_)
   ·refine C 3 V ?_;obtain rfl:=oi gW;exact cy AF cp V
   ·refine C 3 V ?_;obtain rfl:=oi gX;exact cy AF cp V
 ·refine Il 47 ew (λgY gZ=>?_) (λgY g0=>?_)
  ·refine C 3 V ?_;obtain rfl:=oi gZ;exact ct AF co V
  ·refine C 3 V ?_;obtain rfl:=oi g0;exact ct AF co V
def f20(fu_:Nat)(p0:List Int):Option ((B2)):= some (p0,0,2685821657736338717)
theorem bF{a1:Ao}{c2:Nat}{p0:List Int}(Z:Al rI E a1 c2 p0){fu_:Nat}{r:(B2)}(K:f20 fu_ p0=some r):AL J 10 [sV a1 p0 c2] E [] (λw E' B'=>∃(O:Nat) (U:Ao) (Y:Nat),w= Ak O 0/\B'= [(O,.cells #[sV U r.1 Y,iV r.2.1,.int .u64 ((r.2.2:Nat):Int)] 74 (0,0))]/\Al rI E' U Y r.1):=by
 refine Bg func10 λQ ap cs H ac ag=>?_;unfold f20 at K;refine C 7 V (Am (v:= .agg #[sV a1 p0 c2,iV 0,.int .u64 ((2685821657736338717:Nat):Int)]) V (λρ h=>CI [(0,1),(1,1),(2,1)] h (Db type74) underlying74 ⟨V,AN type22,V,AN type3,V,AN type72,trivial⟩ V V) ?_);refine JS.box (v:= .agg #[sV a1 p0 c2,iV 0,.int .u64 ((2685821657736338717:Nat):Int)]) V V V ac V λal am=>C 2 V ?_;obtain rfl:=oi K;exact AS func10 V V (ag AF V ⟨al,a1,c2,V,(by first | rfl | simp | (simp [Value.cells])),Z⟩ am)
def f92(fu_:Nat)(p0:Int)(K:Int)(p2:Int):Option Bool:= Option.bind (if K<=p0 then(some (decide (p0<=p2))) else(some false)) λO=> some O
def f88(fu_:Nat)(p0:Int)(K:Int×Int×Int)(p2:Int):Option Int:= (Av (p0 - 1)).bind λO=> (f92 fu_ K.1 0 O).bind λU=> Option.bind (if(!U)=true then(some true) else((Av (p0 - 1)).bind λY=> (f92 fu_ K.2.1 0 Y).bind λZ=> some (!Z))) λac=> if ac=true then(some 3) else(if K.1=K.2.1 then(some 8) else((f92 fu_ K.2.2 1 p2).bind λag=> if(!ag)=true then(some 1) else(some 0)))
def L3(fu_:Nat)(p0:A5)(O:Int)(K:Int):Option (Bm Int ((Int)⊕(Unit))):= (ix p0.1 O).bind λU=> if K<(U.length:Int) then((ix p0.1 O).bind λY=> (ix Y K).bind λZ=> (f92 fu_ Z 1 9).bind λac=> if(!ac)=true then(some (.done (Sum.inl 1))) else((Av (K+1)).bind λag=> some (.more ag))) else(some (.done (Sum.inr ())))
def L2(fu_:Nat)(p0:A5)(K:Int):Option (Bm Int ((Int)⊕(Unit))):= if K<(p0.1.length:Int) then((ix p0.1 K).bind λO=> if 3<(O.length:Int) then(some (.done (Sum.inl 6))) else(Option.bind (iter (L3 fu_ p0 K) fu_ 0) λU=> Sum.elim (λr=>some (.done (Sum.inl r))) (λZ=> (Av (K+1)).bind λY=> some (.more Y)) U)) else(some (.done (Sum.inr ())))
def PH(fu_:Nat)(p0:A5)(K:Int):Option (Bm Int ((Int)⊕(Unit))):= if K<(p0.2.length:Int) then((ix p0.2 K).bind λU=> (f88 fu_ (p0.1.length:Int) U 9).bind λO=> if O≠0 then(some (.done (Sum.inl O))) else((Av (K+1)).bind λY=> some (.more Y))) else(some (.done (Sum.inr ())))
def f48(fu_:Nat)(p0:A5):Option Int:= if(p0.1.length:Int)<2 then(some 7) else(if 5<(p0.1.length:Int) then(some 6) else(Option.bind (iter (L2 fu_ p0) fu_ 0) λK=> Sum.elim (λr=>some r) (λU=> if 8<(p0.2.length:Int) then(some 6) else(Option.bind (iter (PH fu_ p0) fu_ 0) λO=> Sum.elim (λr=>some r) (λY=> some 0) O)) K))
def f83(fu_:Nat)(p0:B2):Option (Nat×(B2)):= (Av (p0.2.1+1)).bind λO=> Option.bind (if O<=(p0.1.length:Int) then((Av (O - 1)).bind λU=> (ix p0.1 U).bind λY=> some (((((CZ O)*11400714819323198485) % 2 ^ 64) ^^^ (((CZ Y)*14029467366897019727) % 2 ^ 64)) % 2 ^ 64)) else(some (((CZ O)*11400714819323198485) % 2 ^ 64))) λK=> some (((((((((((p0.2.2 ^^^ K) % 2 ^ 64)*18397679294719823053) % 2 ^ 64) ^^^ (((((p0.2.2 ^^^ K) % 2 ^ 64)*18397679294719823053) % 2 ^ 64)>>>33)) % 2 ^ 64)*14181476777654086739) % 2 ^ 64) ^^^ (((((((((p0.2.2 ^^^ K) % 2 ^ 64)*18397679294719823053) % 2 ^ 64) ^^^ (((((p0.2.2 ^^^ K) % 2 ^ 64)*18397679294719823053) % 2 ^ 64)>>>33)) % 2 ^ 64)*14181476777654086739) % 2 ^ 64)>>>29)) % 2 ^ 64)>>>11,(p0.1,O,(((((p0.2.2 ^^^ K) % 2 ^ 64)*18397679294719823053) % 2 ^ 64) ^^^ (((((p0.2.2 ^^^ K) % 2 ^ 64)*18397679294719823053) % 2 ^ 64)>>>33)) % 2 ^ 64))
theorem br{bk:Nat}{a1:Ao}{c2:Nat}{p0:B2}(al:Al rI E a1 c2 p0.1){fu_:Nat}{r:Nat×(B2)}(am:f83 fu_ p0=some r):AL J 66 [Ak bk 0] E [(bk,.cells #[sV a1 p0.1 c2,iV p0.2.1,.int .u64 ((p0.2.2:Nat):Int)] 74 (0,0))] (λw E' B'=>∃(ap:Ao) (aq:Nat),w= .int .u64 ((r.1:Nat):Int)/\B'= [(bk,.cells #[sV ap r.2.1 aq,iV r.2.2.1,.int .u64 ((r.2.2.2:Nat):Int)] 74 (0,0))]/\Al rI E' ap aq r.2.1):=by
 refine Bg func66 λQ b2 cs H aw a5=>?_;unfold f83 at am;refine C 8 V (JL.fd underlying74 Ax V V V ?_);refine Am (v:=iV p0.2.1) V (λρ h=>Yl.load AR (h _ _ V) (BR (j:=0) (off:=1) aw V V)) ?_;obtain⟨Y,a6,a7⟩:=bs am;refine Bo a6 V V V (C 1 V ?_);refine JL.fd underlying74 Ax V V V (BF 0 aw Ax λU=>?_);refine C 5 V (JL.fd underlying74 Ax V V V ?_);refine Am (v:=iV Y) V (λρ h=>Yl.load AR (h _ _ V) (BR (j:=0) (off:=1) U V V)) (Am (v:= .int .u64 ((CZ Y:Nat):Int)) V (λρ h=>Yl.CZ underlying3 underlying72 (h _ _ V)) ?_);refine Am (v:= .int .u64 ((((CZ Y)*11400714819323198485) % 2 ^ 64:Nat):Int)) V (λρ h=>No (h _ _ V) (h _ _ V)) (C 4 V ?_);refine Ff 9 [bk] ⟨⟨0,_,V⟩,trivial⟩ U λK=>Bc K V [0,1] V (JG.fd 2 K underlying74 Ax V V V V ?_);refine Ko 3 K 1 0 U AR ?_;refine Bc K V [4,5] V (JG.fd 6 K underlying74 GG V V V V ?_);refine Ko 7 K 0 0 U J8 ?_;refine AP 8 K V V (λρ h s' Z=>Yl.len V underlying22 (h _ _ V)) (Dc [9] ?_);obtain⟨O,a8,a9⟩:=bs a7;refine C 2 V (EM [bX bk #[sV a1 p0.1 c2,iV Y,.int .u64 ((p0.2.2:Nat):Int)] 74] [(0,Ak bk 0),(3,.int .u64 ((O:Nat):Int))] (λb3 a0 a2=>?_) (λa3=>?_))
 ·refine C 5 V (JL.fd underlying74 Jv V V V ?_);refine Am (v:= .int .u64 ((p0.2.2:Nat):Int)) V (λρ h=>Yl.load Mz (h _ _ V) (BR (j:=0) (off:=2) a2 V V)) (C 1 V ?_);refine Am (v:= .int .u64 (((p0.2.2 ^^^ O) % 2 ^ 64:Nat):Int)) V (λρ h=>M7 (h _ _ V) (h _ _ V)) (Am (v:= .int .u64 (((((p0.2.2 ^^^ O) % 2 ^ 64)*18397679294719823053) % 2 ^ 64:Nat):Int)) V (λρ h=>No (h _ _ V) (h _ _ V)) ?_);refine C 1 V (JL.fd underlying74 Jv V V V ?_);refine BF 0 a2 Jv λac=>?_;refine C 2 V (Ff 11 [bk] ⟨⟨0,_,V⟩,trivial⟩ ac λK=>?_);refine Bc K V [0,1,2] V (JG.fd 3 K underlying74 Jv V V V V ?_);refine Ko 4 K 2 0 ac Mz ?_;refine Bc K V [5,6] V (JG.fd 7 K underlying74 Jv V V V V ?_);refine Ko 8 K 2 0 ac Mz ?_;refine AP (v:= .int .u64 ((((((p0.2.2 ^^^ O) % 2 ^ 64)*18397679294719823053) % 2 ^ 64)>>>33:Nat):Int)) 9 K V V (λρ h s' Z=>K2 33 (h _ _ V) (h _ _ V) (by decide)) (AP (v:= .int .u64 (((((((p0.2.2 ^^^ O) % 2 ^ 64)*18397679294719823053) % 2 ^ 64) ^^^ (((((p0.2.2 ^^^ O) % 2 ^ 64)*18397679294719823053) % 2 ^ 64)>>>33)) % 2 ^ 64:Nat):Int)) 10 K V V (λρ h s' Z=>M7 (h _ _ V) (h _ _ V)) ?_);refine Dc [11,12,13] (C 1 V ?_);refine JL.fd underlying74 Jv V V V (BF 0 ac Jv λa4=>?_);refine C 5 V (JL.fd underlying74 Jv V V V ?_);refine Am (v:= .int .u64 (((((((p0.2.2 ^^^ O) % 2 ^ 64)*18397679294719823053) % 2 ^ 64) ^^^ (((((p0.2.2 ^^^ O) % 2 ^ 64)*18397679294719823053) % 2 ^ 64)>>>33)) % 2 ^ 64:Nat):Int)) V (λρ h=>Yl.load Mz (h _ _ V) (BR (j:=0) (off:=2) a4 V V)) (Am (v:= .int .u64 (((((((((p0.2.2 ^^^ O) % 2 ^ 64)*18397679294719823053) % 2 ^ 64) ^^^ (((((p0.2.2 ^^^ O) % 2 ^ 64)*18397679294719823053) % 2 ^ 64)>>>33)) % 2 ^ 64)*14181476777654086739) % 2 ^ 64:Nat):Int)) V (λρ h=>No (h _ _ V) (h _ _ V)) ?_);refine C 6 V (Am (v:= .int .u64 ((((((((((p0.2.2 ^^^ O) % 2 ^ 64)*18397679294719823053) % 2 ^ 64) ^^^ (((((p0.2.2 ^^^ O) % 2 ^ 64)*18397679294719823053) % 2 ^ 64)>>>33)) % 2 ^ 64)*14181476777654086739) % 2 ^ 64)>>>29:Nat):Int)) V (λρ h=>K2 29 (h _ _ V) (h _ _ V) (by decide)) ?_);refine Am (v:= .int .u64 (((((((((((p0.2.2 ^^^ O) % 2 ^ 64)*18397679294719823053) % 2 ^ 64) ^^^ (((((p0.2.2 ^^^ O) % 2 ^ 64)*18397679294719823053) % 2 ^ 64)>>>33)) % 2 ^ 64)*14181476777654086739) % 2 ^ 64) ^^^ (((((((((p0.2.2 ^^^ O) % 2 ^ 64)*18397679294719823053) % 2 ^ 64) ^^^ (((((p0.2.2 ^^^ O) % 2 ^ 64)*18397679294719823053) % 2 ^ 64)>>>33)) % 2 ^ 64)*14181476777654086739) % 2 ^ 64)>>>29)) % 2 ^ 64:Nat):Int)) V (λρ h=>M7 (h _ _ V) (h _ _ V)) (Am (v:= .int .u64 ((((((((((((p0.2.2 ^^^ O) % 2 ^ 64)*18397679294719823053) % 2 ^ 64) ^^^ (((((p0.2.2 ^^^ O) % 2 ^ 64)*18397679294719823053) % 2 ^ 64)>>>33)) % 2 ^ 64)*14181476777654086739) % 2 ^ 64) ^^^ (((((((((p0.2.2 ^^^ O) % 2 ^ 64)*18397679294719823053) % 2 ^ 64) ^^^ (((((p0.2.2 ^^^ O) % 2 ^ 64)*18397679294719823053) % 2 ^ 64)>>>33)) % 2 ^ 64)*14181476777654086739) % 2 ^ 64)>>>29)) % 2 ^ 64)>>>11:Nat):Int)) V (λρ h=>K2 11 (h _ _ V) (h _ _ V) (by decide)) ?_);refine C 2 V ?_;obtain rfl:=oi a9;exact AS func66 V V (a5 a0 V ⟨a1,c2,V,V,(al.Ah a0)⟩ a4)
 ·refine AV a8 (λbb be=>?_) (λbb bi=>?_)
  ·refine Ff 14 [bk] ⟨⟨0,_,V⟩,trivial⟩ U λK=>Bc K V [0,1,2] V (JG.fd 3 K underlying74 GG V V V V ?_);refine Ko 4 K 0 0 U J8 ?_;refine Bc K V [5,6] V (JG.fd 7 K underlying74 Ax V V V V ?_);refine Ko 8 K 1 0 U AR ?_;obtain⟨b4,bo,bv⟩:=bs be;refine AP 9 K V V (λρ h s' Z=>Dp (h _ _ V) (h _ _ V) bo) ?_;obtain⟨ag,bw,b0⟩:=bs bv;refine Fe 10 al bw K underlying22 Ax ?_;rintro b5 b6 _ rfl b1;refine JG.lp 11 K 0 b1 U ⟨⟨0,_,V⟩,trivial⟩ AR ?_;refine AP (v:= .int .u64 ((CZ ag:Nat):Int)) 12 K V V (λρ h s' Z=>Yl.CZ underlying3 underlying72 (h _ _ V)) (AP (v:= .int .u64 ((((CZ ag)*14029467366897019727) % 2 ^ 64:Nat):Int)) 13 K V V (λρ h s' Z=>No (h _ _ V) (h _ _ V)) ?_);refine Dc [14,15] (Am (v:= .int .u64 ((((((CZ Y)*11400714819323198485) % 2 ^ 64) ^^^ (((CZ ag)*14029467366897019727) % 2 ^ 64)) % 2 ^ 64:Nat):Int)) V (λρ h=>M7 (h _ _ V) (h _ _ V)) ?_);refine C 2 V ?_;obtain rfl:=oi b0;exact a3 AF U V
  ·refine JL.skip ?_;obtain rfl:=oi bi;exact a3 AF U V
def f36(fu_:Nat)(p0:B2)(O:Int):Option (Int×(B2)):= (f83 fu_ p0).bind λK=> if O<1 then(some (0,K.2)) else((NW K.1 ((CZ O+1) % 2 ^ 64)).bind λU=> some (Mn U,K.2))
theorem JN{bk:Nat}{a1:Ao}{c2:Nat}{p0:B2}{K:Int}(aw:Al rI E a1 c2 p0.1){fu_:Nat}{r:Int×(B2)}(O:f36 fu_ p0 K=some r):AL J 26 [Ak bk 0,iV K] E [(bk,.cells #[sV a1 p0.1 c2,iV p0.2.1,.int .u64 ((p0.2.2:Nat):Int)] 74 (0,0))] (λw E' B'=>∃(U:Ao) (Y:Nat),w=iV r.1/\B'= [(bk,.cells #[sV U r.2.1 Y,iV r.2.2.1,.int .u64 ((r.2.2.2:Nat):Int)] 74 (0,0))]/\Al rI E' U Y r.2.1):=by
 refine Bg func26 λQ a9 cs H a0 Z=>?_;unfold f36 at O;obtain⟨bb,a2,a3⟩:=bs O;refine C 7 V (B9 0 (br aw a2) V V (A0 func66 V) a0 V ?_);rintro _ be _ ac ⟨ag,al,rfl,rfl,am⟩ ap;refine C 8 V (AV a3 (λa4 a5=>?_) (λa4 a6=>?_))
 ·refine C 4 V ?_;obtain rfl:=oi a5;exact AS func26 V V (Z ac V ⟨ag,al,V,V,am⟩ ap)
 ·refine C 5 V (Am (v:= .int .u64 ((CZ K:Nat):Int)) V (λρ h=>Yl.CZ underlying3 underlying72 (h _ _ V)) ?_);refine Am (v:= .int .u64 (((CZ K+1) % 2 ^ 64:Nat):Int)) V (λρ h=>YI (h _ _ V) (h _ _ V)) ?_;obtain⟨aq,a7,a8⟩:=bs a6;refine Am (v:= .int .u64 ((aq:Nat):Int)) V (λρ h=>XE (h _ _ V) (h _ _ V) a7) (Am (v:=iV (Mn aq)) V (λρ h=>ZM underlying72 underlying3 (h _ _ V)) ?_);refine C 2 V ?_;obtain rfl:=oi a8;exact AS func26 V V (Z ac V ⟨ag,al,V,V,am⟩ ap)
def f37(fu_:Nat)(p0:B2)(K:Int)(p2:Int):Option (Int×(B2)):= (Av (p2 - K)).bind λU=> (f36 fu_ p0 U).bind λO=> (Av (K+O.1)).bind λY=> some (Y,O.2)
theorem PR{bk:Nat}{a1:Ao}{c2:Nat}{p0:B2}{K:Int}{p2:Int}(Z:Al rI E a1 c2 p0.1){fu_:Nat}{r:Int×(B2)}(O:f37 fu_ p0 K p2=some r):AL J 27 [Ak bk 0,iV K,iV p2] E [(bk,.cells #[sV a1 p0.1 c2,iV p0.2.1,.int .u64 ((p0.2.2:Nat):Int)] 74 (0,0))] (λw E' B'=>∃(U:Ao) (Y:Nat),w=iV r.1/\B'= [(bk,.cells #[sV U r.2.1 Y,iV r.2.2.1,.int .u64 ((r.2.2.2:Nat):Int)] 74 (0,0))]/\Al rI E' U Y r.2.1):=by
 refine Bg func27 λQ a7 cs H ac ag=>?_;unfold f37 at O;obtain⟨a8,al,am⟩:=bs O;refine C 10 V (Cd al V V V ?_);obtain⟨a9,ap,aq⟩:=bs am;refine B9 0 (JN Z ap) V V Jq ac V ?_;rintro _ bb _ aw ⟨a0,a2,rfl,rfl,a3⟩ a4;obtain⟨be,a5,a6⟩:=bs aq;refine Bo a5 V V V (C 2 V ?_);obtain rfl:=oi a6;exact AS func27 V V (ag aw V ⟨a0,a2,V,V,a3⟩ a4)
def f32(fu_:Nat)(p0:B2)(O:Int):Option (Bool×(B2)):= (Av (O - 1)).bind λU=> (f36 fu_ p0 U).bind λK=> some (decide (K.1=0),K.2)
theorem bU{bk:Nat}{a1:Ao}{c2:Nat}{p0:B2}{K:Int}(Z:Al rI E a1 c2 p0.1){fu_:Nat}{r:Bool×(B2)}(O:f32 fu_ p0 K=some r):AL J 52 [Ak bk 0,iV K] E [(bk,.cells #[sV a1 p0.1 c2,iV p0.2.1,.int .u64 ((p0.2.2:Nat):Int)] 74 (0,0))] (λw E' B'=>∃(U:Ao) (Y:Nat),w= .bool r.1/\B'= [(bk,.cells #[sV U r.2.1 Y,iV r.2.2.1,.int .u64 ((r.2.2.2:Nat):Int)] 74 (0,0))]/\Al rI E' U Y r.2.1):=by
 refine Bg func52 λQ a5 cs H ac ag=>?_;unfold f32 at O;obtain⟨a6,al,am⟩:=bs O;refine C 8 V (Cd al V V V ?_);obtain⟨a7,ap,aq⟩:=bs am;refine B9 0 (JN Z ap) V V Jq ac V ?_;rintro _ a8 _ aw ⟨a0,a2,rfl,rfl,a3⟩ a4;refine C 3 V ?_;obtain rfl:=oi aq;exact AS func52 V V (ag aw V ⟨a0,a2,V,V,a3⟩ a4)
def f81(fu_:Nat)(p0:B2)(K:List Int):Option (Int×(B2)):= (Av ((K.length:Int) - 1)).bind λU=> (f36 fu_ p0 U).bind λO=> (ix K O.1).bind λY=> some (Y,O.2)
theorem TW{bk:Nat}{a1:Ao}{c2:Nat}{O:Ao}{U:Nat}{p0:B2}{K:List Int}(al:Al rI E a1 c2 p0.1)(am:Al rI E O U K){fu_:Nat}{r:Int×(B2)}(Y:f81 fu_ p0 K=some r):AL J 53 [Ak bk 0,sV O K U] E [(bk,.cells #[sV a1 p0.1 c2,iV p0.2.1,.int .u64 ((p0.2.2:Nat):Int)] 74 (0,0))] (λw E' B'=>∃(Z:Ao) (ac:Nat),w=iV r.1/\B'= [(bk,.cells #[sV Z r.2.1 ac,iV r.2.2.1,.int .u64 ((r.2.2.2:Nat):Int)] 74 (0,0))]/\Al rI E' Z ac r.2.1):=by
 refine Bg func53 λQ be cs H ap aq=>?_;unfold f81 at Y;refine C 9 V (JL.ln underlying22 V V V ?_);obtain⟨bi,aw,a0⟩:=bs Y;refine Cd aw V V V ?_;obtain⟨bo,a2,a3⟩:=bs a0;refine B9 0 (JN al a2) V V Jq ap V ?_;rintro _ bv _ ag ⟨a4,a5,rfl,rfl,a6⟩ a7;obtain⟨bw,a8,a9⟩:=bs a3;refine JS.ix (am.Ah ag) a8 underlying22 Ax ?_;rintro b0 b1 _ rfl bb;refine CY 0 bb AR V V V (C 2 V ?_);obtain rfl:=oi a9;exact AS func53 V V (aq ag V ⟨a4,a5,V,V,a6⟩ a7)
def f40(fu_:Nat)(p0:B2)(K:Int):Option (Dq×(B2)):= (Av (K - 1)).bind λac=> (f36 fu_ p0 ac).bind λO=> (f37 fu_ O.2 1 9).bind λU=> (f81 fu_ U.2 ([1,2,2,3,U.1]:List Int)).bind λY=> (Av (K - 1)).bind λag=> (f37 fu_ Y.2 1 ag).bind λZ=> (Av (O.1+Z.1)).bind λal=> (N9 al K).bind λam=> some ((O.1,am,Y.1),Z.2)
theorem PW{bk:Nat}{a1:Ao}{c2:Nat}{p0:B2}{ac:Int}(a3:Al rI E a1 c2 p0.1){fu_:Nat}{r:Dq×(B2)}(ag:f40 fu_ p0 ac=some r):AL J 20 [Ak bk 0,iV ac] E [(bk,.cells #[sV a1 p0.1 c2,iV p0.2.1,.int .u64 ((p0.2.2:Nat):Int)] 74 (0,0))] (λw E' B'=>∃(al:Ao) (am:Nat),w= .agg #[iV r.1.1,iV r.1.2.1,iV r.1.2.2]/\B'= [(bk,.cells #[sV al r.2.1 am,iV r.2.2.1,.int .u64 ((r.2.2.2:Nat):Int)] 74 (0,0))]/\Al rI E' al am r.2.1):=by
 refine Bg func20 λQ c3 cs H a4 a5=>?_;unfold f40 at ag;refine C 2 V (BM a4 Bx λc4 a6=>?_);obtain⟨c5,a7,a8⟩:=bs ag;refine C 5 V (Cd a7 V V V ?_);obtain⟨O,a9,bb⟩:=bs a8;refine B9 0 (JN a3 a9) V V Jq a6 V ?_;rintro _ c6 _ be ⟨c7,c8,rfl,rfl,bi⟩ bo;obtain⟨ap,bv,bw⟩:=bs bb;refine C 2 V (B9 0 (PR bi bv) V V Ok bo V ?_);rintro _ c9 _ b0 ⟨da,db,rfl,rfl,b1⟩ b2;refine FU (pp:=rI) [iV 1,iV 2,iV 2,iV 3,iV ap.1] [1,2,2,3,ap.1] V V V underlying22 Ax Ct (by decide) V V V ⟨V,V,V,V,V,trivial⟩ b2 λdc dd b3 b4=>B6 2 b3 b4 V λde aq b5 b6=>?_;obtain⟨U,ca,cc⟩:=bs bw;refine B9 0 (TW (b1.Ah aq) b5 ca) V V (A0 func53 V) b6 V ?_;rintro _ df _ ce ⟨dg,dh,rfl,rfl,ci⟩ co;refine Am (v:= .agg #[iV O.1,iV 0,iV U.1]) V (λρ h=>CI [(0,1),(1,1),(2,1)] h Bx underlying42 ⟨V,AN type3,V,AN type3,V,AN type3,trivial⟩ V V) (BM co Bx λaw cp=>?_);refine BF 3 cp A9 λZ=>?_;refine C 2 V (Ff 8 [aw] ⟨⟨3,_,V⟩,trivial⟩ Z λK=>?_);refine JG.fd 0 K underlying42 Ax V V V V (Ko 1 K 0 3 Z AR ?_);refine Bc K V [2,3] V ?_;obtain⟨ct,cw,cy⟩:=bs cc;refine AP 4 K V V (λρ h s' cJ=>Dp (h _ _ V) (h _ _ V) cw) (Ds 7 K V V ?_);obtain⟨di,cK,cM⟩:=bs cy;refine MR (i:=5) (vs:= [Ak bk 0,iV 1,iV ct]) 0 (by exact λx cO=>Hh.mem (bks:= [aw]) (by exact⟨⟨3,_,rfl⟩,trivial⟩) x (by simpa [Az] using cO)) (PR ci cK) (by decide+kernel) V V V Ok V Z V ?_;rintro _ dj _ cP ⟨cQ,cR,rfl,rfl,cT⟩ cV;obtain⟨dk,cW,cX⟩:=bs cM;refine AP 6 K V V (λρ h s' cJ=>Fq (h _ _ V) (h _ _ V) cW) (Dc [8,9,10] ?_);obtain⟨Y,cY,cZ⟩:=bs cX;refine Am (v:=iV Y) V (λρ h=>Yd (h _ _ V) (h _ _ V) cY) (JL.fd underlying42 Ax V V V ?_);refine BF 3 cV Ax λa0=>?_;refine C 3 V (Am V (λρ h=>H9 (vs:= [iV O.1,iV Y,iV U.1]) Da A9 (h _ _ V) (G4 (off:=0) 3 a0 V V)) ?_);refine BF 1 a0 A9 λc0=>?_;refine JL.done (JS.drop 3 c0 V λa2=>?_);obtain rfl:=oi cZ;refine JL.ret (v:= .agg #[iV O.1,iV Y,iV U.1]) V V (By.list func20 V (vs:= [.agg #[iV O.1,iV Y,iV U.1]]) ⟨⟨_,V,Ld.many (vs:= [iV O.1,iV Y,iV U.1]) Da A9 (G4 (off:=0) 1 a2 V V)⟩,trivial⟩) (Em 1 a2 V λc1=>?_);exact a5 ((((be.Ad b0).Ad aq).Ad ce).Ad cP) V ⟨cQ,cR,V,V,cT⟩ c1
end Pal
namespace Pal
open Go Go.Conc
variable {P:Program}{J:Judge P}{Q:Gs_}{b:Frame}{n:Nat}{ds:Ld_}{ops:Ao_}{k:Li_}{cs:Lf_}{fuel:Nat}{D:Nat->Bool}{listed:Array Bool}{L:Env}{s:St}{E E' H:LH}{S:List Seg}
variable {x y:Operand}{t u ty e:TypeId}{p:String}{af:Ae_}{g:On_}{v:Value}{i:Nat}{kd:IntKind}
section
variable {m:Nat}
variable {d:Option Tmp}
theorem Take.S9{f:FuncId}{args:Array Operand}{ats:Array TypeId}{vs:Lv_}{seg:Seg}{R:Value->LH->Seg->Prop}(j:Nat)(O:Aq E H S)(ap:AL J f vs E seg R)
  (aq:ops[i]? =some ⟨d,.call ⟨.value (.func f),args,ats⟩,ty,p,af,g⟩) (hw:AM L ops ⟨d,.call ⟨.value (.func f),args,ats⟩,ty,p,af,g⟩=some true) (aw:Bf n d=true) (hb:Dm P f=true) (a0:evs L args.toList=some vs) (U:S[j]? =some seg)
  (a1:∀v E' seg',Le E E'->R v E' seg'->Aq E' H (S.set j seg')->AO J Q b n ds ops k cs m Df fuel (A8 listed i) (Au L d v) (Aj E' H (S.set j seg'))):
  Take J Q b n ds ops k cs m Df fuel listed L (Aj E H S) i:=by
 have Y:S.flatten.Perm (seg++(S.set j []).flatten):=(Ei (seg':=seg) U).1.trans List.perm_append_comm;have Z:Nd E H (seg++(S.set j []).flatten):=Nd.perm O Y;have a2:Aj E H S=mk E (Be (S.set j []).flatten H) seg:=by
  rw [show Aj E H S=mk E H S.flatten from rfl,ET O Y];unfold mk;rw [FE]
 have ac:=Ew.Kv (ap (Be (S.set j []).flatten H) (Nd.front Z)) (by rintro v s' ⟨E',B',_,_,_,rfl⟩;rfl);rw [← a2] at ac;refine⟨_,aq,by simp [DY],aw,hw,λρ ag=>?_⟩;have a3:args.map ρ=vs.toArray:=by
  rw [← FR ag a0];apply Array.ext';simp
 have a4:ρ (.func f)= .func (.func f) #[] #[]:=ag _ _ V;simp only [execOp,resolve,bind,Sem.bind,Deferred.ofValue,a4,pure,invoke];have e: #[]++args.map ρ++ #[]=vs.toArray:=by rw [a3];simp
 rw [e];refine IW hb ?_;rw [KO];refine⟨_,ac,?_⟩;rintro v bv ⟨⟨E',B',hle,a5,a6,rfl⟩,w,a7⟩;have e2:mk E' (Be (S.set j []).flatten H) B'=mk E' H (B'++(S.set j []).flatten):=by unfold mk;rw [FE]
 have a8:Nd E H (S.set j []).flatten:=by
  have:=Z;rw [Nd.iff] at this ⊢;rw [List.map_append,List.nodup_append] at this;exact⟨this.1.2.1,λq a9=>this.2 q (List.mem_append_right _ a9)⟩
 have bb:Nd E' H (S.set j []).flatten:=a8.grow λx K=>by
  have be:=a7.d x K;have bi:Be B' (Be (S.set j []).flatten H) x=none:=be;exact(Hz bi).1
 have al:Nd E' H (B'++(S.set j []).flatten):=Nd.glue a6 bb;have am:(B'++(S.set j []).flatten).Perm (S.set j B').flatten:=List.perm_append_comm.trans (Ei U).2.symm;have bo:Aq E' H (S.set j B'):=Nd.perm al am;rw [e2,ET al am];exact⟨V,λx o K=>hle _ _ K,a1 v E' B' hle a5 bo⟩
end
open Go.Proofs Go.Proofs.Tryz
variable {J:Judge Tryz.prog}
def NH(fu_:Nat)(Y:Bool×(B2))(K:(List Int)×Int×Nat×(List Int)×Int):Option (Bm ((List Int)×Int×Nat×(List Int)×Int) ((List Int)×B2)):= if 0<K.2.2.2.2 then(Option.bind (if Y.1=true then((room K.2.2.2.1 1).bind λZ=> some (Z,K.1,K.2.1,K.2.2.1)) else((f81 fu_ (K.1,K.2.1,K.2.2.1) ([1,1,2,2,3,5]:List Int)).bind λO=> (room K.2.2.2.1 O.1).bind λac=> some (ac,O.2.1,O.2.2.1,O.2.2.2))) λU=> (Av (K.2.2.2.2 - 1)).bind λag=> some (.more (U.2.1,U.2.2.1,U.2.2.2,U.1,ag))) else(some (.done (K.2.2.2.1,K.1,K.2.1,K.2.2.1)))
def NG(fu_:Nat)(Y:Int×(B2))(Z:Bool×(B2))(K:Bn×(List Int)×Int×Nat×Int):Option (Bm (Bn×(List Int)×Int×Nat×Int) ((List Int)×Int×Nat×Bn)):= if K.2.2.2.2<Y.1 then((f36 fu_ (K.2.1,K.2.2.1,K.2.2.2.1) 3).bind λO=> Option.bind (iter (NH fu_ Z) fu_ (O.2.1,O.2.2.1,O.2.2.2,[],O.1)) λU=> (room K.1 U.1).bind λac=> (Av (K.2.2.2.2+1)).bind λag=> some (.more (ac,U.2.1,U.2.2.1,U.2.2.2,ag))) else(some (.done (K.2.1,K.2.2.1,K.2.2.2.1,K.1)))
def Nr(fu_:Nat)(U:Int×(B2))(K:Aw×(List Int)×Int×Nat×Int):Option (Bm (Aw×(List Int)×Int×Nat×Int) ((List Int)×Int×Nat×Aw)):= if 0<K.2.2.2.2 then((f40 fu_ (K.2.1,K.2.2.1,K.2.2.2.1) U.1).bind λO=> (Dy K.1 ([O.1]:Aw)).bind λY=> (Av (K.2.2.2.2 - 1)).bind λZ=> some (.more (Y,O.2.1,O.2.2.1,O.2.2.2,Z))) else(some (.done (K.2.1,K.2.2.1,K.2.2.2.1,K.1)))
def f31(fu_:Nat)(p0:B2)(ac:Int)(p2:Int):Option (A5×(B2)):= (f37 fu_ p0 2 ac).bind λZ=> (f32 fu_ Z.2 3).bind λK=> Option.bind (iter (NG fu_ Z K) fu_ ([],K.2.1,K.2.2.1,K.2.2.2,0)) λO=> (f36 fu_ (O.1,O.2.1,O.2.2.1) p2).bind λU=> Option.bind (iter (Nr fu_ Z) fu_ ([],U.2.1,U.2.2.1,U.2.2.2,U.1)) λY=> some ((O.2.2.2,Y.2.2.2),(Y.1,Y.2.1,Y.2.2.1))
theorem bO{bk:Nat}{a1:Ao}{c2:Nat}{p0:B2}{dw:Int}{p2:Int}(er:Al rI E a1 c2 p0.1){fu_:Nat}{r:A5×(B2)}(dx:f31 fu_ p0 dw p2=some r):AL J 11 [Ak bk 0,iV dw,iV p2] E [(bk,.cells #[sV a1 p0.1 c2,iV p0.2.1,.int .u64 ((p0.2.2:Nat):Int)] 74 (0,0))] (λw E' B'=>∃(dy:Ao) (dz:Nat) (dA:Ao) (dB:Nat) (dC:Ao) (dD:Nat),w= .agg #[sV dy r.1.1 dz,sV dA r.1.2 dB]/\B'= [(bk,.cells #[sV dC r.2.1 dD,iV r.2.2.1,.int .u64 ((r.2.2.2:Nat):Int)] 74 (0,0))]/\Al (rL rI) E' dy dz r.1.1/\Al Ay E' dA dB r.1.2/\Al rI E' dC dD r.2.1):=by
 refine Bg func11 λQ hE cs H et eu=>?_;unfold f31 at dx;refine C 2 V (BM et Js λO ew=>?_);refine C 3 V (BM ew Js λU ex=>?_);obtain⟨a3,ey,ez⟩:=bs dx;refine C 5 V (B9 0 (PR er ey) V V Ok ex V ?_);rintro _ hF _ eA ⟨eB,eC,rfl,rfl,eE⟩ eF;refine BB (S':= [[(bk,.cells #[sV eB a3.2.1 eC,iV a3.2.2.1,.int .u64 ((a3.2.2.2:Nat):Int)] 74 (0,0))],[(O,.cells #[nS,nS] 28 (0,0))],[(U,.cells #[nS,nS] 28 (0,0))]]) V eF λeG=>?_;obtain⟨co,eH,eI⟩:=bs ez;refine C 5 V (B9 0 (bU eE eH) V V (A0 func52 V) eG V ?_);rintro _ c4 _ eJ ⟨eK,eL,rfl,rfl,eM⟩ eN;obtain⟨Y,eO,eP⟩:=bs eI;refine C 7 V (Br (λL s=>∃(cp:LH) (c5:Ao) (c6:Nat) (ac:Ao) (ag:Nat) (a2:Seg),Jn c4 H cp [bX bk #[sV c5 Y.1 c6,iV Y.2.1,.int .u64 ((Y.2.2.1:Nat):Int)] 74,bX O #[nS,nS] 28,bX U #[sV ac Y.2.2.2 ag,nS] 28,a2] [(0,Ak bk 0),(2,iV p2),(6,Ak O 0),(7,Ak U 0),(8,iV a3.1)] L s (Al rI cp c5 c6 Y.1/\OL 22 (rL rI) cp ac ag a2 Y.2.2.2)) ?_ ?_)
 ·rintro _ _ ⟨cp,c5,c6,ac,ag,a2,rfl,rfl,eQ,eR,eS,eT⟩;obtain⟨hG,eU,eV⟩:=bs eP;refine C 5 V (B9 0 (JN eS eU) V V Jq eR V ?_);rintro _ c7 _ dE ⟨eW,eX,rfl,rfl,eY⟩ eZ;obtain⟨al,e0,e1⟩:=bs eV;refine C 2 V (Br (λL s=>∃(ct:LH) (b2:Ao) (b3:Nat) (a5:Ao) (a6:Nat) (cw:Seg),Jn c7 H ct [bX bk #[sV b2 al.1 b3,iV al.2.1,.int .u64 ((al.2.2.1:Nat):Int)] 74,bX O #[nS,nS] 28,bX U #[sV ac Y.2.2.2 ag,sV a5 al.2.2.2 a6] 28,a2,cw] [(6,Ak O 0),(7,Ak U 0)] L s (Al rI ct b2 b3 al.1/\OL 42 Ay ct a5 a6 cw al.2.2.2)) ?_ ?_)
  ·rintro _ _ ⟨ct,b2,b3,a5,a6,cw,rfl,rfl,dF,dG,e3,e4⟩;refine C 2 V (Am V (λρ h=>H9 (vs:= [sV ac Y.2.2.2 ag,sV a5 al.2.2.2 a6]) ER CQ (h _ _ V) (G4 (off:=0) 2 dG V V)) ?_);refine BF 1 dG CQ λe5=>?_;refine BB (S':= [[(bk,.cells #[sV b2 al.1 b3,iV al.2.1,.int .u64 ((al.2.2.1:Nat):Int)] 74 (0,0))],[(O,.cells #[sV ac Y.2.2.2 ag,sV a5 al.2.2.2 a6] 28 (0,0))],[(U,.cells #[sV ac Y.2.2.2 ag,sV a5 al.2.2.2 a6] 28 (0,0))],a2,cw]) V e5 λe6=>JL.done (B6 3 (eT.Ah (dE.Ad dF)) e6 V λhH c8 e7 e8=>?_);refine B6 4 (e4.Ah c8) e8 V λhI c9 e9 fa=>JS.drop 2 fa V λdH=>?_;obtain rfl:=oi e1;refine JL.ret (v:= .agg #[sV ac Y.2.2.2 ag,sV a5 al.2.2.2 a6]) V V (By.list func11 V (vs:= [.agg #[sV ac Y.2.2.2 ag,sV a5 al.2.2.2 a6]]) ⟨⟨_,V,Ld.many (vs:= [sV ac Y.2.2.2 ag,sV a5 al.2.2.2 a6]) ER CQ (G4 (off:=0) 1 dH V V)⟩,trivial⟩) (Em 1 dH V λfb=>?_);exact eu ((((((eA.Ad eJ).Ad eQ).Ad dE).Ad dF).Ad c8).Ad c9) V ⟨ac,ag,a5,a6,b2,b3,V,V,(e7.Ah c9),e9,(e3.Ah (c8.Ad c9))⟩ fb
  ·intro fc;refine JL.block (Cl e0 (λL s ap=>∃(b4:LH) (a7:Ao) (a8:Nat) (bb:Seg) (cy:Ao) (cJ:Nat),Jn c7 H b4 [bX bk #[sV cy ap.2.1 cJ,iV ap.2.2.1,.int .u64 ((ap.2.2.2.1:Nat):Int)] 74,bX O #[nS,nS] 28,bX U #[sV ac Y.2.2.2 ag,sV a7 ap.1 a8] 28,a2,bb] [(0,Ak bk 0),(6,Ak O 0),(7,Ak U 0),(8,iV a3.1),(13,iV ap.2.2.2.2)] L s (OL 42 Ay b4 a7 a8 bb ap.1/\Al rI b4 cy cJ ap.2.1)) ⟨c7,none,0,[],eW,eX,V,V,AF,eZ,OL.nil,eY⟩ ?_);rintro _ _ ap ⟨b4,a7,a8,bb,cy,cJ,rfl,rfl,cK,cM,cO,da⟩ fe ⟨hJ,b5⟩ db;have dI:=b5;unfold Nr at dI;refine C 6 V (AV dI (λff fg=>?_) (λff fh=>?_))
   ·refine C 3 V (EV 6 λdJ=>?_);refine JG.fd 0 dJ underlying28 Gp V V V V (Bc dJ V [2,3] V ?_);obtain⟨K,dK,dc⟩:=bs fg;refine F9 (i:=1) (j:=4) V (by decide+kernel) ?_ ?_
    ·refine Take.y0 (v:= sV a7 ap.1 a8) V V V (λρ h=>Yl.load HZ (h _ _ V) (BR (j:=2) cM V V)) (JG.one (i:=4) V (by decide+kernel) ?_);refine Take.S9 (vs:= [Ak bk 0,iV a3.1]) 0 cM (PW da dK) V V V On V V ?_;rintro _ hK _ dL ⟨dd,de,rfl,rfl,fj⟩ fk;refine JG.one (i:=5) V (by decide+kernel) (Take.EO (pp:=Ay) [.agg #[iV K.1.1,iV K.1.2.1,iV K.1.2.2]] ([K.1]:Aw) fk V V V underlying26 A9 Bx (by decide) V V V ⟨⟨_,_,V,V,⟨_,_,V,V,V⟩⟩,trivial⟩ λhL fl fm fo=>?_);refine Dc [6,7,8] (BB (S':= [[(bk,.cells #[sV dd K.2.1 de,iV K.2.2.1,.int .u64 ((K.2.2.2:Nat):Int)] 74 (0,0))],[(O,.cells #[nS,nS] 28 (0,0))],[(U,.cells #[sV ac Y.2.2.2 ag,sV a7 ap.1 a8] 28 (0,0))],a2,bb,fl]) V fo λfp=>?_);refine B6 5 fm fp V λfq df fs fu=>?_;obtain⟨dM,fv,fw⟩:=bs dc;refine I5 (pp:=Ay) 4 fv V V V V V V V underlying26 underlying26 A9 (CX type42) Bx V (by decide) (by decide) (cO.Ah (dL.Ad df)) fs fu V λdN dO dP fx fy=>JL.fd underlying28 Gp V V V (BF 2 fy Gp λfz=>?_);refine BB (S':= [[(bk,.cells #[sV dd K.2.1 de,iV K.2.2.1,.int .u64 ((K.2.2.2:Nat):Int)] 74 (0,0))],[(O,.cells #[nS,nS] 28 (0,0))],[(U,.cells #[sV ac Y.2.2.2 ag,sV dN dM dO] 28 (0,0))],a2,dP,[]]) V fz λfA=>?_;obtain⟨fB,fC,fD⟩:=bs fw;refine C 4 V (Cd fC V V V ?_);refine C 2 V ?_;obtain rfl:=oi fD;exact AA (db _ _ (dM,K.2.1,K.2.2.1,K.2.2.2,fB) ⟨fq,dN,dO,dP,dd,de,V,V,((cK.Ad dL).Ad df),fA,fx,(fj.Ah df)⟩ b5) V
    ·refine Take.S9 (vs:= [Ak bk 0,iV a3.1]) 0 cM (PW da dK) V V V On V V ?_;rintro _ hM _ cP ⟨bv,bw,rfl,rfl,dQ⟩ dg;refine F9 (i:=1) (j:=5) V (by decide+kernel) ?_ ?_
     ·refine Take.y0 (v:= sV a7 ap.1 a8) V V V (λρ h=>Yl.load HZ (h _ _ V) (BR (j:=2) dg V V)) (JG.one (i:=5) V (by decide+kernel) ?_);refine Take.EO (pp:=Ay) [.agg #[iV K.1.1,iV K.1.2.1,iV K.1.2.2]] ([K.1]:Aw) dg V V V underlying26 A9 Bx (by decide) V V V ⟨⟨_,_,V,V,⟨_,_,V,V,V⟩⟩,trivial⟩ λhN fE fF fG=>Dc [6,7,8] (BB (S':= [[(bk,.cells #[sV bv K.2.1 bw,iV K.2.2.1,.int .u64 ((K.2.2.2:Nat):Int)] 74 (0,0))],[(O,.cells #[nS,nS] 28 (0,0))],[(U,.cells #[sV ac Y.2.2.2 ag,sV a7 ap.1 a8] 28 (0,0))],a2,bb,fE]) V fG λfH=>?_);refine B6 5 fF fH V λfI dh fJ fK=>?_;obtain⟨dR,fL,fM⟩:=bs dc;refine I5 (pp:=Ay) 4 fL V V V V V V V underlying26 underlying26 A9 (CX type42) Bx V (by decide) (by decide) (cO.Ah (cP.Ad dh)) fJ fK V λdS dT dU fN fO=>JL.fd underlying28 Gp V V V (BF 2 fO Gp λfP=>?_);refine BB (S':= [[(bk,.cells #[sV bv K.2.1 bw,iV K.2.2.1,.int .u64 ((K.2.2.2:Nat):Int)] 74 (0,0))],[(O,.cells #[nS,nS] 28 (0,0))],[(U,.cells #[sV ac Y.2.2.2 ag,sV dS dR dT] 28 (0,0))],a2,dU,[]]) V fP λfQ=>?_;obtain⟨fR,fS,fT⟩:=bs fM;refine C 4 V (Cd fS V V V ?_);refine C 2 V ?_;obtain rfl:=oi fT;exact AA (db _ _ (dR,K.2.1,K.2.2.1,K.2.2.2,fR) ⟨fI,dS,dT,dU,bv,bw,V,V,((cK.Ad cP).Ad dh),fQ,fN,(dQ.Ah dh)⟩ b5) V
     ·refine Take.EO (pp:=Ay) [.agg #[iV K.1.1,iV K.1.2.1,iV K.1.2.2]] ([K.1]:Aw) dg V V V underlying26 A9 Bx (by decide) V V V ⟨⟨_,_,V,V,⟨_,_,V,V,V⟩⟩,trivial⟩ λhO fU fW dV=>JG.one (i:=1) V (by decide+kernel) (Take.y0 (v:= sV a7 ap.1 a8) V V V (λρ h=>Yl.load HZ (h _ _ V) (BR (j:=2) dV V V)) ?_);refine Dc [6,7,8] (BB (S':= [[(bk,.cells #[sV bv K.2.1 bw,iV K.2.2.1,.int .u64 ((K.2.2.2:Nat):Int)] 74 (0,0))],[(O,.cells #[nS,nS] 28 (0,0))],[(U,.cells #[sV ac Y.2.2.2 ag,sV a7 ap.1 a8] 28 (0,0))],a2,bb,fU]) V dV λfX=>?_);refine B6 5 fW fX V λfY di fZ ga=>?_;obtain⟨dW,gb,gc⟩:=bs dc;refine I5 (pp:=Ay) 4 gb V V V V V V V underlying26 underlying26 A9 (CX type42) Bx V (by decide) (by decide) (cO.Ah (cP.Ad di)) fZ ga V λdX dY dZ ge gf=>JL.fd underlying28 Gp V V V (BF 2 gf Gp λgg=>?_);refine BB (S':= [[(bk,.cells #[sV bv K.2.1 bw,iV K.2.2.1,.int .u64 ((K.2.2.2:Nat):Int)] 74 (0,0))],[(O,.cells #[nS,nS] 28 (0,0))],[(U,.cells #[sV ac Y.2.2.2 ag,sV dX dW dY] 28 (0,0))],a2,dZ,[]]) V gg λgh=>?_;obtain⟨gi,gj,gk⟩:=bs gc;refine C 4 V (Cd gj V V V ?_);refine C 2 V ?_;obtain rfl:=oi gk;exact AA (db _ _ (dW,K.2.1,K.2.2.1,K.2.2.2,gi) ⟨fY,dX,dY,dZ,bv,bw,V,V,((cK.Ad cP).Ad di),gh,ge,(dQ.Ah di)⟩ b5) V
   ·refine JL.exit V ?_;obtain rfl:=oi fh;obtain rfl:=fe _ b5;exact AA (fc _ _ ⟨b4,cy,cJ,a7,a8,bb,V,V,cK,cM,da,cO⟩) V
 ·intro gl;refine JL.block (Cl eO (λL s Z=>∃(b6:LH) (aq:Ao) (aw:Nat) (a4:Seg) (cQ:Ao) (cR:Nat),Jn c4 H b6 [bX bk #[sV cQ Z.2.1 cR,iV Z.2.2.1,.int .u64 ((Z.2.2.2.1:Nat):Int)] 74,bX O #[nS,nS] 28,bX U #[sV aq Z.1 aw,nS] 28,a4] [(0,Ak bk 0),(2,iV p2),(6,Ak O 0),(7,Ak U 0),(8,iV a3.1),(9,.bool co.1),(10,iV Z.2.2.2.2)] L s (OL 22 (rL rI) b6 aq aw a4 Z.1/\Al rI b6 cQ cR Z.2.1)) ⟨c4,none,0,[],eK,eL,V,V,AF,eN,OL.nil,eM⟩ ?_);rintro _ _ Z ⟨b6,aq,aw,a4,cQ,cR,rfl,rfl,ea,eb,ec,ed⟩ gm ⟨hP,dj⟩ gn;have ee:=dj;unfold NG at ee;refine C 7 V (AV ee (λgp gq=>?_) (λgp gr=>?_))
  ·obtain⟨hQ,gt,gu⟩:=bs gq;refine C 11 V (B9 0 (JN ed gt) V V Jq eb V ?_);rintro _ dk _ ef ⟨gv,gw,rfl,rfl,gx⟩ gy;obtain⟨a0,gz,gA⟩:=bs gu;refine C 2 V (Br (λL s=>∃(cT:LH) (cV:Ao) (cW:Nat) (dn:Seg) (ca:Ao) (cc:Nat),Jn dk H cT [bX bk #[sV ca a0.2.1 cc,iV a0.2.2.1,.int .u64 ((a0.2.2.2:Nat):Int)] 74,bX O #[nS,nS] 28,bX U #[sV aq Z.1 aw,nS] 28,a4,dn] [(0,Ak bk 0),(2,iV p2),(6,Ak O 0),(7,Ak U 0),(8,iV a3.1),(9,.bool co.1),(10,iV Z.2.2.2.2),(11,sV cV a0.1 cW)] L s (OL 3 rI cT cV cW dn a0.1/\Al rI cT ca cc a0.2.1)) ?_ ?_)
   ·rintro _ _ ⟨cT,cV,cW,dn,ca,cc,rfl,rfl,eg,eh,gB,gC⟩;refine JL.region (JL.fd underlying28 Fl V V V ?_);refine Am (v:= sV aq Z.1 aw) V (λρ h=>Yl.load FB (h _ _ V) (BR (j:=2) (off:=0) eh V V)) (C 1 V ?_);refine B6 4 gB eh V λgD dp gE gF=>BB (S':= [[(bk,.cells #[sV ca a0.2.1 cc,iV a0.2.2.1,.int .u64 ((a0.2.2.2:Nat):Int)] 74 (0,0))],[(O,.cells #[nS,nS] 28 (0,0))],[(U,.cells #[sV aq Z.1 aw,nS] 28 (0,0))],a4,[]]) V gF λgG=>?_;obtain⟨gH,gI,gJ⟩:=bs gA;refine JS.app (pp:=(rL rI)) (v:= sV cV a0.1 cW) (a:=aq) (c:=aw) 3 gI V V V V (λ_=>V) V (λ_=>V) V V V underlying25 underlying25 underlying25 GG (CX type22) Lu V (by decide) (by decide) (by decide) (by decide) (ec.Ah ((ef.Ad eg).Ad dp)) ⟨_,_,V,gE⟩ gG V λhR gK gL gM gO gP=>JL.fd underlying28 Fl V V V (BF 2 gP Fl λgQ=>?_);obtain⟨gR,gS,gT⟩:=bs gJ;refine C 4 V (Bo gS V V V ?_);refine C 2 V ?_;obtain rfl:=oi gT;exact AA (gn _ _ (gH,a0.2.1,a0.2.2.1,a0.2.2.2,gR) ⟨gD,gK,gL,gM,ca,cc,V,V,(((ea.Ad ef).Ad eg).Ad dp),gQ,gO,(gC.Ah dp)⟩ dj) V
   ·intro gU;refine JL.block (Cl gz (λL s am=>∃(be:LH) (bi:Ao) (bo:Nat) (b0:Ao) (b1:Nat) (ce:Seg),Jn dk H be [bX bk #[sV bi am.1 bo,iV am.2.1,.int .u64 ((am.2.2.1:Nat):Int)] 74,bX O #[nS,nS] 28,bX U #[sV aq Z.1 aw,nS] 28,a4,ce] [(0,Ak bk 0),(2,iV p2),(6,Ak O 0),(7,Ak U 0),(8,iV a3.1),(9,.bool co.1),(10,iV Z.2.2.2.2),(11,sV b0 am.2.2.2.1 b1),(12,iV am.2.2.2.2)] L s (Al rI be bi bo am.1/\OL 3 rI be b0 b1 ce am.2.2.2.1)) ⟨dk,gv,gw,none,0,[],V,V,AF,gy,gx,OL.nil⟩ ?_);rintro _ _ am ⟨be,bi,bo,b0,b1,ce,rfl,rfl,ei,dq,dr,dt⟩ gV ⟨hS,du⟩ gW;have ej:=du;unfold NH at ej;refine C 6 V (AV ej (λgX gY=>?_) (λgX gZ=>?_))
    ·obtain⟨a9,g0,g1⟩:=bs gY;refine C 7 V (Br (λL s=>∃(ci:LH) (cX:Ao) (cY:Nat) (cZ:Seg) (c0:Ao) (c1:Nat),Jn be H ci [bX bk #[sV c0 a9.2.1 c1,iV a9.2.2.1,.int .u64 ((a9.2.2.2:Nat):Int)] 74,bX O #[nS,nS] 28,bX U #[sV aq Z.1 aw,nS] 28,a4,cZ] [(0,Ak bk 0),(2,iV p2),(6,Ak O 0),(7,Ak U 0),(8,iV a3.1),(9,.bool co.1),(10,iV Z.2.2.2.2),(11,sV cX a9.1 cY),(12,iV am.2.2.2.2)] L s (OL 3 rI ci cX cY cZ a9.1/\Al rI ci c0 c1 a9.2.1)) ?_ ?_)
     ·rintro _ _ ⟨ci,cX,cY,cZ,c0,c1,rfl,rfl,g3,g4,g5,g6⟩;obtain⟨g7,g8,g9⟩:=bs g1;refine C 3 V (Cd g8 V V V ?_);refine C 2 V ?_;obtain rfl:=oi g9;exact AA (gW _ _ (a9.2.1,a9.2.2.1,a9.2.2.2,a9.1,g7) ⟨ci,c0,c1,cX,cY,cZ,V,V,(ei.Ad g3),g4,g6,g5⟩ du) V
     ·intro ek;refine Cn g0 (λha hb=>?_) (λha hc=>?_)
      ·obtain⟨hT,hd,he⟩:=bs hb;refine C 2 V (JS.app (pp:=rI) (v:=iV 1) (a:=b0) (c:=b1) 4 hd V V V V (λ_=>V) V (λ_=>V) V V V underlying22 underlying22 underlying22 Ax (CX type3) Ct V (by decide) (by decide) (by decide) (by decide) dt V dq V λhU hf hg el hj hk=>?_);refine BB (S':= [[(bk,.cells #[sV bi am.1 bo,iV am.2.1,.int .u64 ((am.2.2.1:Nat):Int)] 74 (0,0))],[(O,.cells #[nS,nS] 28 (0,0))],[(U,.cells #[sV aq Z.1 aw,nS] 28 (0,0))],a4,el]) V hk λhl=>C 2 V ?_;obtain rfl:=oi he;exact AA (ek _ _ ⟨be,hf,hg,el,bi,bo,V,V,AF,hl,hj,dr⟩) V
      ·refine C 3 V (FU (pp:=rI) [iV 1,iV 1,iV 2,iV 2,iV 3,iV 5] [1,1,2,2,3,5] V V V underlying22 Ax Ct (by decide) V V V ⟨V,V,V,V,V,V,trivial⟩ dq λhV hm hn ho=>?_);refine BB (S':= [[(bk,.cells #[sV bi am.1 bo,iV am.2.1,.int .u64 ((am.2.2.1:Nat):Int)] 74 (0,0))],[(O,.cells #[nS,nS] 28 (0,0))],[(U,.cells #[sV aq Z.1 aw,nS] 28 (0,0))],a4,ce,hm]) V ho λhp=>B6 5 hn hp V λhW dv hq hr=>?_;obtain⟨c3,hs,ht⟩:=bs hc;refine B9 0 (TW (dr.Ah dv) hq hs) V V (A0 func53 V) hr V ?_;rintro _ hu _ em ⟨en,eo,rfl,rfl,hv⟩ hw;obtain⟨hX,hx,hy⟩:=bs ht;refine JS.app (pp:=rI) (v:=iV c3.1) (a:=b0) (c:=b1) 4 hx V V V V (λ_=>V) V (λ_=>V) V V V underlying22 underlying22 underlying22 Ax (CX type3) Ct V (by decide) (by decide) (by decide) (by decide) (dt.Ah (dv.Ad em)) V hw V λhY hz hA ep hB hC=>BB (S':= [[(bk,.cells #[sV en c3.2.1 eo,iV c3.2.2.1,.int .u64 ((c3.2.2.2:Nat):Int)] 74 (0,0))],[(O,.cells #[nS,nS] 28 (0,0))],[(U,.cells #[sV aq Z.1 aw,nS] 28 (0,0))],a4,ep,[]]) V hC λhD=>C 2 V ?_;obtain rfl:=oi hy;exact AA (ek _ _ ⟨hu,hz,hA,ep,en,eo,V,V,(dv.Ad em),hD,hB,hv⟩) V
    ·refine JL.exit V ?_;obtain rfl:=oi gZ;obtain rfl:=gV _ du;exact AA (gU _ _ ⟨be,b0,b1,ce,bi,bo,V,V,ei,dq,dt,dr⟩) V
  ·refine JL.exit V ?_;obtain rfl:=oi gr;obtain rfl:=gm _ dj;exact AA (gl _ _ ⟨b6,cQ,cR,aq,aw,a4,V,V,ea,eb,ed,ec⟩) V
variable {J:Judge Tryz.prog}
variable {J:Judge Tryz.prog}
variable {J:Judge Tryz.prog}
def L4(fu_:Nat)(p0:A5)(K:(List Int)×Int):Option (Bm ((List Int)×Int) ((List Int))):= if K.2<(p0.2.length:Int) then((ix p0.2 K.2).bind λO=> (ix K.1 O.1).bind λal=> (ix K.1 O.1).bind λU=> (Av (U - O.2.2)).bind λY=> (ix K.1 O.2.1).bind λZ=> (Av (Z+O.2.2)).bind λac=> (Av (K.2+1)).bind λag=> some (.more (((K.1.set (Int.toNat O.1) Y).set (Int.toNat O.2.1) ac),ag))) else(some (.done K.1))
def f55(fu_:Nat)(p0:A5):Option ((List Int)):= (He (p0.1.length:Int) (0:Int)).bind λK=> Option.bind (iter (L4 fu_ p0) fu_ (K,0)) λO=> some O
theorem bT{a1:Ao}{c2:Nat}{bv:Ao}{bw:Nat}{p0:A5}(dC:Al (rL rI) E a1 c2 p0.1)(co:Al Ay E bv bw p0.2){fu_:Nat}{r:(List Int)}(b0:f55 fu_ p0=some r):AL J 15 [.agg #[sV a1 p0.1 c2,sV bv p0.2 bw]] E [] (λw E' B'=>∃(b1:Ao) (b2:Nat),w= sV b1 r b2/\B'= []/\Al rI E' b1 b2 r):=by
 refine Bg func15 λQ dD cs H cp ct=>?_;unfold f55 at b0;refine C 2 V (Dd cp λb3 a7 b4 a8 cw=>?_);refine C 4 V (BK 0 a8 underlying28 Fl FB ?_);refine JL.ln underlying25 V V V ?_;obtain⟨cy,cJ,cK⟩:=bs b0;refine JS.make (pp:=rI) cJ V V V V V underlying22 Ax (CX type3) (by decide) Ct (by decide) V cw λcM cO cP cQ=>?_;obtain⟨b5,cR,cT⟩:=bs cK;refine C 7 V (Br (λL s=>∃(a9:LH) (aq:Ao) (aw:Nat) (bb:Seg),Jn a7 H a9 [bb] [(3,sV aq b5 aw)] L s (OL 3 rI a9 aq aw bb b5)) ?_ ?_)
 ·rintro _ _ ⟨a9,aq,aw,bb,rfl,rfl,cV,cW,cX⟩;refine C 5 V (B6 0 cX cW V λdE cY cZ c0=>?_);obtain rfl:=oi cT;exact AS func15 V V (ct ((b4.Ad cV).Ad cY) V ⟨aq,aw,V,V,cZ⟩ c0)
 ·intro c1;refine JL.block (Cl cR (λL s Y=>∃(a0:LH) (a2:Ao) (ac:Nat) (a3:Seg),Jn a7 H a0 [a3] [(1,Ak b3 0),(3,sV a2 Y.1 ac),(4,iV Y.2)] L s (OL 3 rI a0 a2 ac a3 Y.1)) ⟨a7,(AW cM),cy.length,cO,V,V,AF,cQ,cP⟩ ?_);rintro _ _ Y ⟨a0,a2,ac,a3,rfl,rfl,ap,b6,ca⟩ c3 ⟨dF,be⟩ c4;have cc:=be;unfold L4 at cc;refine C 4 V (BK 1 (a8.Ah ap) underlying28 Gp HZ ?_);refine JL.ln underlying26 V V V (C 2 V ?_);refine AV cc (λc5 c6=>?_) (λc5 c7=>?_)
  ·refine C 5 V (BK 1 (a8.Ah ap) underlying28 Gp HZ ?_);obtain⟨O,c8,c9⟩:=bs c6;refine C 1 V (JS.ix (co.Ah (b4.Ad ap)) c8 underlying26 A9 ?_);rintro dG dH _ ⟨_,_,rfl,rfl,⟨_,_,rfl,rfl,rfl⟩⟩ da;refine BX da Da A9 V V (BM b6 Bx λU db=>?_);refine BF 1 db A9 λdc=>?_;refine CF 1 dc V λdd ce ag bi=>?_;obtain⟨dI,de,df⟩:=bs c9;refine JL.done ?_;obtain⟨a4,f82,dg,Z⟩:=WL.of (ca.Ah ce) de;obtain⟨rfl,rfl⟩:=dg;refine GO [23,25] [a4] [] mixed V (Bb 0 V V ?_);refine CK (v:= Ak U 0) 1 true V V (λρ h s' K=>DJ (a:=⟨U,0,none⟩) 0 0 underlying42 Ax V V V (h _ _ V)) (Fc (v:=iV O.1) 2 V (by decide+kernel) V V V (λρ h s' K=>Yl.load AR (h _ _ V) (At.EK (j:=0) ag K V)) ?_);refine Bb 3 V V (CK (v:= Ak U 1) 4 true V V (λρ h s' K=>DJ (a:=⟨U,0,none⟩) 0 1 underlying42 Ax V V V (h _ _ V)) ?_);refine Fc (v:=iV O.2.1) 5 V (by decide+kernel) V V V (λρ h s' K=>Yl.load AR (h _ _ V) (At.EK (j:=1) ag K V)) (Bb 6 V V ?_);refine CK (v:= Ak U 0) 7 true V V (λρ h s' K=>DJ (a:=⟨U,0,none⟩) 0 0 underlying42 Ax V V V (h _ _ V)) (Fc (v:=iV O.1) 8 V (by decide+kernel) V V V (λρ h s' K=>Yl.load AR (h _ _ V) (At.EK (j:=0) ag K V)) ?_);obtain⟨dh,a5,di⟩:=bs df;obtain⟨_,rfl,dj⟩:=WL.at Z a5;refine JB.ix 9 Z.2 a5 underlying22 Ax ?_;refine JB.val (v:=iV dh) 10 false V (by decide+kernel) V V V (λρ h s' K=>have K:=K V;Yl.load AR (h _ _ V) (BZ 0 bi V (by simp [Az]) K (dj 0 _ V))) (CK (v:= Ak U 2) 11 true V V (λρ h s' K=>DJ (a:=⟨U,0,none⟩) 0 2 underlying42 Ax V V V (h _ _ V)) ?_);refine Fc (v:=iV O.2.2) 12 V (by decide+kernel) V V V (λρ h s' K=>Yl.load AR (h _ _ V) (At.EK (j:=2) ag K V)) ?_;obtain⟨al,dk,dn⟩:=bs di;refine CK 13 true V V (λρ h s' K=>Dp (h _ _ V) (h _ _ V) dk) (Bb 14 V V ?_);refine CK (v:= Ak U 1) 15 true V V (λρ h s' K=>DJ (a:=⟨U,0,none⟩) 0 1 underlying42 Ax V V V (h _ _ V)) (Fc (v:=iV O.2.1) 16 V (by decide+kernel) V V V (λρ h s' K=>Yl.load AR (h _ _ V) (At.EK (j:=1) ag K V)) ?_);obtain⟨dp,a6,dq⟩:=bs dn;obtain⟨_,rfl,dr⟩:=WL.at Z a6;refine JB.ix 17 Z.2 a6 underlying22 Ax ?_;refine JB.val (v:=iV dp) 18 false V (by decide+kernel) V V V (λρ h s' K=>have K:=K V;Yl.load AR (h _ _ V) (BZ 0 bi V (by simp [Az]) K (dr 0 _ V))) (CK (v:= Ak U 2) 19 true V V (λρ h s' K=>DJ (a:=⟨U,0,none⟩) 0 2 underlying42 Ax V V V (h _ _ V)) ?_);refine Fc (v:=iV O.2.2) 20 V (by decide+kernel) V V V (λρ h s' K=>Yl.load AR (h _ _ V) (At.EK (j:=2) ag K V)) ?_;obtain⟨am,dt,du⟩:=bs dq;refine CK 21 true V V (λρ h s' K=>Fq (h _ _ V) (h _ _ V) dt) (JB.ix 22 Z.2 a5 underlying22 Ax ?_);have ci:=WL.put (x':=al) (ws':= [iV al]) Z Z.2 a5 V;refine DO 23 0 bi Ax trivial ci.2 λdv=>?_;refine JB.ix 24 Z.2 a6 underlying22 Ax ?_;have bo:=WL.put (x':=am) (ws':= [iV am]) ci.1 Z.2 a6 V;refine DO 25 0 dv Ax trivial bo.2 λdw=>?_;refine JB.fin (by decide+kernel) ?_;have dx:=(bo.1).1;have dy:(((Y.1.set (Int.toNat O.1) al).set (Int.toNat O.2.1) am)).length=Y.1.length:=(bo.1).2;refine DW (L':= [(1,Ak b3 0),(3,.slice (AW a4) (((Y.1.set (Int.toNat O.1) al).set (Int.toNat O.2.1) am)).length ac),(4,iV Y.2)]) ⟨V,by rw [dy];rfl,V,trivial⟩ ?_;obtain⟨dz,dA,dB⟩:=bs du;refine C 3 V (Bo dA V V V ?_);refine C 2 V ?_;obtain rfl:=oi dB;exact AA (c4 _ _ (((Y.1.set (Int.toNat O.1) al).set (Int.toNat O.2.1) am),dz) ⟨dd,(AW a4),ac,[(a4,.cells (A4 (A4 f82 (Int.toNat (O.1)*1) [iV al]) (Int.toNat (O.2.1)*1) [iV am]) 3 (0,0))],V,V,(ap.Ad ce),dw,dx⟩ be) V
  ·refine JL.exit V ?_;obtain rfl:=oi c7;obtain rfl:=c3 _ be;exact AA (c1 _ _ ⟨a0,a2,ac,a3,V,V,ap,b6,ca⟩) V
end Pal
namespace Pal
open Go Go.Conc
def Lo(t:TypeId)(v:Value):Option Int->Prop
 | none=>v= .nilIface
 | some c=>v= .iface t (.agg #[iV c])
variable {P:Program}{s:St}{ρ:Operand->Value}{x y z:Operand}{t u ty e:TypeId}{p:String}{af:Ae_}{g:On_}{v v':Value}
section
variable {d:Option Tmp}
theorem Vu{ms:Array (String×TypeId)}{K:TypeId}{o:Option Int}{n:Nat}(O:P.underlying t=some (.interface ms))(he:Lo K v o){Q:Bool->St->Prop}{X:Halt->St->Prop}(k:Q o.isNone s):lp P (Op.equalIn (n+1) t v .nilIface) s Q X:=by
 unfold Op.equalIn;refine As _ _ (Cg O ?_);cases o with
 | none=>obtain rfl:v= .nilIface:=he;exact k
 | some q=>obtain rfl:v= .iface K (.agg #[iV q]):=he;exact k
theorem Q1{ms:Array (String×TypeId)}{K:TypeId}{o:Option Int}(O:P.underlying t=some (.interface ms))(he:Lo K v o)(U:ρ x=v)(Y:ρ (.const .nilIface)= .nilIface):Yl P ⟨d,.binOp .eql t x (.const .nilIface) u,ty,p,af,g⟩ ρ s (.bool o.isNone):=by
 refine Fo (sm:=do eqGuard .eql t x (.const .nilIface) (ρ x) (ρ (.const .nilIface));binOp .eql t (ρ x) (ρ (.const .nilIface))) V ?_
 rw [U,Y];have Z:lp P (eqGuard .eql t x (.const .nilIface) v .nilIface) s (λ_ s'=>s'=s) (λ_ _=>False):=by
  cases o with
  | none=>obtain rfl:v= .nilIface:=he;simp [eqGuard,lp,pure]
  | some q=>obtain rfl:v= .iface K (.agg #[iV q]):=he;simp [eqGuard,lp,pure]
 refine As _ _ (DG _ Z ?_ (λ_ _ h=>h));rintro _ _ rfl;have hb:binOp .eql t v .nilIface=(do pure (.bool (← Op.equal t v .nilIface))):=by
  cases o with
  | none=>obtain rfl:v= .nilIface:=he;rfl
  | some q=>obtain rfl:v= .iface K (.agg #[iV q]):=he;rfl
 rw [hb];refine As (x:=Op.equal t v .nilIface) _ ?_;unfold Op.equal Op.maxDepth;refine Vu O he ?_;refine⟨?_,V⟩
 rfl
end
end Pal
set_option autoImplicit false
open Go
namespace Pal
theorem Al.Um{P:Program}{E:LH}{α:Type}{pp:Rp α}{a:Option Addr}{c:Nat}{xs:List α}{xv:α}{K:Int}(U:Al pp E a c xs)(O:ix xs K=some xv):
  ∃bk o ws,pp.r E ws xv/\At E bk o ws/\∀{s:St} {ρ:Operand->Value} {x y:Operand} {d:Option Tmp} {t ty e:TypeId} {p:String} {af:Ae_} {g:On_} {kd:IntKind},
   P.underlying t=some (.slice e)->Bj P e=some pp.n->ρ x= .slice a xs.length c->ρ y= .int kd K->Yl P ⟨d,.indexAddr t x y,ty,p,af,g⟩ ρ s (.pointer (some ⟨bk,o,none⟩)):=by
 obtain⟨K,rfl,O⟩:=FV O;have Y:K<xs.length:=(List.getElem?_eq_some_iff.1 O).1;obtain⟨aw,⟨rfl,_⟩ | ⟨bk,off,rfl,Z⟩⟩:=U
 ·simp at Y
 obtain⟨ws,ac,ag⟩:=Z K xv O;refine⟨bk,off+K*pp.n,ws,ac,ag,λ{s ρ x y d t ty e p af g kd} al am ap aq=>?_⟩;have:=LD (P:=P) (s:=s) (d:=d) (ty:=ty) (p:=p) (af:=af) (g:=g) al am ap aq ⟨by omega,by omega⟩;rw [Dw rfl] at this;simpa using this
open Go Go.Conc Go.Proofs
variable {E:LH}
variable {J:Judge Tryz.prog}
def Nl(fu_:Nat)(p0:List Int)(K:Int×Int):Option (Bm (Int×Int) (Int)):=
 if K.2<((p0).length:Int) then(
  (ix p0 (K.2)).bind λO=>
  (Av (K.1+O)).bind λU=>
  (Av (K.2+1)).bind λY=>
  some (.more (U,Y))
 ) else(
  some (.done K.1)
 )
def Mk(fu_:Nat)(p0:List Int):Option (Int):=
 Option.bind (iter (Nl fu_ p0) fu_ (0,0)) λK=>
 some K
theorem Zt{a1:Ao}{c2:Nat}{p0:List Int}(ag:Al rI E a1 c2 (p0)){fu_:Nat}{r:Int}(Y:Mk fu_ p0=some r):AL J 13 [.slice a1 (p0).length c2] E [] (λw E' B'=>w=iV r/\B'= []):=by
 refine Bg Tryz.func13 λQ b2 cs H al am=>?_;unfold Mk at Y;obtain⟨ap,aq,aw⟩:=bs Y;refine C 13 V (EM [] [(3,iV ap)] (λb3 a0 a2=>?_) (λa3=>?_))
 ·refine C 5 V ?_;obtain rfl:=oi aw;exact AS Tryz.func13 V V (am a0 V ⟨V,V⟩ a2)
 ·refine JL.block (DZ aq (λK=> []) (λK=> [(0,.slice a1 (p0).length c2),(3,iV K.1),(4,iV K.2)]) (Le.refl _) al ?_);rintro K b4 O Z a4 ⟨b5,U⟩ a5;have ac:=U;unfold Nl at ac;refine C 5 V (JL.ln Tryz.underlying22 V V V ?_);refine C 2 V (AV ac (λa6 a7=>?_) (λa6 a8=>?_))
  ·obtain⟨b6,a9,bb⟩:=bs a7;refine C 7 V (JS.ix (ag.Ah O) a9 Tryz.underlying22 Ax ?_);rintro ca cc _ rfl be;refine CY 0 be AR V V V ?_;obtain⟨bi,bo,bv⟩:=bs bb;refine Bo bo V V V ?_;obtain⟨bw,b0,b1⟩:=bs bv;refine C 5 V (Bo b0 V V V ?_);refine C 2 V ?_;obtain rfl:=oi b1;exact a5 (bi,bw) O Z V U
  ·refine JL.exit V ?_;obtain rfl:=oi a8;obtain rfl:=a4 _ U;exact a3 O Z V
def Mi(fu_:Nat)(p0:Nat)(K:Int)(p2:Int):Option (Nat):=
 (f106 fu_ K p2).bind λO=>
 (NJ p0 O).bind λU=>
 some U
theorem aL{p0:Nat}{K:Int}{p2:Int}{fu_:Nat}{r:Nat}(O:Mi fu_ p0 K p2=some r):AL J 91 [.int .u32 ((p0:Nat):Int),iV K,iV p2] E [] (λw E' B'=>w= .int .u32 ((r:Nat):Int)/\B'= []):=by
 refine Bg Tryz.func91 λQ aw cs H U Y=>?_;unfold Mi at O;obtain⟨a0,Z,ac⟩:=bs O;refine C 9 V (Cj (Tk Z) V V (A0 Tryz.func88 V) U λa1 ag al=>?_);obtain⟨am,ap,aq⟩:=bs ac;refine Am (v:= .int .u32 ((am:Nat):Int)) V (λρ h=>Xn (h _ _ V) (h _ _ V) ap) (C 2 V ?_);obtain rfl:=oi aq;exact AS Tryz.func91 V V (Y ag V ⟨V,V⟩ al)
def M9(fu_:Nat)(p0:A5)(U:Aw)(K:(List Int)×Nat×Int):Option (Bm ((List Int)×Nat×Int) (((Option Int))⊕((List Int)))):=
 if K.2.2<((U).length:Int) then(
  (ix U (K.2.2)).bind λO=>
  (f86 fu_ O ((p0.1).length:Int) 72).bind λY=>
  if Y≠0 then(
   some (.done (Sum.inl (some (Y))))
  ) else(
   (f136 fu_ K.2.1 O.1 O.2.1).bind λZ=>
   if Z=true then(
    some (.done (Sum.inl (some (4))))
   ) else(
    (Mi fu_ K.2.1 O.1 O.2.1).bind λac=>
    (f204 fu_ K.1 O).bind λag=>
    (Av (K.2.2+1)).bind λal=>
    some (.more (ag,ac,al))
   )
  )
 ) else(
  some (.done (Sum.inr K.1))
 )
def Mg(fu_:Nat)(p0:A5)(K:Aw):Option ((Option Int)):=
 if 8<((K).length:Int) then(
  some (some (6))
 ) else(
  (f84 fu_ p0).bind λO=>
  Option.bind (iter (M9 fu_ p0 K) fu_ (O,0,0)) λU=>
  Sum.elim (λr=>some r) (λY=>
  if Y≠(List.replicate 5 (0:Int)) then(
   some (some (9))
  ) else(
   some none
  )
  ) U
 )
theorem ZZ{a1:Ao}{c2:Nat}{cc:Ao}{ce:Nat}{bv:Ao}{bw:Nat}{p0:A5}{a0:Aw}(cR:Al (rL rI) E a1 c2 (p0.1))(cT:Al Ay E cc ce (p0.2))(cV:Al Ay E bv bw (a0)){fu_:Nat}{r:(Option Int)}(ci:Mg fu_ p0 a0=some r):AL J 59 [.agg #[.slice a1 (p0.1).length c2,.slice cc (p0.2).length ce],.slice bv (a0).length bw] E [] (λw E' B'=>∃(co:Value),w=co/\B'= []/\Lo 128 co (r)):=by
 refine Bg Tryz.func59 λQ dT cs H cW a2=>?_;unfold Mg at ci;refine C 2 V (Dd cW λcX dU U cp ct=>?_);refine C 6 V (JL.ln Tryz.underlying26 V V V ?_);refine C 2 V (AV ci (λcY cZ=>?_) (λcY c0=>?_))
 ·refine C 2 V (Am (v:= .agg #[iV 6]) V (λρ h=>CI [(0,1)] h KJ Tryz.underlying128 ⟨V,AN Tryz.type30,trivial⟩ V V) ?_);refine Am (v:= .iface 128 (.agg #[iV 6])) V (λρ h=>IY Tryz.underlying128 (λ_ h=>by cases h) (h _ _ V)) (C 2 V ?_);obtain rfl:=oi cZ;exact AS Tryz.func59 V V (a2 U V ⟨.iface 128 (.agg #[iV 6]),V,V,V⟩ ct)
 ·refine C 7 V (BX cp FC Dl V V ?_);obtain⟨dV,c1,c3⟩:=bs c0;refine BU (NM (cR.Ah U) (cT.Ah U) c1) V V MF ct ?_;rintro _ a3 _ al ⟨b0,rfl,rfl,a4⟩ c4;refine BM c4 Jt λa5 c5=>?_;refine GH (v:= .agg b0.toArray) (l:= []) (ws:=(List.replicate 5 (iV 0):Lv_)) (us:=b0) (o:=0) 3 V V V c5 V V V (by rw [BQ (kk:=5) (pp:=rI) a4];exact AN Tryz.type82) ((rA 5 rI).one a4) V (by rw [BQ (kk:=5) (pp:=rI) a4,BQ (kk:=5) (pp:=rI) (FW (E:=a3) (pp:=rI) rfl)];omega) λcw=>?_;rw [Iz (by rw [BQ (kk:=5) (pp:=rI) a4,BQ (kk:=5) (pp:=rI) (FW (E:=a3) (pp:=rI) rfl)])] at cw ⊢;refine C 5 V (JL.ln Tryz.underlying26 V V V ?_);obtain⟨cy,c6,b1⟩:=bs c3;refine C 2 V (Br (λL s=>∃(a6:(List Int)) (am:LH) (a7:Lv_),cy=Sum.inr a6/\Jn a3 H am [[(a5,.cells (([]:Lv_)++a7).toArray 82 (0,0))]] [(6,.pointer (some ⟨a5,0,none⟩))] L s ((rA 5 rI).r am a7 (a6))) ?_ ?_)
  ·rintro _ _ ⟨a6,am,a7,rfl,rfl,rfl,cJ,b2,cK⟩;have c7:=elim_inr b1;refine C 3 V (Am (v:= .agg a7.toArray) V (λρ h=>G7 (kk:=5) (pp:=rI) cK Hu H2 (h _ _ V) (Gt (l:= []) 0 b2 V)) ?_);refine Am (v:= .agg (List.replicate 5 (iV 0):Lv_).toArray) V (λρ h=>Rv Tryz.underlying82 Jt Ax V) (Am (v:= .bool (decide (a6≠(List.replicate 5 (0:Int))))) V (λρ h=>Pd (E:=am) (E':=am) (ws:=a7) (ws':=(List.replicate 5 (iV 0):Lv_)) (a:=a6) (b:=(List.replicate 5 (0:Int))) SY (by decide) (by decide+kernel) cK (FW (E:=am) (pp:=rI) V) (h _ _ V) (h _ _ V)) ?_);refine JL.done (AV c7 (λc8 c9=>?_) (λc8 da=>?_))
   ·refine C 2 V (Am (v:= .agg #[iV 9]) V (λρ h=>CI [(0,1)] h KJ Tryz.underlying128 ⟨V,AN Tryz.type30,trivial⟩ V V) ?_);refine Am (v:= .iface 128 (.agg #[iV 9])) V (λρ h=>IY Tryz.underlying128 (λ_ h=>by cases h) (h _ _ V)) (C 2 V ?_);refine JS.drop 0 b2 V λdb=>?_;obtain rfl:=oi c9;exact AS Tryz.func59 V V (a2 ((U.trans al).trans cJ) V ⟨.iface 128 (.agg #[iV 9]),V,V,V⟩ db)
   ·refine C 5 V (JS.drop 0 b2 V λdc=>?_);obtain rfl:=oi da;exact AS Tryz.func59 V V (a2 ((U.trans al).trans cJ) V ⟨.nilIface,V,V,V⟩ dc)
  ·intro dd;refine JL.block (Cl c6 (λL s Z=>∃(bi:LH) (ap:Lv_),Jn a3 H bi [[(a5,.cells (([]:Lv_)++ap).toArray 82 (0,0))]] [(2,.pointer (some ⟨cX,0,none⟩)),(5,.int .u32 ((Z.2.1:Nat):Int)),(6,.pointer (some ⟨a5,0,none⟩)),(17,.slice bv (a0).length bw),(18,iV ((a0).length:Int)),(19,iV Z.2.2)] L s ((rA 5 rI).r bi ap (Z.1))) ⟨a3,b0,V,V,(Le.refl _),cw,a4⟩ ?_);rintro _ _ Z ⟨bi,ap,rfl,rfl,aq,cM,a8⟩ b3 ⟨dW,a9⟩ de;have cO:=a9;unfold M9 at cO;refine C 5 V (AV cO (λdf dg=>?_) (λdf dh=>?_))
   ·obtain⟨bb,di,dj⟩:=bs dg;refine C 5 V (JS.ix (cV.Ah ((U.trans al).trans aq)) di Tryz.underlying26 A9 ?_);rintro dX dY _ ⟨_,_,rfl,rfl,⟨_,_,rfl,rfl,rfl⟩⟩ dk;refine BX dk Da A9 V V (BM cM Bx λdZ dn=>?_);refine BF 1 dn A9 λdp=>?_;refine CF 1 dp V λea Y aw dq=>C 4 V (BX aw Da A9 V V ?_);refine JL.fd Tryz.underlying78 CQ V V V (BK 0 (cp.Ah ((al.trans aq).trans Y)) Tryz.underlying28 Fl FB ?_);refine JL.ln Tryz.underlying25 V V V ?_;obtain⟨b4,dr,dt⟩:=bs dj;refine Cj (T3 dr) V V (A0 Tryz.func84 V) dq λeb K cP=>C 7 V (AV dt (λdu dv=>?_) (λdu dw=>?_))
    ·refine C 3 V (Am (v:= .agg #[iV b4]) V (λρ h=>CI [(0,1)] h KJ Tryz.underlying128 ⟨V,AN Tryz.type30,trivial⟩ V V) ?_);refine Am (v:= .iface 128 (.agg #[iV b4])) V (λρ h=>IY Tryz.underlying128 (λ_ h=>by cases h) (h _ _ V)) (C 2 V ?_);refine JS.drop 0 cP V λdx=>?_;obtain rfl:=oi dv;obtain rfl:=b3 _ a9;have dy:=elim_inl b1;obtain rfl:=oi dy;exact AS Tryz.func59 V V (a2 ((((U.trans al).trans aq).trans Y).trans K) V ⟨.iface 128 (.agg #[iV b4]),V,V,V⟩ dx)
    ·refine C 5 V (BK 0 (aw.Ah K) Tryz.underlying42 Ax AR ?_);refine BK 1 (aw.Ah K) Tryz.underlying42 Ax AR ?_;obtain⟨ec,dz,dA⟩:=bs dw;refine Cj (Td dz) V V (A0 Tryz.func90 V) cP λed O ac=>JL.done (Cn dA (λdB dC=>?_) (λdB dD=>?_))
     ·refine C 2 V (Am (v:= .agg #[iV 4]) V (λρ h=>CI [(0,1)] h KJ Tryz.underlying128 ⟨V,AN Tryz.type30,trivial⟩ V V) ?_);refine Am (v:= .iface 128 (.agg #[iV 4])) V (λρ h=>IY Tryz.underlying128 (λ_ h=>by cases h) (h _ _ V)) (C 2 V ?_);refine JS.drop 0 ac V λdE=>?_;obtain rfl:=oi dC;obtain rfl:=b3 _ a9;have dF:=elim_inl b1;obtain rfl:=oi dF;exact AS Tryz.func59 V V (a2 (((((U.trans al).trans aq).trans Y).trans K).trans O) V ⟨.iface 128 (.agg #[iV 4]),V,V,V⟩ dE)
     ·refine JL.skip (Ff 8 [a5] ⟨⟨0,_,V⟩,trivial⟩ ac λag=>?_);refine Ds 0 ag V V (JG.fd 1 ag Tryz.underlying42 Ax V V V V ?_);refine JG.lp 2 ag 0 (aw.Ah (K.trans O)) ac ⟨⟨0,_,V⟩,trivial⟩ AR ?_;refine JG.fd 3 ag Tryz.underlying42 Ax V V V V (JG.lp 4 ag 1 (aw.Ah (K.trans O)) ac ⟨⟨0,_,V⟩,trivial⟩ AR ?_);refine AP (v:= .agg ap.toArray) 6 ag V V (λρ h s' b5=>G7 (kk:=5) (pp:=rI) (Rp.Ah _ ((Y.trans K).trans O) a8) Hu H2 (h _ _ V) (Rg (l:= []) 0 ac V (by simp [Az]) b5)) (AP 7 ag V V (λρ h s' b5=>H9 (vs:= [iV bb.1,iV bb.2.1,iV bb.2.2]) Da A9 (h _ _ V) (At.Pv (aw.Ah (K.trans O)) (Uf ac b5 ⟨⟨0,_,V⟩,trivial⟩))) ?_);obtain⟨dG,dH,dI⟩:=bs dD;refine Xu (i:=5) ⟨⟨0,_,V⟩,trivial⟩ (vs:= [.int .u32 ((Z.2.1:Nat):Int),iV bb.1,iV bb.2.1]) (aL dH) (by decide+kernel) V V V (A0 Tryz.func91 V) V ac ?_;rintro _ ee _ bo ⟨rfl,rfl⟩ dJ;refine Dc [8,9,10] ?_;obtain⟨dK,dL,dM⟩:=bs dI;refine BU (HH (Rp.Ah _ (((Y.trans K).trans O).trans bo) a8) dL) V V Hv dJ ?_;rintro _ dN _ b6 ⟨ca,rfl,rfl,be⟩ dO;refine C 1 V (GH (v:= .agg ca.toArray) (l:= []) (ws:=ap) (us:=ca) (o:=0) 0 V V V dO V V V (by rw [BQ (kk:=5) (pp:=rI) be];exact AN Tryz.type82) ((rA 5 rI).one be) V (by rw [BQ (kk:=5) (pp:=rI) be,BQ (kk:=5) (pp:=rI) (Rp.Ah _ ((((Y.trans K).trans O).trans bo).trans b6) a8)];omega) λcQ=>?_);rw [Iz (by rw [BQ (kk:=5) (pp:=rI) be,BQ (kk:=5) (pp:=rI) (Rp.Ah _ ((((Y.trans K).trans O).trans bo).trans b6) a8)])] at cQ ⊢;obtain⟨dP,dQ,dR⟩:=bs dM;refine C 3 V (Bo dQ V V V ?_);refine C 2 V ?_;obtain rfl:=oi dR;exact AA (de _ _ (dK,dG,dP) ⟨dN,ca,V,V,(((((aq.trans Y).trans K).trans O).trans bo).trans b6),cQ,be⟩ a9) V
   ·refine JL.exit V ?_;obtain rfl:=oi dh;have dS:cy=(Sum.inr Z.1):=(b3 _ a9).symm;exact AA (dd _ _ ⟨Z.1,bi,ap,dS,V,V,aq,cM,a8⟩) V
def Nh(fu_:Nat)(p0:Int)(U:Aw)(O:(List Int)×Int):Option (Bm ((List Int)×Int) (((List Int)×Bool)⊕((List Int)))):=
 if O.2<((U).length:Int) then(
  (ix U (O.2)).bind λK=>
  Option.bind (
   if K.1<0 then(
    some true
   ) else(
    some (decide (K.2.1<0))
   )
  ) λY=>
  Option.bind (
   if Y=true then(
    some true
   ) else(
    some (decide (p0<=K.1))
   )
  ) λZ=>
  Option.bind (
   if Z=true then(
    some true
   ) else(
    some (decide (p0<=K.2.1))
   )
  ) λac=>
  Option.bind (
   if ac=true then(
    some true
   ) else(
    some (decide (K.2.2<1))
   )
  ) λag=>
  Option.bind (
   if ag=true then(
    some true
   ) else(
    some (decide (72<K.2.2))
   )
  ) λal=>
  if al=true then(
   some (.done (Sum.inl ([],false)))
  ) else(
   (ix O.1 (K.1)).bind λa1=>
   (ix O.1 (K.1)).bind λam=>
   (Av (am - K.2.2)).bind λap=>
   (ix O.1 (K.2.1)).bind λaq=>
   (Av (aq+K.2.2)).bind λaw=>
   (Av (O.2+1)).bind λa0=>
   some (.more (((O.1.set (Int.toNat K.1) ap).set (Int.toNat K.2.1) aw),a0))
  )
 ) else(
  some (.done (Sum.inr O.1))
 )
def Mj(fu_:Nat)(p0:Int)(K:Aw):Option ((List Int)×Bool):=
 (He p0 (0:Int)).bind λO=>
 Option.bind (iter (Nh fu_ p0 K) fu_ (O,0)) λU=>
 Sum.elim (λr=>some r) (λY=>
 some (Y,true)
 ) U
theorem av{a1:Ao}{c2:Nat}{p0:Int}{ap:Aw}(cY:Al Ay E a1 c2 (ap)){fu_:Nat}{r:(List Int)×Bool}(b6:Mj fu_ p0 ap=some r):AL J 17 [iV p0,.slice a1 (ap).length c2] E [] (λw E' B'=>∃(ca:Ao) (cc:Nat),w= .tuple #[.slice ca (r.1).length cc,.bool r.2]/\B'= []/\Al rI E' ca cc (r.1)):=by
 refine Bg Tryz.func17 λQ eB cs H cZ ce=>?_;unfold Mj at b6;obtain⟨c0,c1,c3⟩:=bs b6;refine C 8 V (JS.make (pp:=rI) c1 V V V V V Tryz.underlying22 Ax (CX Tryz.type3) (by decide) Ct (by decide) V cZ λc4 c5 c6 c7=>?_);obtain⟨ci,c8,co⟩:=bs c3;refine C 7 V (Br (λL s=>∃(a6:(List Int)) (b0:LH) (a7:Ao) (a8:Nat) (b1:Seg),ci=Sum.inr a6/\Jn E H b0 [b1] [(6,.slice a7 (a6).length a8)] L s (OL 3 rI b0 a7 a8 b1 (a6))) ?_ ?_)
 ·rintro _ _ ⟨a6,b0,a7,a8,b1,rfl,rfl,rfl,c9,da,db⟩;have dc:=elim_inr co;refine C 6 V (B6 0 db da V λeC dd de df=>?_);obtain rfl:=oi dc;exact AS Tryz.func17 V V (ce (c9.trans dd) V ⟨a7,a8,V,V,de⟩ df)
 ·intro dg;refine JL.block (Cl c8 (λL s O=>∃(a9:LH) (aw:Ao) (al:Nat) (a0:Seg),Jn E H a9 [a0] [(0,iV p0),(1,.slice a1 (ap).length c2),(6,.slice aw (O.1).length al),(7,iV O.2)] L s (OL 3 rI a9 aw al a0 (O.1))) ⟨E,(some ⟨c4,0,none⟩),(c0).length,c5,V,V,(Le.refl _),c7,c6⟩ ?_);rintro _ _ O ⟨a9,aw,al,a0,rfl,rfl,bb,cp,ct⟩ cw ⟨eE,be⟩ dh;have cy:=be;unfold Nh at cy;refine C 5 V (JL.ln Tryz.underlying26 V V V ?_);refine C 2 V (AV cy (λdi dj=>?_) (λdi dk=>?_))
  ·obtain⟨Y,dn,dp⟩:=bs dj;refine C 7 V (JS.ix (cY.Ah bb) dn Tryz.underlying26 A9 ?_);rintro eF eG _ ⟨_,_,rfl,rfl,⟨_,_,rfl,rfl,rfl⟩⟩ dq;refine BX dq Da A9 V V (BM cp Bx λU dr=>?_);refine BF 1 dr A9 λdt=>?_;refine CF 1 dt V λeH b2 ac cJ=>C 4 V (BK 0 ac Tryz.underlying42 Ax AR ?_);obtain⟨du,dv,dw⟩:=bs dp;refine C 2 V (EB 8 22 [a0] [(0,iV p0),(1,.slice a1 (ap).length c2),(6,.slice aw (O.1).length al),(7,iV O.2),(8,.pointer (some ⟨U,0,none⟩)),(28,.bool du)] (λeI Z cK=>?_) (λcM=>?_))
   ·obtain⟨dx,dy,dz⟩:=bs dw;refine C 1 V (EB 14 16 [a0] [(0,iV p0),(1,.slice a1 (ap).length c2),(6,.slice aw (O.1).length al),(7,iV O.2),(8,.pointer (some ⟨U,0,none⟩)),(34,.bool dx)] (λeJ ag cO=>?_) (λcP=>?_))
    ·obtain⟨dA,dB,dC⟩:=bs dz;refine C 1 V (EB 20 10 [a0] [(0,iV p0),(1,.slice a1 (ap).length c2),(6,.slice aw (O.1).length al),(7,iV O.2),(8,.pointer (some ⟨U,0,none⟩)),(40,.bool dA)] (λeK am cQ=>?_) (λcR=>?_))
     ·obtain⟨dD,dE,dF⟩:=bs dC;refine C 1 V (EB 25 5 [a0] [(0,iV p0),(1,.slice a1 (ap).length c2),(6,.slice aw (O.1).length al),(7,iV O.2),(8,.pointer (some ⟨U,0,none⟩)),(45,.bool dD)] (λb3 aq cT=>?_) (λcV=>?_))
      ·obtain⟨dG,dH,dI⟩:=bs dF;refine C 1 V (G6 [] (λL s=>∃(b4:LH),Jm b3 H b4 [a0] [(0,iV p0),(1,.slice a1 (ap).length c2),(6,.slice aw (O.1).length al),(7,iV O.2),(8,.pointer (some ⟨U,0,none⟩)),(50,.bool dG)] L s) ?_ ?_)
       ·rintro _ _ ⟨b4,rfl,rfl,a2,bi⟩;refine JL.done (Cn dI (λdJ dK=>?_) (λdJ dL=>?_))
        ·refine C 5 V (JS.drop 0 bi V λdM=>?_);obtain rfl:=oi dK;obtain rfl:=cw _ be;have dN:=elim_inl co;obtain rfl:=oi dN;exact AS Tryz.func17 V V (ce ((((((bb.trans b2).trans Z).trans ag).trans am).trans aq).trans a2) V ⟨none,0,V,V,Al.nil⟩ dM)
        ·obtain⟨eL,dO,dP⟩:=bs dL;refine JL.skip ?_;obtain⟨bo,f112,dQ,a3⟩:=WL.of (ct.Ah (((((b2.trans Z).trans ag).trans am).trans aq).trans a2)) dO;obtain⟨rfl,rfl⟩:=dQ;refine GO [23,25] [bo] [] mixed V (Bb 0 V V ?_);refine CK (v:= .pointer (some ⟨U,0,none⟩)) 1 true V V (λρ h s' K=>DJ (a:=⟨U,0,none⟩) 0 0 Tryz.underlying42 Ax V V V (h _ _ V)) (Fc (v:=iV Y.1) 2 V (by decide+kernel) V V V (λρ h s' K=>Yl.load AR (h _ _ V) (At.EK (j:=0) (ac.Ah ((((Z.trans ag).trans am).trans aq).trans a2)) K V)) ?_);refine Bb 3 V V (CK (v:= .pointer (some ⟨U,1,none⟩)) 4 true V V (λρ h s' K=>DJ (a:=⟨U,0,none⟩) 0 1 Tryz.underlying42 Ax V V V (h _ _ V)) ?_);refine Fc (v:=iV Y.2.1) 5 V (by decide+kernel) V V V (λρ h s' K=>Yl.load AR (h _ _ V) (At.EK (j:=1) (ac.Ah ((((Z.trans ag).trans am).trans aq).trans a2)) K V)) (Bb 6 V V ?_);refine CK (v:= .pointer (some ⟨U,0,none⟩)) 7 true V V (λρ h s' K=>DJ (a:=⟨U,0,none⟩) 0 0 Tryz.underlying42 Ax V V V (h _ _ V)) (Fc (v:=iV Y.1) 8 V (by decide+kernel) V V V (λρ h s' K=>Yl.load AR (h _ _ V) (At.EK (j:=0) (ac.Ah ((((Z.trans ag).trans am).trans aq).trans a2)) K V)) ?_);obtain⟨dR,bv,dS⟩:=bs dP;obtain⟨_,rfl,dT⟩:=WL.at a3 bv;refine JB.ix 9 a3.2 bv Tryz.underlying22 Ax ?_;refine JB.val (v:=iV dR) 10 false V (by decide+kernel) V V V (λρ h s' K=>have K:=K V;Yl.load AR (h _ _ V) (BZ 0 bi V (by simp [Az]) K (dT 0 _ V))) (CK (v:= .pointer (some ⟨U,2,none⟩)) 11 true V V (λρ h s' K=>DJ (a:=⟨U,0,none⟩) 0 2 Tryz.underlying42 Ax V V V (h _ _ V)) ?_);refine Fc (v:=iV Y.2.2) 12 V (by decide+kernel) V V V (λρ h s' K=>Yl.load AR (h _ _ V) (At.EK (j:=2) (ac.Ah ((((Z.trans ag).trans am).trans aq).trans a2)) K V)) ?_;obtain⟨a4,dU,dV⟩:=bs dS;refine CK 13 true V V (λρ h s' K=>Dp (h _ _ V) (h _ _ V) dU) (Bb 14 V V ?_);refine CK (v:= .pointer (some ⟨U,1,none⟩)) 15 true V V (λρ h s' K=>DJ (a:=⟨U,0,none⟩) 0 1 Tryz.underlying42 Ax V V V (h _ _ V)) (Fc (v:=iV Y.2.1) 16 V (by decide+kernel) V V V (λρ h s' K=>Yl.load AR (h _ _ V) (At.EK (j:=1) (ac.Ah ((((Z.trans ag).trans am).trans aq).trans a2)) K V)) ?_);obtain⟨dW,bw,dX⟩:=bs dV;obtain⟨_,rfl,dY⟩:=WL.at a3 bw;refine JB.ix 17 a3.2 bw Tryz.underlying22 Ax ?_;refine JB.val (v:=iV dW) 18 false V (by decide+kernel) V V V (λρ h s' K=>have K:=K V;Yl.load AR (h _ _ V) (BZ 0 bi V (by simp [Az]) K (dY 0 _ V))) (CK (v:= .pointer (some ⟨U,2,none⟩)) 19 true V V (λρ h s' K=>DJ (a:=⟨U,0,none⟩) 0 2 Tryz.underlying42 Ax V V V (h _ _ V)) ?_);refine Fc (v:=iV Y.2.2) 20 V (by decide+kernel) V V V (λρ h s' K=>Yl.load AR (h _ _ V) (At.EK (j:=2) (ac.Ah ((((Z.trans ag).trans am).trans aq).trans a2)) K V)) ?_;obtain⟨a5,dZ,ea⟩:=bs dX;refine CK 21 true V V (λρ h s' K=>Fq (h _ _ V) (h _ _ V) dZ) (JB.ix 22 a3.2 bv Tryz.underlying22 Ax ?_);have cW:=WL.put (x':=a4) (ws':= [iV a4]) a3 a3.2 bv V;refine DO 23 0 bi Ax trivial cW.2 λeb=>?_;refine JB.ix 24 a3.2 bw Tryz.underlying22 Ax ?_;have b5:=WL.put (x':=a5) (ws':= [iV a5]) cW.1 a3.2 bw V;refine DO 25 0 eb Ax trivial b5.2 λec=>?_;refine JB.fin (by decide+kernel) ?_;have ed:=(b5.1).1;have ee:(((O.1.set (Int.toNat Y.1) a4).set (Int.toNat Y.2.1) a5)).length=(O.1).length:=(b5.1).2;refine DW (L':= [(0,iV p0),(1,.slice a1 (ap).length c2),(6,.slice (some ⟨bo,0,none⟩) (((O.1.set (Int.toNat Y.1) a4).set (Int.toNat Y.2.1) a5)).length al),(7,iV O.2)]) ⟨V,V,by rw [ee];rfl,V,trivial⟩ ?_;obtain⟨ef,eg,eh⟩:=bs ea;refine C 3 V (Bo eg V V V ?_);refine C 2 V ?_;obtain rfl:=oi eh;exact AA (dh _ _ (((O.1.set (Int.toNat Y.1) a4).set (Int.toNat Y.2.1) a5),ef) ⟨b4,(some ⟨bo,0,none⟩),al,[(bo,.cells (A4 (A4 f112 (Int.toNat (Y.1)*1) [iV a4]) (Int.toNat (Y.2.1)*1) [iV a5]) 3 (0,0))],V,V,((((((bb.trans b2).trans Z).trans ag).trans am).trans aq).trans a2),ec,ed⟩ be) V
       ·intro cX;refine DX 46 dH (λei ej=>?_) (λei ek=>?_)
        ·refine C 4 V ?_;obtain rfl:=oi ej;exact AA (cX _ _ ⟨b3,V,V,(Le.refl _),cT⟩) V
        ·refine BK 2 (ac.Ah (((Z.trans ag).trans am).trans aq)) Tryz.underlying42 Ax AR ?_;refine C 2 V ?_;obtain rfl:=oi ek;exact AA (cX _ _ ⟨b3,V,V,(Le.refl _),cT⟩) V
      ·refine DX 41 dE (λel em=>?_) (λel en=>?_)
       ·refine C 4 V ?_;obtain rfl:=oi em;exact cV (Le.refl _) cQ V
       ·refine BK 2 (ac.Ah ((Z.trans ag).trans am)) Tryz.underlying42 Ax AR ?_;refine C 2 V ?_;obtain rfl:=oi en;exact cV (Le.refl _) cQ V
     ·refine DX 35 dB (λeo ep=>?_) (λeo er=>?_)
      ·refine C 5 V ?_;obtain rfl:=oi ep;exact cR (Le.refl _) cO V
      ·refine BK 1 (ac.Ah (Z.trans ag)) Tryz.underlying42 Ax AR ?_;refine C 3 V ?_;obtain rfl:=oi er;exact cR (Le.refl _) cO V
    ·refine DX 29 dy (λet eu=>?_) (λet ew=>?_)
     ·refine C 5 V ?_;obtain rfl:=oi eu;exact cP (Le.refl _) cK V
     ·refine BK 0 (ac.Ah Z) Tryz.underlying42 Ax AR ?_;refine C 3 V ?_;obtain rfl:=oi ew;exact cP (Le.refl _) cK V
   ·refine Il 24 dv (λex ey=>?_) (λex ez=>?_)
    ·refine C 4 V ?_;obtain rfl:=oi ey;exact cM (Le.refl _) cJ V
    ·refine BK 1 ac Tryz.underlying42 Ax AR ?_;refine C 2 V ?_;obtain rfl:=oi ez;exact cM (Le.refl _) cJ V
  ·refine JL.exit V ?_;obtain rfl:=oi dk;have eA:ci=(Sum.inr O.1):=(cw _ be).symm;exact AA (dg _ _ ⟨O.1,a9,aw,al,a0,eA,V,V,bb,cp,ct⟩) V
def P6(fu_:Nat):Option (Bool):=
 some false
theorem Zd{O:Value}{fu_:Nat}{r:Bool}(K:P6 fu_=some r):AL J 89 [.nilIface,O] E [] (λw E' B'=>w= .bool r/\B'= []):=by
 refine Bg Tryz.func89 λQ Z cs H U Y=>?_;unfold P6 at K;refine C 8 V ?_;refine Am (v:= .bool true) V (λρ h=>Q1 Tryz.underlying88 (show Lo 0 .nilIface none from V) (h _ _ V) (h _ _ V)) (C 6 V ?_);obtain rfl:=oi K;exact AS Tryz.func89 V V (Y (Le.refl _) V ⟨V,V⟩ U)
def N6(fu_:Nat):Option (Int):=
 (P6 fu_).bind λK=>
 if K=true then(
  some 0
 ) else(
  some 0
 )
theorem ZN{fu_:Nat}{r:Int}(O:N6 fu_=some r):AL J 58 [.nilIface] E [] (λw E' B'=>w=iV r/\B'= []):=by
 refine Bg Tryz.func58 λQ a1 cs H Z U=>?_;unfold N6 at O;refine C 6 V (BM Z KJ λr1 ac=>?_);refine C 5 V (Am (v:=(.iface 130 (.pointer (some ⟨r1,0,none⟩)))) V (λρ h=>IY Tryz.underlying130 (λ_ h=>by cases h) (h _ _ V)) ?_);obtain⟨a2,ag,al⟩:=bs O;refine Cj (Zd ag) V V (A0 Tryz.func89 V) ac λa3 Y K=>JL.done (Cn al (λam ap=>?_) (λam aq=>?_))
 ·refine C 2 V (JL.fd Tryz.underlying128 (AN Tryz.type30) V V V ?_);refine Am (v:=iV 0) V (λρ h=>Yl.load (Cu Tryz.underlying30) (h _ _ V) (BR (j:=1) (off:=0) K V V)) (C 2 V ?_);refine JS.drop 1 K V λaw=>?_;obtain rfl:=oi ap;exact AS Tryz.func58 V V (U Y V ⟨V,V⟩ aw)
 ·refine C 5 V (JS.drop 1 K V λa0=>?_);obtain rfl:=oi aq;exact AS Tryz.func58 V V (U Y V ⟨V,V⟩ a0)
open Go.Extern
def PK(b:Frame)(n:Nat):Nat->Li_->Env->Li_×Env
 | 0,k,L=>(k,L)
 | m+1,k,L=>match NX b n L k with
  | some (k',L')=>PK b n m k' L'
  | none=>(k,L)
theorem zm{P:Program}{J:Judge P}{Q:Gs_}{b:Frame}{n:Nat}{ds:Ld_}{cs:Lf_}{s:St}:∀(m:Nat) {L L':Env} {k k':Li_},PK b n m k L=(k',L')->JL J Q b n L' ds k' cs s->JL J Q b n L ds k cs s
 | 0,L,L',k,k',h,K=>by cases h;exact K
 | m+1,L,L',k,k',h,K=>by
  unfold PK at h
  split at h
  ·rename_i e;exact Tv e (zm m h K)
  ·cases h;exact K
theorem Ru{E H:LH}{S:List Seg}{r:Nat}{o:Obj}(K:Aq E H S)(O:(Aj E H S).E r=none)(U:(Aj E H S).H r=none):Aq E H (S++ [[(r,o)]])/\(Aj E H S).upd r o=Aj E H (S++ [[(r,o)]]):=by
 obtain⟨a,b⟩:=Jz O U o K;obtain⟨c,d⟩:=Fp a;exact⟨d,b.trans c⟩
theorem YY{s:St}{X:Halt->St->Prop}{Q:Value->St->Prop}{o:Operand}(p:Addr):lp Tryz.prog (do eqGuard .eql 20 o (.const .nilIface) (.iface 130 (.pointer (some p))) .nilIface;binOp .eql 20 (.iface 130 (.pointer (some p))) .nilIface) s Q X=Q (.bool false) s:=by kernel_rfl
theorem W4{s:St}{ρ:Operand->Value}{d:Option Tmp}{x:Operand}{u ty:TypeId}{p:String}{af:Ae_}{g:On_}{a:Addr}(K:ρ x= .iface 130 (.pointer (some a)))(O:ρ (.const .nilIface)= .nilIface):Yl Tryz.prog ⟨d,.binOp .eql 20 x (.const .nilIface) u,ty,p,af,g⟩ ρ s (.bool false):=by
 refine Fo (sm:=do eqGuard .eql 20 x (.const .nilIface) (ρ x) (ρ (.const .nilIface));binOp .eql 20 (ρ x) (ρ (.const .nilIface))) V ?_
 rw [K,O];exact(YY a).mpr ⟨V,V⟩
theorem Us(z:Sem Value)(f:TypeId->Addr->Nat->Nat->Sem Value)(v:Value):ReflectliteValue.method z f #[v]=Sem.bind (ReflectliteValue.parts v) (λx=>match x with | none=>z | some (t,a,K)=>f t a K (K % 32)):=rfl
theorem Wm{s:St}{X:Halt->St->Prop}{Q:Value->St->Prop}(a p:Addr)(K:s.cell? a=some (.pointer (some p)))(h:Q (.bool false) s):lp Tryz.prog (ReflectliteValue.method (ReflectliteValue.valueError "reflectlite.Value.IsNil" 0) ReflectliteValue.isNil #[.agg #[EY 130,.pointer (some a),.int .u64 150]]) s Q X:=by
 rw [Us];refine As (x:=ReflectliteValue.parts _) _ ((Re a).mpr ?_);show lp Tryz.prog (Sem.bind (loadVar 130 a) _) s Q X;exact As (x:=loadVar 130 a) _ ((Rj a).mpr ⟨V,_,K,h⟩)
theorem Wg{s:St}{X:Halt->St->Prop}{Q:Value->St->Prop}(a p:Addr)(K:s.cell? a=some (.pointer (some p)))(h:Q (.agg #[EY 128,.pointer (some p),.int .u64 409]) s):lp Tryz.prog (ReflectliteValue.method (ReflectliteValue.valueError "reflectlite.Value.Elem" 0) ReflectliteValue.elem #[.agg #[EY 130,.pointer (some a),.int .u64 150]]) s Q X:=by
 rw [Us];refine As (x:=ReflectliteValue.parts _) _ ((Re a).mpr ?_);show lp Tryz.prog (Sem.bind (loadVar 130 a) _) s Q X;refine As (x:=loadVar 130 a) _ ((Rj a).mpr ⟨V,_,K,?_⟩);refine As (x:=Rtype.elem? 130) _ (YG.mpr ?_);exact(Z6 p).mpr h
theorem cE(v x:Value):ReflectliteValue.set #[v,x]=(do
  let (some (dst,a,K),some (src,b,_)):=(← ReflectliteValue.parts v,← ReflectliteValue.parts x)
   | unsupported (.noEntry "extern/(internal/reflectlite.Value).Set.zeroValue")
  if K / ReflectliteValue.flagAddr % 2==0 then unsupported (.noEntry "extern/(internal/reflectlite.Value).Set.unaddressable")
  let val ← loadVar src b
  if ← Rtype.directlyAssignable dst src then storeVar dst a val
  else if ← Rtype.implements dst src then
   if(← Rtype.kind src)==20 then
    match val with
    | .nilIface=>unsupported (.noEntry "extern/reflectlite: a nil value of one interface type handed on as a value of another")
    | _=>storeVar dst a val
   else storeVar dst a (.iface src val)
  else panicString ("reflectlite.Set: value of type " ++(← Rtype.spelt src)++ " is not assignable to type " ++(← Rtype.spelt dst))
  pure (.tuple #[])):=rfl
theorem Yk{E H:LH}{S:List Seg}{X:Halt->St->Prop}{Q:Value->St->Prop}{bk r:Nat}{u:Value}{c:Int}(j:Nat)(U:Aq E H S)(K:S[j]? =some [(bk,.cells #[u] 128 (0,0))])(Y:At E r 0 [iV c])(h:Aq E H (S.set j [(bk,.cells #[iV c] 128 (0,0))])->Q (.tuple #[]) (Aj E H (S.set j [(bk,.cells #[iV c] 128 (0,0))]))):
  lp Tryz.prog (ReflectliteValue.set #[.agg #[EY 128,.pointer (some ⟨bk,0,none⟩),.int .u64 409],.agg #[EY 128,.pointer (some ⟨r,0,none⟩),.int .u64 153]]) (Aj E H S) Q X:=by
 rw [cE];refine As (x:=ReflectliteValue.parts _) _ ((VA _).mpr ?_);refine As (x:=ReflectliteValue.parts _) _ ((V1 _).mpr ?_);refine As (x:=loadVar 128 _) _ ((Xw _).mpr ⟨V,_,At.Je (j:=0) Y V,?_⟩);refine As (x:=Rtype.directlyAssignable 128 128) _ (YV.mpr ?_);refine As (x:=storeVar 128 _ _) _ ?_;obtain⟨Z,ac⟩:=GL U K;rw [Z];refine Ou (pl:=(S.set j []).flatten.length) (AN Tryz.type128) (by simp [Value.cells,CJ]) ac (c:= #[u]) (e:=128) (by simp) (by simp [Value.cells]) λO=>?_;have ag:((S.set j []).flatten++ [(bk,Obj.cells #[u] 128 (0,0))]).set (S.set j []).flatten.length (bk,.cells (A4 #[u] 0 (Value.agg #[iV c]).cells.toList) 128 (0,0))=(S.set j []).flatten++ [(bk,.cells #[iV c] 128 (0,0))]:=IB _ _ _ _;rw [ag] at O ⊢;obtain⟨al,am⟩:=IF (seg':= [(bk,.cells #[iV c] 128 (0,0))]) K O;rw [al];exact h am
variable {J:Judge Tryz.prog}
theorem cd{c:Int}{bk r:Nat}{u:Value}(O:At E r 0 [.pointer (some ⟨bk,0,none⟩)]):AL J 119 [.iface 128 (.agg #[iV c]),.iface 130 (.pointer (some ⟨bk,0,none⟩)),.agg #[EY 130,.pointer (some ⟨r,0,none⟩),.int .u64 150],Jj 128] E [(bk,.cells #[u] 128 (0,0))] (λv E' B'=>v= .bool true/\B'= [(bk,.cells #[iV c] 128 (0,0))]):=by
 refine K7 Tryz.func119 V V λQ a3 cs H U Y=>zm 60 V (JS.box (v:= .agg #[EY 130,.pointer (some ⟨r,0,none⟩),.int .u64 150]) V V V U V λr2 Z=>?_);refine CF 1 Z V λa4 K ac ag=>zm 60 V (H7 ?_);refine zm 60 V (Kq ZV V V V V ?_);refine(Vd _).mpr ?_;refine zm 60 V (L5 ZF (b8 _) V V V V V ?_);refine X9.mpr (zm 60 V ?_);refine BX ac Mw Lx V V (Kq Y4 V V V V ?_);refine Wg ⟨r,0,none⟩ ⟨bk,0,none⟩ (At.Je (j:=0) (O.Ah K) V) (zm 60 V ?_);refine Kq S8 V V V V ?_;refine(U6 c).mpr ⟨V,λr3 al am=>?_⟩;obtain⟨ap,aq⟩:=Ru (o:= .cells #[iV c] 128 (0,0)) ag al am;rw [aq];refine CF 2 ap V λa5 aw a0 a1=>Kq ZJ V V V V (Yk 0 a1 V a0 λa2=>?_);refine zm 60 V (AS Tryz.func119 V V ?_);exact Y _ _ _ _ (K.trans aw) V ⟨V,V⟩ a2
theorem aT{c:Int}{bk:Nat}{u:Value}(Z:At E 0 0 [Jj 88]):AL J 89 [.iface 128 (.agg #[iV c]),.iface 130 (.pointer (some ⟨bk,0,none⟩))] E [(bk,.cells #[u] 128 (0,0))] (λv E' B'=>v= .bool true/\B'= [(bk,.cells #[iV c] 128 (0,0))]):=by
 refine K7 Tryz.func89 V V λQ a5 cs H ac ag=>zm 60 V ?_;refine Am (v:= .bool false) V (λρ h=>Q1 Tryz.underlying88 (show Lo 128 (.iface 128 (.agg #[iV c])) (some c) from V) (h _ _ V) (h _ _ V)) (zm 60 V ?_);refine Am V (λρ h=>W4 (h _ _ V) (h _ _ V)) (zm 60 V ?_);refine Kq S8 V V V V ?_;refine(U1 _).mpr ⟨V,λr al am=>?_⟩;obtain⟨ap,aq⟩:=Ru (o:= .cells #[.pointer (some ⟨bk,0,none⟩)] 130 (0,0)) ac al am;rw [aq];refine JS.alloc V V V ap (Db Tryz.type177) λr2 aw=>TT (v:= .agg #[EY 130,.pointer (some ⟨r,0,none⟩),.int .u64 150]) (off:=0) 2 aw Lx V V V V λa0=>zm 60 V (CF 1 a0 V λa6 U Y a1=>?_);refine CF 2 a1 V λa7 K O a2=>BX O Mw Lx V V (Kq Za V V V V ?_);refine(XA _).mpr ?_;refine zm 60 V (L5 SZ (Ty _) V V V V V ?_);refine W7.mpr (zm 60 V ?_);refine BX (O) Mw Lx V V (Kq ak V V V V ?_);refine Wm ⟨r,0,none⟩ ⟨bk,0,none⟩ (At.Je (j:=0) (Y.Ah K) V) (zm 60 V ?_);refine L5 Zz (Zh _) V V V V V (Xx.mpr ?_);refine zm 60 V (L5 SZ (Ty _) V V V V V ?_);refine Xo.mpr (zm 60 V ?_);refine CY 0 (Z.Ah (U.trans K)) (Cu Tryz.underlying180) V V V (L5 ZL (aI _) V V V V V ?_);refine WQ.mpr (zm 60 V ?_);refine Am (v:= .bool (!true)) V (λρ h=>Yl.not (h _ _ V)) (zm 60 V ?_);refine BX (O) Mw Lx V V (zm 60 V ?_);refine B9 0 (cd (Y.Ah K)) V V (A0 Tryz.func119 V) a2 V ?_;rintro _ a8 _ a3 ⟨rfl,rfl⟩ a4;refine zm 60 V (AS Tryz.func89 V V ?_);exact ag _ _ _ _ ((U.trans K).trans a3) V ⟨V,V⟩ a4
theorem W6{c:Int}(K:At E 0 0 [Jj 88]):AL J 58 [.iface 128 (.agg #[iV c])] E [] (λv E' B'=>v=iV c/\B'= []):=by
 refine K7 Tryz.func58 V V λQ ap cs H O U=>zm 60 V (JS.alloc V V V O KJ λr1 Y=>?_);refine zm 60 V (Am V (λρ h=>IY Tryz.underlying130 (λms e=>by cases e) (h _ _ V)) ?_);refine B9 1 (aT (u:=iV 0) K) V V (A0 Tryz.func89 V) Y V ?_;rintro _ aq _ Z ⟨rfl,rfl⟩ ac;refine CF 1 ac V λaw ag al am=>zm 60 V (JL.fd Tryz.underlying128 (AN Tryz.type30) V V V ?_);refine CY 0 al (Cu Tryz.underlying30) V V V (zm 60 V ?_);exact AS Tryz.func58 V V (U _ _ _ _ (Z.trans ag) V ⟨V,V⟩ am)
abbrev GE(E:LH):Prop:=At E 0 0 [Jj 88]
def T4(fuel:Nat)(p0:Option Int):Option Int:=match p0 with
 | none=>N6 fuel
 | some q=>some q
theorem Yg{v:Value}{p0:Option Int}(O:GE E)(h:Lo 128 v p0){fuel:Nat}{r:Int}(K:T4 fuel p0=some r):AL J 58 [v] E [] (λw E' B'=>w=iV r/\B'= []):=by
 match p0,h with
 | none,h=>obtain rfl:v= .nilIface:=h;exact ZN K
 | some c,h=>
  obtain rfl:v= .iface 128 (.agg #[iV c]):=h;cases K;exact W6 O
end Pal
namespace Pal
open Go Go.Conc Go.Proofs Go.ChangeShapes Go.WideShapes Go.ChangeAt Go.RowKit
open Go.Proofs.YtmeophcclkejkaaGreatDoor
theorem Tryz.own:ownKnob Tryz.prog.godebug=none:=by kernel_rfl
theorem Tryz.laidOut:laidOutB Tryz.prog=true:=by kernel_rfl
theorem Tryz.Z9:Tryz.prog.cellsOf 3=1:=by kernel_rfl
theorem U7{R:Value->St->Prop}{W w':World}{v:Value}(h:After Tryz.prog R W (Gi W) v w'):(∃s,R v s)/\Below W.heap.size W {w' with os:=W.os}/\Go.ConcM.OsLater W.os w'.os:=by
 obtain⟨s,Y,Z,ac,ag,al,am⟩:=h;have hb:∀k,k<W.heap.size->w'.heap[k]? =W.heap[k]? :=λk O=>by
  have K:(Gi W).E k=some W.heap[k]:=Array.getElem?_eq_getElem O;have U:=Z.e k _ (ac k _ K);rw [U,Array.getElem?_eq_getElem O]
 refine⟨⟨s,Y⟩,⟨V,ag,am,?_,hb⟩,al⟩;show W.heap.size<=w'.heap.size;rcases Nat.eq_zero_or_pos W.heap.size with ap | ap
 ·omega
 ·have K:=hb (W.heap.size - 1) (by omega);have aq:W.heap[W.heap.size - 1]? =some W.heap[W.heap.size - 1]:=Array.getElem?_eq_getElem (by omega);rw [aq] at K;have U:=(Array.getElem?_eq_some_iff.1 K).1;omega
theorem Q3(a:Addr):a.add 0=a:=by unfold Addr.add;rw [if_pos rfl]
variable {H:Type}{enc:TypeId×Value->H}{W:World}{fuel:Nat}{cs:Lv_}{x:DataW H×List MemPlace}
theorem XD{b off:Nat}{v:Value}(h:W.cell? ⟨b,off,none⟩=some v):At (Gi W).E b off [v]:=by
 unfold World.cell? at h;split at h
 ·rename_i c e f hW;simp only [Option.isSome_none,Bool.false_eq_true,if_false] at h;refine⟨c,e,f,hW,λj w K=>?_⟩
  match j,K with
  | 0,K=>simp at K;subst K;simpa using h
  | j+1,K=>simp at K
 ·cases h
theorem Wq{b off:Nat}(O:0<cs.length)(h:∀j,j<cs.length->W.cell? ⟨b,off+j,none⟩=cs[j]?):At (Gi W).E b off cs:=by
 have U:=h 0 O;rw [List.getElem?_eq_getElem O] at U;obtain⟨f,e,fr,Y,_⟩:=XD U;have hW:W.heap[b]? =some (.cells f e fr):=Y;refine⟨f,e,fr,Y,λj w Z=>?_⟩;have ac:=(List.getElem?_eq_some_iff.1 Z).1;have K:=h j ac;rw [Z] at K;unfold World.cell? at K;simp only [hW] at K;simpa using K
theorem ZI{α:Type}{p:Rp α}{t e:TypeId}(a4:Tryz.prog.underlying t=some (.slice e))(a5:Tryz.prog.cellsOf e=p.n)(a6:0<p.n)
  (a7:∀n cs x,DataW.trod enc Tryz.prog W 0 (λ_=>true) true n e cs=some x->∃v,p.r (Gi W).E cs v)
  (a8:DataW.trod enc Tryz.prog W 0 (λ_=>true) true fuel t cs=some x):∃(a:Option Addr) (c:Nat) (aq:List α),cs= [.slice a aq.length c]/\Al p (Gi W).E a c aq:=by
 rcases DataW.trod_slice a4 a8 with⟨ac,a9⟩ | ⟨a,len,cap,elems,rest,n,_,ac,a9,_,bb,_,hlen,aw,a0,_⟩
 ·exact⟨none,0,[],ac,Al.nil⟩
 ·rw [a5] at aw a0;rcases Nat.eq_zero_or_pos cap with a1 | a1
  ·have:len=0:=by omega
   subst this;subst a1;exact⟨some a,0,[],ac,Nat.le_refl _,.inl ⟨V,λ_ _=> .inr V⟩⟩
  ·have a2:∀i,i<len->∃vs y,vs.length=p.n/\(∀j,j<p.n->W.cell? ((a.add (i*p.n)).add j)=vs[j]?)/\DataW.trod enc Tryz.prog W 0 (λ_=>true) true n e vs=some y:=λi hi=>by
    have K:=aw i hi;rw [List.getElem?_eq_getElem (by omega)] at K;obtain⟨vs,al,Y⟩:=Option.bind_eq_some_iff.1 K;obtain⟨_,O,am⟩:=World.cells?_some al;exact⟨vs,_,O,am,Y⟩
   have ap:a.spot=none:=by
    have key:∀vs:Lv_,vs.length=p.n->(∀j,j<p.n->W.cell? ((a.add (0*p.n)).add j)=vs[j]?)->a.spot=none:=λvs ag U=>by
     have:=U 0 a6;rw [List.getElem?_eq_getElem (by omega),Q3,Nat.zero_mul,Q3] at this;exact World.cell?_spot this
    rcases Nat.eq_zero_or_pos len with K | K
    ·obtain⟨al,Y⟩:=a0 V;have O:=Y 0 (by omega);rw [List.getElem?_eq_getElem (by omega)] at O;obtain⟨vs,am,_⟩:=Option.bind_eq_some_iff.1 O;obtain⟨_,ag,U⟩:=World.cells?_some am;rw [K] at U;exact key vs ag U
    ·obtain⟨vs,y,ag,U,_⟩:=a2 0 K;exact key vs ag U
   have a3:∀i:Fin len,∃z:α,∃vs,p.r (Gi W).E vs z/\At (Gi W).E a.block (a.off+i*p.n) vs:=λi=>by
    obtain⟨vs,y,al,Y,O⟩:=a2 i i.2;obtain⟨z,Z⟩:=a7 _ _ _ O;refine⟨z,vs,Z,Wq (by omega) λj be=>?_⟩;have:=Y j (by omega);rw [Dw ap,Dw rfl] at this;exact this
   refine⟨some a,cap,List.ofFn λi=>Classical.choose (a3 i),by simpa using ac,by simpa using bb,.inr ⟨a.block,a.off,?_,λi z Z=>?_⟩⟩
   ·obtain⟨b,o,s⟩:=a;simp only at ap;subst ap;rfl
   ·have hi:i<len:=by have:=(List.getElem?_eq_some_iff.1 Z).1;simpa using this
    simp [hi] at Z;have:=Classical.choose_spec (a3 ⟨i,hi⟩);rw [Z] at this;exact this
theorem XM(h:DataW.trod enc Tryz.prog W 0 (λ_=>true) true fuel 3 cs=some x):∃z:Int,cs= [iV z]:=by
 obtain⟨n1,K,_⟩:=DataW.trod_int Tryz.underlying3 h;exact⟨n1,K⟩
theorem WT(O:DataW.trod enc Tryz.prog W 0 (λ_=>true) true fuel 22 cs=some x):∃(a:Option Addr) (c:Nat) (K:List Int),cs= [.slice a K.length c]/\Al rI (Gi W).E a c K:=
 ZI (p:=rI) Tryz.underlying22 Tryz.Z9 Nat.one_pos (λn cs x h=>by
  obtain⟨z,rfl⟩:=XM h
  exact⟨z,rfl⟩) O
theorem WZ{v:Value}{O:Nat}{d:DataW H}{p:List MemPlace}(U:Value.okWide Tryz.prog W .any O 22 v)(hd:DataW.Trod enc Tryz.prog W 0 (λ_=>true) true 22 v d p):
  ∃(a:Option Addr) (c:Nat) (K:List Int),v= .slice a K.length c/\Al rI (Gi W).E a c K:=by
 obtain⟨Z,len,cap,rfl⟩:=okWide_slice Tryz.underlying22 U;obtain⟨fuel,Y⟩:=hd;obtain⟨a,c,K,e,g⟩:=WT Y;simp [Value.cells] at e;obtain⟨rfl,rfl,rfl⟩:=e;exact⟨_,_,_,V,g⟩
noncomputable def QX(os:Os):World:=
 let w0:=World.holding Tryz.prog os ⟨#[],#[],[]⟩
 {w0 with heap:=w0.heap.modify 0 fun
   | .cells _ t frozen=> .cells #[.iface 222 (.agg #[.pointer (some ⟨1,88,none⟩)])] t frozen
   | o=>o}
theorem UM(os:Os)(args:Av_):laidMetH Tryz.prog [("errors.errorType",Rows.laid_errors_errorType)] ((QX os).forCall (λ_ _=>0) ⟨#[],args,[]⟩).memory:=
 laidMetH_of_parts (laidMet_nil _ _) (by kernel_rfl)
theorem Tryz.YC:Tryz.prog.globalNamed "errors.errorType" =some 0:=by kernel_rfl
theorem Tryz.aa:(Tryz.prog.cutTypes.find? (·.1== "internal/reflectlite.rtype")).map (·.2)=some 222:=by kernel_rfl
theorem Tryz.XN:Tryz.prog.globals.size=1:=by kernel_rfl
theorem Tryz.Z5:(List.range Tryz.prog.types.size).all (λt=> !Tryz.prog.rowNamed t [101,114,114,111,114] || t==88)=true:=by kernel_rfl
theorem Yc{W:World}(h:laidMetH Tryz.prog [("errors.errorType",Rows.laid_errors_errorType)] W.memory):GE (Gi W).E:=by
 have U:=h.2 _ (List.mem_cons_self ..);obtain⟨name,u,ty,Y,Z,ac,ag,K⟩:=U;have al:name= [101,114,114,111,114]:=(Option.some.inj Y).symm;have e2:u=222:=Option.some.inj (Z.symm.trans Tryz.aa);subst al;subst e2;have am:ty=88:=by
  have:=List.all_eq_true.1 Tryz.Z5 ty (List.mem_range.2 ac);rw [ag] at this;simpa using this
 subst am;unfold World.var? at K;rw [Tryz.YC] at K;simp only [Option.bind_some] at K;split at K
 ·rename_i c e f hW;simp only [Option.some.injEq] at K;subst K;refine⟨_,e,f,hW,λj w O=>?_⟩;have ap:typeHandle Tryz.prog 88= .pointer (some ⟨1,88,none⟩):=by unfold typeHandle;rw [Tryz.XN]
  rw [ap]
  match j,O with
  | 0,O=>simp at O;subst O;rfl
  | j+1,O=>simp at O
 ·cases K
theorem UQ{H:Type}{enc:TypeId×Value->H}{C:Checked}{os:Os}{f:FuncId}{fn:Func}{s:ChangeSpec}{conds:List PathCond}{apart:Bool}{X:World->Av_->Prop}(w0:World)(args:Av_)(fuel:Nat)(O:w0.os=os)
  (U:(w0.forCall (λ_ _=>0) ⟨#[],args,[]⟩).variablesB C.prog=true)
  (Y:((w0.forCall (λ_ _=>0) ⟨#[],args,[]⟩).heap.toList.drop C.prog.globals.size).take ((begin C.prog (λ_ _=>0) default).world.heap.size - C.prog.globals.size)=
   (begin C.prog (λ_ _=>0) default).world.heap.toList.drop C.prog.globals.size)
  (K:Input.okWideB C.prog (w0.forCall (λ_ _=>0) ⟨#[],args,[]⟩) f ⟨#[],args,[]⟩=true)
  (Z:s.preB enc C.prog fn conds apart (w0.forCall (λ_ _=>0) ⟨#[],args,[]⟩).memory args fuel=true)
  (ac:s.sizedB enc C.prog fn apart (w0.forCall (λ_ _=>0) ⟨#[],args,[]⟩).memory args fuel=true)
  (ag:X (w0.forCall (λ_ _=>0) ⟨#[],args,[]⟩).memory args):
  ∃(w:World) (tape:Tape) (i:Input),w.os=os/\(w.forCall tape i).Shaped C.prog/\i.vars= []/\Input.okWide C.prog (w.forCall tape i) .any w.heap.size f i/\
   ((s.pre enc C.prog fn conds apart (w.forCall tape i).memory i.args/\X (w.forCall tape i).memory i.args)/\sizedMet enc C.prog fn (OpenSpec.ofChange s) apart (w.forCall tape i).memory i.args)/\({calm:=true}:Assume).holds C.prog (Go.lone (Frame.enter C.prog f i.args .normal) [] (w.forCall tape i)):=
 ⟨w0,λ_ _=>0,⟨#[],args,[]⟩,O,World.shaped_of_B U Y,(Input.okWide_of_okWideB (base:=0) K).1,(Input.okWide_of_okWideB K).2,⟨⟨ChangeSpec.pre_of_preB Z,ag⟩,sizedMet_of_sizedB ac⟩,by
  simp only [Assume.holds]
  exact⟨by simp,λ_ _ _ _=>rfl,by simp,by simp,by simp⟩⟩
end Pal
namespace Pal
open Go Go.Conc Go.Proofs
open Go.Proofs.Tryz
variable {E:LH}
variable {J:Judge Tryz.prog}
variable {J:Judge Tryz.prog}
def N2(fu_:Nat)(p0:Aw):Option (Aw):= (Dy ([]:Aw) p0).bind λK=> some K
theorem Zg{a1:Ao}{c2:Nat}{p0:Aw}(Y:Al Ay E a1 c2 p0){fu_:Nat}{r:Aw}(K:N2 fu_ p0=some r):AL J 19 [sV a1 p0 c2] E [] (λw E' B'=>∃(O:Ao) (U:Nat) (g0:Seg),w= sV O r U/\B'=g0/\OL 42 Ay E' O U g0 r):=by
 refine Bg func19 λQ a4 cs H Z ac=>?_;unfold N2 at K;refine C 6 V (O6 (pp:=Ay) V V V underlying26 A9 Z λa5 a6 ag al=>?_);obtain⟨a7,am,ap⟩:=bs K;refine C 1 V (I5 (pp:=Ay) 1 am V V V V V V V underlying26 underlying26 A9 (CX type42) Bx V (by decide) (by decide) ag Y al V λaq aw a0 a2 a3=>?_);refine C 2 V ?_;obtain rfl:=oi ap;exact AS func19 V V (ac AF V ⟨aq,aw,a0,V,(by first | rfl | simp | (simp [Value.cells])),a2⟩ a3)
variable {J:Judge Tryz.prog}
variable {J:Judge Tryz.prog}
end Pal
namespace Pal
open Go Go.Conc
variable {P:Program}{Q:Gs_}{b:Frame}{n:Nat}{ds:Ld_}{ops:Ao_}{k:Li_}{cs:Lf_}{fuel:Nat}{D:Nat->Bool}{listed:Array Bool}{L:Env}{s:St}{E E' H:LH}{S:List Seg}
variable {x y:Operand}{t u ty e:TypeId}{p:String}{af:Ae_}{g:On_}{v:Value}{i:Nat}{kd:IntKind}
section
variable {J:Judge P}{m:Nat}
variable {d:Option Tmp}
end
open Go.Proofs Go.Proofs.Tryz
variable {J:Judge Tryz.prog}
end Pal
namespace Pal
open Go Go.Conc
variable {P:Program}{x:Operand}{t u ty e:TypeId}{p:String}{af:Ae_}{g:On_}{s:St}{ρ:Operand->Value}
section
variable {d:Option Tmp}
end
open Go.Proofs Go.Proofs.Tryz
variable {E:LH}
variable {J:Judge Tryz.prog}
variable {J:Judge Tryz.prog}
def Nq(fu_:Nat)(Z:Int)(K:(List Int)×Int×Nat×(List Int)×Int):Option (Bm ((List Int)×Int×Nat×(List Int)×Int) ((List Int)×B2)):= if K.2.2.2.2<Z then((f36 fu_ (K.1,K.2.1,K.2.2.1) K.2.2.2.2).bind λO=> (room K.2.2.2.1 K.2.2.2.2).bind λU=> (ix U O.1).bind λY=> (ix U K.2.2.2.2).bind λag=> (ix (U.set (Int.toNat K.2.2.2.2) Y) O.1).bind λal=> (Av (K.2.2.2.2+1)).bind λac=> some (.more (O.2.1,O.2.2.1,O.2.2.2,((U.set (Int.toNat K.2.2.2.2) Y).set (Int.toNat O.1) K.2.2.2.2),ac))) else(some (.done (K.2.2.2.1,K.1,K.2.1,K.2.2.1)))
def f49(fu_:Nat)(p0:B2)(K:Int):Option ((List Int)×(B2)):= Option.bind (iter (Nq fu_ K) fu_ (p0.1,p0.2.1,p0.2.2,[],0)) λO=> some O
theorem T2{bk:Nat}{a1:Ao}{c2:Nat}{p0:B2}{ag:Int}(cJ:Al rI E a1 c2 p0.1){fu_:Nat}{r:(List Int)×(B2)}(bv:f49 fu_ p0 ag=some r):AL J 57 [Ak bk 0,iV ag] E [(bk,.cells #[sV a1 p0.1 c2,iV p0.2.1,.int .u64 ((p0.2.2:Nat):Int)] 74 (0,0))] (λw E' B'=>∃(bw:Ao) (b0:Nat) (b1:Ao) (b2:Nat),w= sV bw r.1 b0/\B'= [(bk,.cells #[sV b1 r.2.1 b2,iV r.2.2.1,.int .u64 ((r.2.2.2:Nat):Int)] 74 (0,0))]/\Al rI E' bw b0 r.1/\Al rI E' b1 b2 r.2.1):=by
 refine Bg func57 λQ dD cs H cK cM=>?_;unfold f49 at bv;obtain⟨al,cO,cP⟩:=bs bv;refine C 13 V (Br (λL s=>∃(a2:LH) (a3:Ao) (a4:Nat) (bb:Seg) (a5:Ao) (a6:Nat),Jn E H a2 [bX bk #[sV a5 al.2.1 a6,iV al.2.2.1,.int .u64 ((al.2.2.2:Nat):Int)] 74,bb] [(5,sV a3 al.1 a4)] L s (OL 3 rI a2 a3 a4 bb al.1/\Al rI a2 a5 a6 al.2.1)) ?_ ?_)
 ·rintro _ _ ⟨a2,a3,a4,bb,a5,a6,rfl,rfl,cQ,cR,cT,cV⟩;refine C 5 V (B6 1 cT cR V λdE b3 cW cX=>?_);obtain rfl:=oi cP;exact AS func57 V V (cM (cQ.Ad b3) V ⟨a3,a4,a5,a6,V,V,cW,(cV.Ah b3)⟩ cX)
 ·intro cY;refine JL.block (Cl cO (λL s K=>∃(am:LH) (a7:Ao) (a8:Nat) (ap:Ao) (aq:Nat) (a9:Seg),Jn E H am [bX bk #[sV a7 K.1 a8,iV K.2.1,.int .u64 ((K.2.2.1:Nat):Int)] 74,a9] [(0,Ak bk 0),(1,iV ag),(5,sV ap K.2.2.2.1 aq),(6,iV K.2.2.2.2)] L s (Al rI am a7 a8 K.1/\OL 3 rI am ap aq a9 K.2.2.2.1)) ⟨E,a1,c2,none,0,[],V,V,AF,cK,cJ,OL.nil⟩ ?_);rintro _ _ K ⟨am,a7,a8,ap,aq,a9,rfl,rfl,b4,b5,b6,ca⟩ cZ ⟨dF,be⟩ c0;have cc:=be;unfold Nq at cc;refine C 7 V (AV cc (λc1 c3=>?_) (λc1 c4=>?_))
  ·obtain⟨U,c5,c6⟩:=bs c3;refine C 7 V (B9 0 (JN b6 c5) V V Jq b5 V ?_);rintro _ c7 _ ce ⟨c8,c9,rfl,rfl,da⟩ db;obtain⟨Y,dc,dd⟩:=bs c6;refine C 6 V (JS.app (pp:=rI) (v:=iV K.2.2.2.2) (a:=ap) (c:=aq) 1 dc V V V V (λ_=>V) V (λ_=>V) V V V underlying22 underlying22 underlying22 Ax (CX type3) Ct V (by decide) (by decide) (by decide) (by decide) (ca.Ah ce) V db V λdG Z ac dH ci co=>?_);obtain⟨O,de,df⟩:=bs dd;refine C 9 V (I6 1 ci de V V V V V V underlying22 Ax ?_);rintro cp ct f77 _ dg rfl dh dI dJ dK dL;refine Am (v:=iV O) V (λρ h=>Yl.load AR (h _ _ V) (BR (j:=1) co dg (dh 0 _ V))) ?_;obtain⟨dM,di,dj⟩:=bs df;refine C 1 V (I6 1 ci di V V V V V V underlying22 Ax ?_);rintro cw bi f88 _ dk rfl dN dn dp dO dP;refine JS.store (v:=iV O) (off:=bi) 1 V V V co V V Ax (by simp [Value.cells,CJ]) dk (by have:=dn;simp only [Rp.n,rK,rN,rB,rP,rL] at this;show _+1<=_;omega) λdq=>?_;have dr:=dp O [iV O] V;have aw:(Y.set (Int.toNat K.2.2.2.2) O).length=Y.length:=List.length_set;refine DW (L':= [(0,Ak bk 0),(1,iV ag),(6,iV K.2.2.2.2),(8,iV K.2.2.2.2),(9,iV ag),(10,.bool (decide (K.2.2.2.2<ag))),(13,Ak bk 0),(14,iV K.2.2.2.2),(15,iV U.1),(7,iV U.1),(17,iV K.2.2.2.2),(19,.slice Z ((Y.set (Int.toNat K.2.2.2.2) O)).length ac),(5,.slice Z ((Y.set (Int.toNat K.2.2.2.2) O)).length ac),(20,.slice Z ((Y.set (Int.toNat K.2.2.2.2) O)).length ac),(21,iV K.2.2.2.2),(22,.slice Z ((Y.set (Int.toNat K.2.2.2.2) O)).length ac),(23,iV U.1),(24,.slice Z ((Y.set (Int.toNat K.2.2.2.2) O)).length ac),(25,iV U.1),(26,Ak cp ct),(27,iV O),(28,iV K.2.2.2.2),(29,Ak cw bi)]) ⟨V,V,V,V,V,V,V,V,V,V,V,by rw [aw];rfl,by rw [aw];rfl,by rw [aw];rfl,V,by rw [aw];rfl,V,by rw [aw];rfl,V,V,V,V,V,trivial⟩ ?_;obtain⟨dQ,dt,du⟩:=bs dj;refine I6 1 dr dt V V V V V V underlying22 Ax ?_;rintro cy bo f102 _ dv rfl dR dw dx dS dT;refine JS.store (v:=iV K.2.2.2.2) (off:=bo) 1 V V V dq V V Ax (by simp [Value.cells,CJ]) dv (by have:=dw;simp only [Rp.n,rK,rN,rB,rP,rL] at this;show _+1<=_;omega) λdy=>?_;have dz:=dx K.2.2.2.2 [iV K.2.2.2.2] V;have a0:((Y.set (Int.toNat K.2.2.2.2) O).set (Int.toNat U.1) K.2.2.2.2).length=((Y.set (Int.toNat K.2.2.2.2) O)).length:=List.length_set;refine DW (L':= [(0,Ak bk 0),(1,iV ag),(6,iV K.2.2.2.2),(8,iV K.2.2.2.2),(9,iV ag),(10,.bool (decide (K.2.2.2.2<ag))),(13,Ak bk 0),(14,iV K.2.2.2.2),(15,iV U.1),(7,iV U.1),(17,iV K.2.2.2.2),(19,.slice Z (((Y.set (Int.toNat K.2.2.2.2) O).set (Int.toNat U.1) K.2.2.2.2)).length ac),(5,.slice Z (((Y.set (Int.toNat K.2.2.2.2) O).set (Int.toNat U.1) K.2.2.2.2)).length ac),(20,.slice Z (((Y.set (Int.toNat K.2.2.2.2) O).set (Int.toNat U.1) K.2.2.2.2)).length ac),(21,iV K.2.2.2.2),(22,.slice Z (((Y.set (Int.toNat K.2.2.2.2) O).set (Int.toNat U.1) K.2.2.2.2)).length ac),(23,iV U.1),(24,.slice Z (((Y.set (Int.toNat K.2.2.2.2) O).set (Int.toNat U.1) K.2.2.2.2)).length ac),(25,iV U.1),(26,Ak cp ct),(27,iV O),(28,iV K.2.2.2.2),(29,Ak cw bi),(30,Ak cy bo)]) ⟨V,V,V,V,V,V,V,V,V,V,V,by rw [a0];rfl,by rw [a0];rfl,by rw [a0];rfl,V,by rw [a0];rfl,V,by rw [a0];rfl,V,V,V,V,V,V,trivial⟩ ?_;obtain⟨dA,dB,dC⟩:=bs du;refine C 4 V (Bo dB V V V ?_);refine C 2 V ?_;obtain rfl:=oi dC;exact AA (c0 _ _ (U.2.1,U.2.2.1,U.2.2.2,((Y.set (Int.toNat K.2.2.2.2) O).set (Int.toNat U.1) K.2.2.2.2),dA) ⟨c7,c8,c9,Z,ac,[(cy,.cells (A4 f102 bo [iV K.2.2.2.2]) 3 (0,0))],V,V,(b4.Ad ce),dy,da,dz⟩ be) V
  ·refine JL.exit V ?_;obtain rfl:=oi c4;obtain rfl:=cZ _ be;exact AA (cY _ _ ⟨am,ap,aq,a9,a7,a8,V,V,b4,b5,ca,b6⟩) V
end Pal
namespace Pal
def BT{α:Type}(o:Option α)(Q:α->Prop):Prop:=∃a,o=some a/\Q a
variable {α β:Type}{Q R:α->Prop}
theorem Bi{a:α}(h:Q a):BT (some a) Q:=⟨a,V,h⟩
theorem BT.Ah{o:Option α}(h:BT o R)(k:∀a,R a->Q a):BT o Q:=let ⟨a,K,O⟩:=h;⟨a,K,k a O⟩
theorem Cb{o:Option β}{f:β->Option α}{S:β->Prop}(h:BT o S)(k:∀b,S b->BT (f b) Q):BT (o.bind f) Q:=by
 obtain⟨b,rfl,hb⟩:=h;obtain⟨a,K,O⟩:=k b hb;exact⟨a,K,O⟩
theorem Bq{o:Option β}{f:β->Option α}{b:β}(h:o=some b)(k:BT (f b) Q):BT (o.bind f) Q:=by subst h;exact k
theorem BT.cD{f:Int->Option α}{x:Int}(K: -9223372036854775808<=x)(O:x<=9223372036854775807)(k:BT (f x) Q):BT ((Av x).bind f) Q:=Bq (if_pos ⟨K,O⟩) k
theorem Lf{xs:List β}{i:Int}{m:Nat}{b:β}(h:i=(m:Int))(hb:xs[m]? =some b):ix xs i=some b:=by subst h;simpa [ix] using hb
theorem EU{f:β->Option α}{xs:List β}{i:Int}{m:Nat}(h:i=(m:Int))(hm:m<xs.length)(k:BT (f xs[m]) Q):BT ((ix xs i).bind f) Q:=Bq (Lf h (List.getElem?_eq_getElem hm)) k
theorem KM{f:List β->Option α}{xs:List β}{x:β}(h:xs.length+1<=2 ^ 40)(k:BT (f (xs++ [x])) Q):BT ((room xs x).bind f) Q:=Bq (if_pos h) k
theorem GM{c:Prop} [Decidable c] {x y:Option α}(K:c->BT x Q)(O:¬c->BT y Q):BT (if c then x else y) Q:=by
 by_cases h:c
 ·rw [if_pos h];exact K h
 ·rw [if_neg h];exact O h
theorem FT{c:Prop} [Decidable c] {x y:Option α}(h:c)(k:BT x Q):BT (if c then x else y) Q:=by rw [if_pos h];exact k
theorem Dx{c:Prop} [Decidable c] {x y:Option α}(h:¬c)(k:BT y Q):BT (if c then x else y) Q:=by rw [if_neg h];exact k
def Bm.sat{S A:Type}(I:S->Prop)(Q:A->Prop):Bm S A->Prop
 | .more s=>I s
 | .done a=>Q a
theorem WR{S:Type}{body:S->Option (Bm S α)}(I:Nat->S->Prop)(round:∀m s,I m s->BT (body s) (Bm.sat (λs'=>∃m',m'<m/\I m' s') Q)):
  ∀{m fuel:Nat} {s:S},I m s->m<fuel->BT (iter body fuel s) Q:=by
 intro m
 induction m using Nat.strongRecOn with
 | _ m O=>
  intro fuel s U ag;obtain⟨fuel,rfl⟩:∃k,fuel=k+1:=⟨fuel - 1,by omega⟩;obtain⟨st,Y,K⟩:=round m s U;unfold Pal.iter;rw [Y];cases st with
  | more s'=>
   obtain⟨m',Z,ac⟩:=K;exact O m' Z ac (by omega)
  | done a=>exact⟨a,rfl,K⟩
theorem Gs{S A:Type}{body:S->Option (Bm S A)}{Q:A->Prop}{K:S}{F:Nat}(n:Nat)(I:Nat->S->Prop)(Y:I 0 K)(ac:n<F)
  (round:∀i s,i<n->I i s->BT (body s) (Bm.sat (I (i+1)) Q)) (last:∀s,I n s->BT (body s) (λst=>∃a,st= .done a/\Q a)):BT (Pal.iter body F K) Q:=by
 refine WR (λm s=>∃i,i<=n/\m=n - i/\I i s) ?_ (m:=n - 0) ⟨0,Nat.zero_le _,V,Y⟩ (by omega);rintro m s ⟨i,hi,rfl,O⟩;rcases Nat.lt_or_ge i n with Z | ag
 ·refine(round i s Z O).Ah ?_;intro st U;cases st with
  | more s'=>exact⟨n - (i+1),by omega,i+1,by omega,rfl,U⟩
  | done a=>exact U
 ·obtain rfl:i=n:=by omega
  refine(last s O).Ah ?_;rintro st ⟨a,rfl,h⟩;exact h
theorem ES{α:Type}{o:Option α}{a:α}(h:BT o (λx=>x=a)):o=some a:=by obtain⟨x,K,rfl⟩:=h;exact K
theorem Ch{α:Type}{Q:α->Prop}{f:Int->Option α}{x:Int}(y:Int)(h:x=y)(K: -9223372036854775808<=y)(O:y<=9223372036854775807)(k:BT (f y) Q):BT ((Av x).bind f) Q:=by subst h;exact BT.cD K O k
theorem BT.Uu{α β:Type}{Q:α->Prop}{f:List β->Option α}{xs ys:List β}(h:xs.length+ys.length<1000)(k:BT (f (xs++ys)) Q):BT ((Dy xs ys).bind f) Q:=Bq (by unfold Dy;rw [if_pos (by omega)]) k
abbrev Hn:=List Int×Int×Nat
def BG(k:Nat)(b:Hn):Prop:=0<=b.2.1/\b.2.1<=(k:Int)
theorem BG.Ah{k k':Nat}{b:Hn}(h:BG k b)(K:k<=k'):BG k' b:=⟨h.1,by have:=h.2;omega⟩
theorem Zy{F k:Nat}{b:Hn}(hb:BG k b)(K:k<1000000):BT (f83 F b) (λr=>r.1<2 ^ 64/\BG (k+1) r.2):=by
 obtain⟨O,U⟩:=hb;unfold f83;refine Ch (b.2.1+1) V (by omega) (by omega) ?_;have key:∀x:Nat,(x % 2 ^ 64)>>>11<2 ^ 64:=λx=>Nat.lt_of_le_of_lt (Nat.shiftRight_le _ _) (Nat.mod_lt _ (Nat.two_pow_pos 64));refine Cb (S:=λ_=>True) ?_ ?_
 ·refine GM (λh=>?_) (λh=>?_)
  ·refine Ch b.2.1 (by omega) (by omega) (by omega) (EU (m:=b.2.1.toNat) (by omega) (by omega) ?_);exact Bi trivial
  ·exact Bi trivial
 ·intro x _;exact Bi ⟨key _,by simp only;omega,by simp only;omega⟩
theorem VS{a:Nat}(h:a<2 ^ 62):Mn a=(a:Int):=by
 unfold Mn;exact Jy (by omega)
theorem JI{F k:Nat}{b:Hn}{m:Int}(hb:BG k b)(O:k<1000000)(hm:m<1000000):BT (f36 F b m) (λr=>0<=r.1/\(r.1<=m∨r.1=0)/\BG (k+1) r.2):=by
 unfold f36;refine Cb (Zy hb O) ?_;rintro⟨x,b'⟩ ⟨Z,K⟩;refine GM (λh=>?_) (λh=>?_)
 ·exact Bi ⟨by simp,.inr V,K⟩
 ·have U:CZ m=m.toNat:=by unfold CZ;omega
  have e2:(CZ m+1) % 2 ^ 64=m.toNat+1:=by rw [U];omega
  have Y:x % (m.toNat+1)<m.toNat+1:=Nat.mod_lt _ (by omega);refine Bq (b:=x % (m.toNat+1)) (by rw [e2];unfold NW;rw [if_neg (by omega)]) ?_;refine Bi ?_;simp only;generalize x % (m.toNat+1)=z at Y ⊢;rw [VS (by omega)];exact⟨by omega,.inl (by omega),K⟩
theorem Pm{F k:Nat}{b:Hn}{lo hi:Int}(hb:BG k b)(O:k<1000000)(Y:0<=lo)(Z:lo<=hi)(ac:hi<1000):BT (f37 F b lo hi) (λr=>lo<=r.1/\r.1<=hi/\BG (k+1) r.2):=by
 unfold f37;refine Ch (hi - lo) V (by omega) (by omega) (Cb (JI hb O (by omega)) ?_);rintro⟨x,b'⟩ ⟨U,g2,K⟩;simp only at U g2 K ⊢;exact Ch (lo+x) V (by omega) (by omega) (Bi ⟨by simp only;omega,by simp only;omega,K⟩)
theorem Y8{F k:Nat}{b:Hn}{m:Int}(hb:BG k b)(K:k<1000000)(U:1<=m)(Y:m<1000):BT (f32 F b m) (λr=>BG (k+1) r.2):=by
 unfold f32;refine Ch (m - 1) V (by omega) (by omega) (Cb (JI hb K (by omega)) ?_);rintro⟨x,b'⟩ ⟨Z,g2,O⟩;exact Bi O
theorem SX{F k:Nat}{b:Hn}{l:List Int}(hb:BG k b)(U:k<1000000)(Z:0<l.length)(ac:l.length<1000):BT (f81 F b l) (λr=>r.1∈l/\BG (k+1) r.2):=by
 unfold f81;refine Ch ((l.length - 1:Nat):Int) (by omega) (by omega) (by omega) (Cb (JI hb U (by omega)) ?_);rintro⟨x,b'⟩ ⟨Y,g2,K⟩;simp only at Y g2 K ⊢;have O:x.toNat<l.length:=by omega
 exact EU (m:=x.toNat) (by omega) O (Bi ⟨List.getElem_mem O,K⟩)
abbrev DT:=Int×Int×Int
abbrev OW:=Bn×List DT
structure NV (n:Nat) (o:OW):Prop where
 l1:o.1.length<=n
 n1:∀x∈o.1,x.length<=n
 l2:o.2.length<=n
theorem TG{F:Nat}{l:List Int}(K:100<F)(O:l.length<=40):f29 F l l=some true:=by
 refine ES ?_;unfold f29;refine Cb (S:=λq=>q=Sum.inr ()) ?_ (by rintro q rfl;exact Bi (by simp));refine Gs l.length (λi s=>s=(i:Int)) V (by omega) ?_ ?_
 ·rintro i s hi rfl;unfold Ns;refine Cb (S:=λc=>c=true) (FT (by omega) (Bi (decide_eq_true (by omega)))) ?_;rintro c rfl;refine FT V (EU (m:=i) V hi ?_);refine EU (m:=i) V hi (Dx (by simp) ?_);exact Ch ((i+1:Nat):Int) (by simp) (by omega) (by omega) (Bi V)
 ·rintro s rfl;unfold Ns;refine Cb (S:=λc=>c=false) (Dx (by omega) (Bi V)) ?_;rintro c rfl;exact Dx (by simp) (Bi ⟨_,V,V⟩)
theorem Km(F:Nat)(a lo hi:Int):f92 F a lo hi=some (decide (lo<=a/\a<=hi)):=by
 unfold f92;by_cases h:lo<=a
 ·rw [if_pos h];simp [h]
 ·rw [if_neg h];simp [h]
theorem XJ{F:Nat}{o:OW}{i:Int}{l:List Int}(h:ix o.1 i=some l):Nu F l=L3 F o i:=by
 funext j;unfold Nu L3;rw [h];rfl
theorem Xh(F:Nat)(o:OW):Nz F o=L2 F o:=by
 funext i;unfold Nz L2;split
 ·rcases h:ix o.1 i with _ | l
  ·rfl
  ·simp only [Option.bind_some];rw [XJ h]
 ·rfl
theorem Zw(F:Nat)(o:OW):f47 F o=f48 F o:=by
 unfold f47 f48;rw [Xh];rfl
def VD(n:Nat)(d:DT):Prop:=0<=d.1/\d.1<(n:Int)/\0<=d.2.1/\d.2.1<(n:Int)/\d.1≠d.2.1/\1<=d.2.2/\d.2.2<=9
def CS(x:List Int):Prop:=x.length<=3/\∀c∈x,1<=c/\c<=9
structure VO (o:OW):Prop where
 n2:2<=o.1.length
 n5:o.1.length<=5
 cs:∀x∈o.1,CS x
 d8:o.2.length<=8
 ds:∀d∈o.2,VD o.1.length d
theorem VO.nv{o:OW}(h:VO o):NV 40 o:=⟨by have:=h.n5;omega,λx K=>by have:=(h.cs x K).1;omega,by have:=h.d8;omega⟩
theorem O0{α:Type}{P:α->Prop}{l:List α}{i:Nat}(hi:i<l.length)(h:∀x∈l.take i,P x)(k:P l[i]):∀x∈l.take (i+1),P x:=by
 intro x K;rw [List.take_add_one,List.getElem?_eq_getElem hi] at K;simp only [Option.toList_some,List.mem_append,List.mem_singleton] at K;rcases K with K | rfl
 ·exact h x K
 ·exact k
theorem Z8{F:Nat}{d:DT}{n:Nat}(Y:n<1000):BT (f88 F (n:Int) d 9) (λr=>r=0↔VD n d):=by
 unfold f88;refine Ch ((n:Int) - 1) V (by omega) (by omega) (Bq (Km _ _ _ _) ?_);refine Cb (S:=λc=>c=true↔¬((0<=d.1/\d.1<(n:Int))/\0<=d.2.1/\d.2.1<(n:Int))) ?_ ?_
 ·refine GM (λh=>Bi ?_) (λh=>?_)
  ·simp at h;simp;omega
  ·refine Ch ((n:Int) - 1) V (by omega) (by omega) (Bq (Km _ _ _ _) ?_);refine Bi ?_;simp at h;simp;omega
 ·intro c O;refine GM (λh=>Bi ?_) (λh=>?_)
  ·have:=O.1 h;unfold VD;constructor
   ·intro h;cases h
   ·intro h;omega
  have Z:¬¬_:=λk=>h (O.2 k);refine GM (λU=>Bi ?_) (λU=>?_)
  ·unfold VD;constructor
   ·intro h;cases h
   ·intro h;omega
  refine Bq (Km _ _ _ _) (GM (λK=>Bi ?_) (λK=>Bi ?_))
  ·simp at K;unfold VD;constructor
   ·intro h;cases h
   ·intro h;omega
  ·simp at K;unfold VD;constructor
   ·intro h;omega
   ·intro h;rfl
theorem ay{F:Nat}{o:OW}(Z:100<F)(h:NV 40 o):BT (f48 F o) (λr=>r=0↔VO o):=by
 unfold f48;have ac:=h.l1;have ag:=h.l2;refine GM (λg=>Bi (iff_of_false (by decide) λv=>by have:=v.n2;omega)) (λal=>?_);refine GM (λg=>Bi (iff_of_false (by decide) λv=>by have:=v.n5;omega)) (λg2=>?_);refine Cb (S:=λq=>(∃e,q=Sum.inl e/\e≠0/\¬∀x∈o.1,CS x)∨(q=Sum.inr ()/\∀x∈o.1,CS x)) ?_ ?_
 ·refine Gs o.1.length (λi s=>s=(i:Int)/\∀x∈o.1.take i,CS x) ⟨V,by simp⟩ (by omega) ?_ ?_
  ·rintro i s hi ⟨rfl,K⟩;unfold L2;refine FT (by omega) (EU (m:=i) V hi ?_);have am:=h.n1 _ (List.getElem_mem hi);refine GM (λg=>Bi (.inl ⟨_,V,by decide,λk=>by have:=(k _ (List.getElem_mem hi)).1;omega⟩)) (λap=>?_);refine Cb (S:=λq=>(q=Sum.inl 1/\¬CS o.1[i])∨(q=Sum.inr ()/\CS o.1[i])) ?_ ?_
   ·refine Gs o.1[i].length (λj s=>s=(j:Int)/\∀c∈o.1[i].take j,1<=c/\c<=9) ⟨V,by simp⟩ (by omega) ?_ ?_
    ·rintro j s U ⟨rfl,O⟩;unfold L3;refine EU (m:=i) V hi (FT (by omega) ?_);refine EU (m:=i) V hi (EU (m:=j) V U ?_);refine Bq (Km _ _ _ _) (GM (λg=>Bi (.inl ⟨V,λk=>?_⟩)) (λg=>?_))
     ·have:=k.2 _ (List.getElem_mem U);simp at g;omega
     refine Ch ((j+1:Nat):Int) (by simp) (by omega) (by omega) (Bi ⟨V,O0 U O ?_⟩);simpa using g
    ·rintro s ⟨rfl,O⟩;unfold L3;refine EU (m:=i) V hi ?_;rw [List.take_length] at O;exact Dx (by omega) (Bi ⟨_,V,.inr ⟨V,by omega,O⟩⟩)
   ·rintro q (⟨rfl,g⟩ | ⟨rfl,g⟩)
    ·rw [Sum.elim_inl];exact Bi (.inl ⟨_,V,by decide,λk=>g (k _ (List.getElem_mem hi))⟩)
    ·rw [Sum.elim_inr];exact Ch ((i+1:Nat):Int) (by simp) (by omega) (by omega) (Bi ⟨V,O0 hi K g⟩)
  ·rintro s ⟨rfl,K⟩;unfold L2;rw [List.take_length] at K;exact Dx (by omega) (Bi ⟨_,V,.inr ⟨V,K⟩⟩)
 ·rintro q (⟨e,rfl,he,g⟩ | ⟨rfl,O⟩)
  ·rw [Sum.elim_inl];exact Bi (iff_of_false he λv=>g v.cs)
  ·rw [Sum.elim_inr];refine GM (λg=>Bi (iff_of_false (by decide) λv=>by have:=v.d8;omega)) (λg2=>?_);refine Cb (S:=λq=>(∃e,q=Sum.inl e/\e≠0/\¬∀d∈o.2,VD o.1.length d)∨(q=Sum.inr ()/\∀d∈o.2,VD o.1.length d)) ?_ ?_
   ·refine Gs o.2.length (λi s=>s=(i:Int)/\∀d∈o.2.take i,VD o.1.length d) ⟨V,by simp⟩ (by omega) ?_ ?_
    ·rintro i s hi ⟨rfl,K⟩;unfold PH;refine FT (by omega) (EU (m:=i) V hi ?_);refine Cb (Z8 (by omega)) ?_;intro x Y;refine GM (λg=>Bi (.inl ⟨_,V,g,λk=>g (Y.2 (k _ (List.getElem_mem hi)))⟩)) (λg=>?_);exact Ch ((i+1:Nat):Int) (by simp) (by omega) (by omega) (Bi ⟨V,O0 hi K (Y.1 (Decidable.not_not.1 g))⟩)
    ·rintro s ⟨rfl,K⟩;unfold PH;rw [List.take_length] at K;exact Dx (by omega) (Bi ⟨_,V,.inr ⟨V,K⟩⟩)
   ·rintro q (⟨e,rfl,he,g⟩ | ⟨rfl,g⟩)
    ·rw [Sum.elim_inl];exact Bi (iff_of_false he λv=>g v.ds)
    ·rw [Sum.elim_inr];exact Bi (iff_of_true V ⟨by omega,by omega,O,by omega,g⟩)
theorem Zq{F:Nat}{o:OW}(K:100<F)(h:NV 40 o):BT (f47 F o) (λr=>r=0↔VO o):=Zw F o▸ay K h
theorem cg{F:Nat}{o:OW}(K:100<F)(h:VO o):f47 F o=some 0:=by
 obtain⟨r,O,U⟩:=Zq K h.nv;rw [O,U.2 h]
theorem T8{F:Nat}{o:OW}(K:100<F)(h:VO o):f70 F o []=some (o,0):=by
 obtain⟨F,rfl⟩:∃k,F=k+1:=⟨F - 1,by omega⟩;unfold f70;rw [cg K h]
 rfl
theorem Xc(a n:Int):a % n=(a - n) % n:=by
 have h:a=(a - n)+n*1:=by omega
 conv=>lhs;rw [h]
 exact Int.add_mul_emod_self_left _ _ _
theorem TR{F k n:Nat}{b:Hn}(hb:BG k b)(aw:k<900000)(a0:2<=n)(a2:n<900):BT (f40 F b (n:Int)) (λr=>VD n r.1/\BG (k+4) r.2):=by
 unfold f40;refine Ch ((n:Int) - 1) V (by omega) (by omega) (Cb (JI hb (by omega) (by omega)) ?_);rintro⟨x,a3⟩ ⟨O,g2,U⟩;simp only at O g2 U ⊢;refine Cb (Pm U (by omega) (by omega) (by omega) (by omega)) ?_;rintro⟨x2,a4⟩ ⟨a1,am,Y⟩;simp only at a1 am Y ⊢;refine Cb (SX Y (by omega) (by simp) (by simp)) ?_;rintro⟨Z,a5⟩ ⟨ac,ag⟩;simp only at ac ag ⊢;refine Ch ((n:Int) - 1) V (by omega) (by omega) (Cb (Pm ag (by omega) (by omega) (by omega) (by omega)) ?_);rintro⟨K,a6⟩ ⟨ap,aq,al⟩;simp only at ap aq al ⊢;refine Ch (x+K) V (by omega) (by omega) (Bq (b:=(x+K).tmod n) (by unfold N9;rw [if_neg (by omega)]) ?_);refine Bi ⟨?_,al⟩;have e:(x+K).tmod n=(x+K) % n:=Int.tmod_eq_emod_of_nonneg (by omega);have p3:1<=Z/\Z<=9:=by
  simp only [List.mem_cons,List.not_mem_nil,or_false] at ac;omega
 have a7:(x+K) % (n:Int)<n:=Int.emod_lt_of_pos _ (by omega);have a8:0<=(x+K) % (n:Int):=Int.emod_nonneg _ (by omega);have a9:x≠(x+K) % (n:Int):=by
  rcases Int.lt_or_le (x+K) n with h | h
  ·rw [Int.emod_eq_of_lt (by omega) h];omega
  ·rw [Xc,Int.emod_eq_of_lt (by omega) (by omega)];omega
 refine⟨O,?_,?_,?_,?_,p3.1,p3.2⟩ <;> simp only [e] <;> omega
theorem ZU{F k:Nat}{b:Hn}{pm dm:Nat}(bb:100<F)(hb:BG k b)(be:k<1000)(bi:2<=pm)(bo:pm<=5)(hd:dm<=8):BT (f31 F b pm dm) (λr=>VO r.1/\r.1.1.length<=pm/\r.1.2.length<=dm/\BG (k+100) r.2):=by
 unfold f31;refine Cb (Pm hb (by omega) (by omega) (by omega) (by omega)) ?_;rintro⟨n,bv⟩ ⟨n1,n2,a1⟩;simp only at n1 n2 a1 ⊢;obtain⟨n,rfl⟩:∃m:Nat,n=(m:Int):=⟨n.toNat,by omega⟩;refine Cb (Y8 a1 (by omega) (by omega) (by omega)) ?_;rintro⟨bw,b0⟩ g2;simp only at g2 ⊢;refine Cb (S:=λr=>r.2.2.2.length=n/\(∀x∈r.2.2.2,CS x)/\BG (k+30) (r.1,r.2.1,r.2.2.1)) ?_ ?_
 ·refine Gs n (λi s=>s.2.2.2.2=(i:Int)/\s.1.length=i/\(∀x∈s.1,CS x)/\BG (k+2+5*i) (s.2.1,s.2.2.1,s.2.2.2.1)) ⟨V,V,by simp,g2⟩ (by omega) ?_ ?_
  ·rintro i ⟨a2,l,t,ag,c⟩ hi ⟨al,am,ap,K⟩;simp only at al am ap K;subst al;unfold NG;refine FT (by simp only;omega) (Cb (JI K (by omega) (by omega)) ?_);rintro⟨c,b1⟩ ⟨c1,c2,aq⟩;simp only at c1 c2 aq ⊢;obtain⟨c,rfl⟩:∃m:Nat,c=(m:Int):=⟨c.toNat,by omega⟩;refine Cb (S:=λr=>CS r.1/\BG (k+2+5*i+1+c) r.2) ?_ ?_
   ·refine Gs c (λj s=>s.2.2.2.2=((c - j:Nat):Int)/\s.2.2.2.1.length=j/\(∀v∈s.2.2.2.1,1<=v/\v<=9)/\BG (k+2+5*i+1+j) (s.1,s.2.1,s.2.2.1)) ⟨V,V,by simp,aq⟩ (by omega) ?_ ?_
    ·rintro j ⟨l,t,ag,w,z⟩ a8 ⟨U,hw,O,K⟩;simp only at U hw O K;subst U;unfold NH;refine FT (by simp only;omega) (Cb (S:=λr=>r.1.length=j+1/\(∀v∈r.1,1<=v/\v<=9)/\BG (k+2+5*i+1+(j+1)) r.2) ?_ ?_)
     ·refine GM (λ_=>?_) (λ_=>?_)
      ·refine KM (by simp only;omega) (Bi ⟨by simp [hw],?_,K.Ah (by omega)⟩);intro v h;rcases List.mem_append.1 h with h | h
       ·exact O v h
       ·have:=List.mem_singleton.1 h;omega
      ·refine Cb (SX K (by omega) (by simp) (by simp)) ?_;rintro⟨v,a9⟩ ⟨a3,aw⟩;simp only at a3 aw ⊢;refine KM (by omega) (Bi ⟨by simp [hw],?_,aw⟩);intro u h;rcases List.mem_append.1 h with h | h
       ·exact O u h
       ·have:=List.mem_singleton.1 h;subst this;simp only [List.mem_cons,List.not_mem_nil,or_false] at a3;omega
     ·rintro⟨w',l',b2,b3⟩ ⟨Z,a0,ac⟩;simp only at Z ac a0 ⊢;exact Ch ((c - (j+1):Nat):Int) (by omega) (by omega) (by omega) (Bi ⟨V,Z,a0,ac⟩)
    ·rintro⟨l,t,ag,w,z⟩ ⟨U,hw,O,K⟩;simp only at U hw O K;subst U;unfold NH;exact Dx (by simp) (Bi ⟨_,V,⟨by simp only;omega,O⟩,K⟩)
   ·rintro⟨w,a9⟩ ⟨Z,ac⟩;simp only at Z ac ⊢;refine KM (by omega) (Ch ((i+1:Nat):Int) (by simp) (by omega) (by omega) ?_);refine Bi ⟨V,by simp [am],λx Y=>?_,ac.Ah (by omega)⟩;simp only [List.mem_append,List.mem_singleton] at Y;rcases Y with Y | rfl
    ·exact ap x Y
    ·exact Z
  ·rintro⟨a2,l,t,ag,c⟩ ⟨al,am,ap,K⟩;simp only at al am ap K;subst al;unfold NG;exact Dx (by simp) (Bi ⟨_,V,am,ap,K.Ah (by omega)⟩)
 ·rintro⟨l,t,ag,a2⟩ ⟨a4,p2,aq⟩;simp only at a4 p2 aq ⊢;refine Cb (JI aq (by omega) (by omega)) ?_;rintro⟨c,b4⟩ ⟨c1,c2,aw⟩;simp only at c1 c2 aw ⊢;obtain⟨c,rfl⟩:∃m:Nat,c=(m:Int):=⟨c.toNat,by omega⟩;refine Cb (S:=λr=>r.2.2.2.length<=dm/\(∀d∈r.2.2.2,VD n d)/\BG (k+100) (r.1,r.2.1,r.2.2.1)) ?_ ?_
  ·refine Gs c (λj s=>s.2.2.2.2=((c - j:Nat):Int)/\s.1.length=j/\(∀d∈s.1,VD n d)/\BG (k+31+4*j) (s.2.1,s.2.2.1,s.2.2.2.1)) ⟨V,V,by simp,aw.Ah (by omega)⟩ (by omega) ?_ ?_
   ·rintro j ⟨a5,l,t,ag,z⟩ a8 ⟨U,hw,O,K⟩;simp only at U hw O K;subst U;unfold Nr;refine FT (by simp only;omega) (Cb (TR K (by omega) (by omega) (by omega)) ?_);rintro⟨d,b5⟩ ⟨a6,a7⟩;simp only at a6 a7 ⊢;refine BT.Uu (by simp;omega) (Ch ((c - (j+1):Nat):Int) (by omega) (by omega) (by omega) ?_);refine Bi ⟨V,by simp [hw],?_,a7.Ah (by omega)⟩;intro x Y;rcases List.mem_append.1 Y with Y | Y
    ·exact O x Y
    ·cases List.mem_singleton.1 Y;exact a6
   ·rintro⟨a5,l,t,ag,z⟩ ⟨U,hw,O,K⟩;simp only at U hw O K;subst U;unfold Nr;exact Dx (by simp) (Bi ⟨_,V,by simp only;omega,O,K.Ah (by omega)⟩)
  ·rintro⟨l,t,ag,a5⟩ ⟨Z,a0,ac⟩;simp only at Z ac a0 ⊢;exact Bi ⟨⟨by simp only;omega,by simp only;omega,p2,by simp only;omega,by simp only;rw [a4];exact a0⟩,by simp only;omega,Z,ac⟩
def gN(l:List Int)(i:Nat):Int:=l.getD i 0
def FI(l:List Int)(i v:Int):List Int:=l.set i.toNat (gN l i.toNat+v)
def BN(B:Int)(l:List Int):Prop:=l.length=5/\∀x∈l,-B<=x/\x<=B
theorem JJ{l:List Int}{i:Nat}(h:i<l.length):gN l i=l[i]:=by unfold gN;rw [List.getD_eq_getElem?_getD,List.getElem?_eq_getElem h];rfl
theorem BN.bd{B:Int}{l:List Int}(h:BN B l){i:Nat}(hi:i<5): -B<=gN l i/\gN l i<=B:=by
 rw [JJ (by have:=h.1;omega)];exact h.2 _ (List.getElem_mem _)
theorem BN.ix{B:Int}{l:List Int}(h:BN B l){i:Int}(K:0<=i)(hi:i<5):ix l i=some (gN l i.toNat):=by
 have:=h.1;rw [JJ (show i.toNat<l.length by omega)];exact Lf (m:=i.toNat) (by omega) (List.getElem?_eq_getElem _)
theorem BN.Ah{B C:Int}{l:List Int}(h:BN B l)(O:B<=C):BN C l:=⟨h.1,λx K=>by have:=h.2 x K;omega⟩
theorem BN.add{B V:Int}{l:List Int}(h:BN B l){i v:Int}(O:0<=i)(hi:i<5)(U: -V<=v)(Y:v<=V):BN (B+V) (FI l i v):=by
 have hb:=h.bd (i:=i.toNat) (by omega);refine⟨by unfold FI;rw [List.length_set];exact h.1,λx K=>?_⟩;rcases List.mem_or_eq_of_mem_set K with K | rfl
 ·have:=h.2 x K;omega
 ·omega
theorem Ja{l:List Int}{i v:Int}(h:l.length=5)(K:0<=i)(hi:i<5)(j:Nat):gN (FI l i v) j=gN l j+if(j:Int)=i then v else 0:=by
 unfold FI gN;rw [List.getD_eq_getElem?_getD,List.getElem?_set,List.getD_eq_getElem?_getD,List.getD_eq_getElem?_getD];by_cases e:i.toNat=j
 ·rw [if_pos e,if_pos (by omega),if_pos (by omega),e];rfl
 ·rw [if_neg e,if_neg (by omega),Int.add_zero]
theorem OQ{l l':List Int}(h:l.length=5)(U:l'.length=5)(k:∀j,j<5->gN l j=gN l' j):l=l':=by
 refine List.ext_getElem (by omega) λj K O=>?_;rw [← JJ K,← JJ O];exact k j (by omega)
def CU(l:List Int)(d:DT):List Int:=FI (FI l d.1 d.2.2) d.2.1 (-d.2.2)
def EN(l:List Int)(d:DT):List Int:=FI (FI l d.2.1 d.2.2) d.1 (-d.2.2)
def Cm(o:OW):List Int:=o.2.foldl EN (List.replicate 5 0)
theorem Ya{F:Nat}{B:Int}{l:List Int}{d:DT}(h:BN B l)(a1:0<=d.1)(O:d.1<5)(U:0<=d.2.1)(Y:d.2.1<5)(Z: -B<=d.2.2)(p2:d.2.2<=B)(ac:B<=1000000000000):f204 F l d=some (CU l d)/\BN (3*B) (CU l d):=by
 have K:=h.add a1 O Z p2;have g2:=K.add U Y (show -B<= -d.2.2 by omega) (by omega);have k1:=h.bd (i:=d.1.toNat) (by omega);have ag:=K.bd (i:=d.2.1.toNat) (by omega);refine⟨?_,g2.Ah (by omega)⟩;refine ES ?_;unfold f204;refine Bq (h.ix a1 O) ?_;refine Ch _ V (by omega) (by omega) ?_;refine Bq (h.ix a1 O) ?_;refine Bq (K.ix U Y) ?_;refine Ch _ V (by omega) (by omega) ?_;refine Bq (K.ix U Y) ?_;exact Bi V
theorem LW{F:Nat}{o:OW}(ac:100<F)(h:VO o):f84 F o=some (Cm o)/\BN 200 (Cm o):=by
 have ag:=h.n5;have al:=h.d8;have:BT (f84 F o) (λr=>r=Cm o/\BN 200 r):=by
  unfold f84;refine Cb (S:=λr=>r=Cm o/\BN 200 r) ?_ (λr U=>Bi U);refine Gs o.2.length (λi s=>s.2=(i:Int)/\s.1=(o.2.take i).foldl EN (List.replicate 5 0)/\BN (20*i) s.1) ⟨rfl,rfl,rfl,by simp⟩ (by omega) ?_ ?_
  ·rintro i ⟨w,c⟩ hi ⟨K,hw,hb⟩;simp only at K hw hb;subst K;obtain⟨v1,v2,am,v4,ap,v6,aq⟩:=h.ds _ (List.getElem_mem hi);have O:=hb.add (i:=o.2[i].2.1) (v:=o.2[i].2.2) (V:=10) (by omega) (by omega) (by omega) (by omega);have g2:=O.add (i:=o.2[i].1) (v:= -o.2[i].2.2) (V:=10) (by omega) (by omega) (by omega) (by omega);have k1:=hb.bd (i:=o.2[i].2.1.toNat) (by omega);have aw:=O.bd (i:=o.2[i].1.toNat) (by omega);unfold Nw;refine FT (by simp only;omega) (EU (m:=i) rfl hi ?_);refine Bq (hb.ix (by omega) (by omega)) (Ch _ rfl (by omega) (by omega) ?_);refine Bq (hb.ix (by omega) (by omega)) (Bq (O.ix (by omega) (by omega)) ?_);refine Ch _ rfl (by omega) (by omega) (Bq (O.ix (by omega) (by omega)) ?_);refine Ch ((i+1:Nat):Int) (by simp) (by omega) (by omega) (Bi ⟨rfl,?_,g2.Ah (by omega)⟩);simp only;rw [List.take_add_one,List.getElem?_eq_getElem hi,List.foldl_append,← hw]
   rfl
  ·rintro⟨w,c⟩ ⟨K,hw,hb⟩;simp only at K hw hb;subst K;unfold Nw;rw [List.take_length] at hw;exact Dx (by simp) (Bi ⟨_,rfl,hw,hb.Ah (by omega)⟩)
 obtain⟨r,Y,rfl,Z⟩:=this;exact⟨Y,Z⟩
theorem W0{l:List Int}{i:Nat}(hi:i<l.length):(l.take (i+1)).sum=(l.take i).sum+l[i]:=by
 rw [List.take_add_one,List.getElem?_eq_getElem hi,List.sum_append];simp only [Option.toList_some,List.sum_cons,List.sum_nil];omega
theorem KV{α:Type}{l:List α}{i:Nat}{d:α}(h:i<l.length):l.getD i d=l[i]:=by rw [List.getD_eq_getElem?_getD,List.getElem?_eq_getElem h];rfl
theorem Z7{F:Nat}{o:OW}(U:2000<F)(h:VO o):f43 F o=some ((Cm o).take o.1.length,0):=by
 obtain⟨K,O⟩:=LW (F:=F) (by omega) h;have Y:=h.n5;have Z:=O.1;refine ES ?_;unfold f43;refine Bq (T8 (by omega) h) (Dx (by simp) ?_);refine Bq K (Bq (b:=(Cm o).take o.1.length) (by unfold HO;rw [if_pos (by omega)];simp) ?_);exact Bq (b:=(Cm o).take o.1.length) (by unfold f87 Me Dy;rw [if_pos (by simp;omega)];rfl) (Bi V)
def Zb(n:Nat)(w:List Int):Prop:=∀j,n<=j->gN w j=0
theorem K6{w:List Int}{n:Nat}{i:Int}{B:Int}(hb:BN B w)(K:n<=5)(O:0<=i)(hi:i<n):ix (w.take n) i=some (gN w i.toNat):=by
 have U:=hb.1;have:i.toNat<(w.take n).length:=by rw [List.length_take];omega
 refine Lf (m:=i.toNat) (by omega) ?_;rw [List.getElem?_eq_getElem this,List.getElem_take,JJ (by omega)]
theorem PF{w:List Int}{i j:Nat}{v:Int}(h:i≠j):gN (w.set i v) j=gN w j:=by
 unfold gN;rw [List.getD_eq_getElem?_getD,List.getElem?_set_ne h,List.getD_eq_getElem?_getD]
theorem RD{w:List Int}{d:DT}{n:Nat}(O:0<=d.1)(U:0<=d.2.1)(Y:d.1≠d.2.1):(EN w d).take n=((w.take n).set d.1.toNat (gN w d.1.toNat - d.2.2)).set d.2.1.toNat (gN w d.2.1.toNat+d.2.2):=by
 unfold EN FI;have K:d.2.1.toNat≠d.1.toNat:=by omega
 rw [PF K,List.take_set,List.take_set,List.set_comm _ _ K,Int.sub_eq_add_neg]
theorem Zb.add{n:Nat}{w:List Int}{i v:Int}(h:Zb n w)(hi:i<n)(O:0<=i):Zb n (FI w i v):=λj K=>by
 unfold FI
 rw [PF (by omega)]
 exact h j K
theorem Zb.zero(n:Nat):Zb n (List.replicate 5 0):=λj _=>by
 unfold gN
 rw [List.getD_eq_getElem?_getD,List.getElem?_replicate]
 split <;> rfl
theorem SW{o:OW}(h:VO o):Zb o.1.length (Cm o):=by
 have:∀(ds:List DT) (w:List Int),Zb o.1.length w->(∀d∈ds,VD o.1.length d)->Zb o.1.length (ds.foldl EN w):=by
  intro ds
  induction ds with
  | nil=>exact λw hw _=>hw
  | cons d ds K=>
   intro w hw hd;obtain⟨v1,v2,O,v4,_⟩:=hd d List.mem_cons_self;exact K _ ((hw.add v4 O).add v2 v1) λx U=>hd x (List.mem_cons_of_mem _ U)
 exact this _ _ (Zb.zero _) h.ds
theorem Tt{F:Nat}{o:OW}(al:100<F)(h:VO o):f55 F o=some ((Cm o).take o.1.length):=by
 have U:=h.n5;have am:=h.d8;refine ES ?_;unfold f55;refine Bq (b:=List.replicate o.1.length 0) ?_ ?_
 ·unfold He;rw [if_pos (by omega)];rfl
 refine Cb (S:=λr=>r=(Cm o).take o.1.length) ?_ (λr Y=>Bi Y);refine Gs o.2.length (λi s=>s.2=(i:Int)/\∃w,s.1=w.take o.1.length/\w=(o.2.take i).foldl EN (List.replicate 5 0)/\BN (20*i) w) ⟨rfl,List.replicate 5 0,by rw [List.take_replicate,Nat.min_eq_left U],rfl,rfl,by simp⟩ (by omega) ?_ ?_
 ·rintro i ⟨s,c⟩ hi ⟨K,w,O,hw,hb⟩;simp only at K O;subst K;subst O;obtain⟨v1,v2,Z,v4,ac,v6,ap⟩:=h.ds _ (List.getElem_mem hi);have ag:=hb.add (i:=o.2[i].2.1) (v:=o.2[i].2.2) (V:=10) (by omega) (by omega) (by omega) (by omega);have g2:=ag.add (i:=o.2[i].1) (v:= -o.2[i].2.2) (V:=10) (by omega) (by omega) (by omega) (by omega);have k1:=hb.bd (i:=o.2[i].2.1.toNat) (by omega);have aq:=hb.bd (i:=o.2[i].1.toNat) (by omega);unfold L4;refine FT (by simp only;omega) (EU (m:=i) rfl hi ?_);refine Bq (K6 hb U (by omega) (by omega)) (Bq (K6 hb U (by omega) (by omega)) ?_);refine Ch _ rfl (by omega) (by omega) (Bq (K6 hb U (by omega) (by omega)) ?_);refine Ch _ rfl (by omega) (by omega) (Ch ((i+1:Nat):Int) (by simp) (by omega) (by omega) ?_);refine Bi ⟨rfl,EN w o.2[i],(RD v1 Z ac).symm,?_,g2.Ah (by omega)⟩;rw [List.take_add_one,List.getElem?_eq_getElem hi,List.foldl_append,← hw]
  rfl
 ·rintro⟨s,c⟩ ⟨K,w,O,hw,hb⟩;simp only at K O;subst K;unfold L4;rw [List.take_length] at hw;exact Dx (by simp) (Bi ⟨_,rfl,by simp only;rw [O,hw];rfl⟩)
theorem YX{w:List Int}{d:DT}(h:w.length=5)(a1:0<=d.1)(K:d.1<5)(O:0<=d.2.1)(U:d.2.1<5)(j:Nat):gN (EN w d) j=gN w j+(if(j:Int)=d.2.1 then d.2.2 else 0)+(if(j:Int)=d.1 then -d.2.2 else 0):=by
 unfold EN;rw [Ja (by unfold FI;rw [List.length_set];exact h) a1 K,Ja h O U]
theorem R9{w:List Int}{d:DT}(h:w.length=5):(EN w d).length=5:=by unfold EN FI;rw [List.length_set,List.length_set];exact h
def EC(w:List Int)(A:Nat->Bool):Int:=(if A 0 then gN w 0 else 0)+(if A 1 then gN w 1 else 0)+(if A 2 then gN w 2 else 0)+(if A 3 then gN w 3 else 0)+(if A 4 then gN w 4 else 0)
theorem Rz{w:List Int}{j:Nat}(K:j<5):EC w (λi=>i==j)=gN w j:=by
 unfold EC
 match j,K with
 | 0,_ | 1,_ | 2,_ | 3,_ | 4,_=>simp
theorem YE{p o:Nat}(O:p<5)(U:o<5)(K:o≠p)(X:Int):(if 0=p then -X else if 0=o then X else 0)+(if 1=p then -X else if 1=o then X else 0)+(if 2=p then -X else if 2=o then X else 0)+(if 3=p then -X else if 3=o then X else 0)+(if 4=p then -X else if 4=o then X else 0)=0:=by
 obtain rfl | rfl | rfl | rfl | rfl:p=0∨p=1∨p=2∨p=3∨p=4:=by omega
 all_goals
  obtain rfl | rfl | rfl | rfl | rfl:o=0∨o=1∨o=2∨o=3∨o=4:=by omega
  all_goals first | exact absurd rfl K | (simp;try omega)
theorem Wd{w v:List Int}{p o:Nat}(O:p<5)(U:o<5)(Y:o≠p)(h:∀j,gN v j=if j=p then 0 else if j=o then gN w o+gN w p else gN w j)(A:Nat->Bool):EC v A=EC w (λj=>if j=p then A o else A j):=by
 have key:∀j,(if A j=true then gN v j else 0)=(if(if j=p then A o else A j)=true then gN w j else 0)+(if j=p then -(if A o=true then gN w p else 0) else if j=o then(if A o=true then gN w p else 0) else 0):=by
  intro j;rw [h];by_cases K:j=p
  ·subst K;rw [if_pos rfl,if_pos rfl,if_pos rfl];cases A o <;> cases A j <;> simp <;> omega
  ·rw [if_neg K,if_neg K,if_neg K];by_cases e2:j=o
   ·subst e2;rw [if_pos rfl,if_pos rfl];cases A j <;> simp
   ·rw [if_neg e2,if_neg e2,Int.add_zero]
 have am:=YE O U Y (if A o=true then gN w p else 0)
 have Z:=key 0;have k1:=key 1;have ac:=key 2;have ag:=key 3;have al:=key 4;unfold EC;rw [Z,k1,ac,ag,al];generalize (if(if 0=p then A o else A 0)=true then gN w 0 else 0)=ap
 generalize (if(if 1=p then A o else A 1)=true then gN w 1 else 0)=a1
 generalize (if(if 2=p then A o else A 2)=true then gN w 2 else 0)=aq
 generalize (if(if 3=p then A o else A 3)=true then gN w 3 else 0)=aw
 generalize (if(if 4=p then A o else A 4)=true then gN w 4 else 0)=a0
 generalize (if A o=true then gN w p else 0)=X at*
 generalize (if 0=p then -X else if 0=o then X else 0)=a2 at*
 generalize (if 1=p then -X else if 1=o then X else 0)=a3 at*
 generalize (if 2=p then -X else if 2=o then X else 0)=a4 at*
 generalize (if 3=p then -X else if 3=o then X else 0)=a5 at*
 generalize (if 4=p then -X else if 4=o then X else 0)=a6 at*
 omega
def s1(A:Nat->Bool)(d:DT):Int:=(if A d.2.1.toNat then d.2.2 else 0)+(if A d.1.toNat then -d.2.2 else 0)
theorem MX{w:List Int}(hw:w.length=5){i v:Int}(K:0<=i)(O:i<5)(A:Nat->Bool):EC (FI w i v) A=EC w A+if A i.toNat then v else 0:=by
 unfold EC;rw [Ja hw K O,Ja hw K O,Ja hw K O,Ja hw K O,Ja hw K O];obtain rfl | rfl | rfl | rfl | rfl:i=0∨i=1∨i=2∨i=3∨i=4:=by omega
 ·simp only [show Int.toNat 0=0 from rfl];cases A 0 <;> simp <;> omega
 ·simp only [show Int.toNat 1=1 from rfl];cases A 1 <;> simp <;> omega
 ·simp only [show Int.toNat 2=2 from rfl];cases A 2 <;> simp <;> omega
 ·simp only [show Int.toNat 3=3 from rfl];cases A 3 <;> simp <;> omega
 ·simp only [show Int.toNat 4=4 from rfl];cases A 4 <;> simp <;> omega
theorem OM(A:Nat->Bool):∀(l:List DT) (w:List Int),(∀d∈l,(0<=d.1/\d.1<5)/\0<=d.2.1/\d.2.1<5)->w.length=5->EC (l.foldl EN w) A=EC w A+(l.map (s1 A)).sum
 | [],w,_,_=>by simp
 | d::l,w,h,hw=>by
  obtain⟨⟨a1,K⟩,O,U⟩:=h d List.mem_cons_self
  rw [List.foldl_cons,OM A l _ (λx Y=>h x (List.mem_cons_of_mem _ Y)) (R9 hw),List.map_cons,List.sum_cons]
  unfold EN s1
  rw [MX (by unfold FI;rw [List.length_set];exact hw) a1 K,MX hw O U]
  omega
theorem VO.Up{o:OW}(h:VO o):∀d∈o.2,(0<=d.1/\d.1<5)/\0<=d.2.1/\d.2.1<5:=λd hd=>by
 have K:=h.n5
 obtain⟨a1,O,U,Y,-⟩:=h.ds d hd;omega
structure PN (n:Nat) (K:List Nat):Prop where
 len:K.length=n
 nd:K.Nodup
 lt:∀x∈K,x<n
theorem PN.get{n:Nat}{K:List Nat}(h:PN n K){i:Nat}(hi:i<n):K.getD i 0<n:=by
 rw [List.getD_eq_getElem?_getD,List.getElem?_eq_getElem (by rw [h.len];exact hi)];exact h.lt _ (List.getElem_mem _)
theorem PN.inj{n:Nat}{K:List Nat}(h:PN n K){i j:Nat}(hi:i<n)(O:j<n)(e:K.getD i 0=K.getD j 0):i=j:=by
 have U:=h.len;rw [List.getD_eq_getElem?_getD,List.getD_eq_getElem?_getD,List.getElem?_eq_getElem (by omega),List.getElem?_eq_getElem (by omega)] at e;exact(List.getElem_inj h.nd).1 e
theorem Te{F k:Nat}{b:Hn}{n:Nat}(a1:100<F)(hb:BG k b)(a2:k<1000)(a3:n<=5):BT (f49 F b (n:Int)) (λr=>∃K,PN n K/\K.Perm (List.range n)/\r.1=(K.map λi:Nat=>(i:Int))/\BG (k+n) r.2):=by
 unfold f49;refine Cb (S:=λr=>∃K,PN n K/\K.Perm (List.range n)/\r.1=(K.map λi:Nat=>(i:Int))/\BG (k+n) r.2) ?_ (λr ag=>Bi ag);refine Gs n (λi s=>s.2.2.2.2=(i:Int)/\BG (k+i) (s.1,s.2.1,s.2.2.1)/\s.2.2.2.1.Perm ((List.range i).map λi:Nat=>(i:Int))) ⟨V,hb,.refl _⟩ (by omega) ?_ ?_
 ·rintro i ⟨l,t,al,w,z⟩ hi ⟨U,Y,O⟩;simp only at U Y O;subst U;have am:w.length=i:=by rw [O.length_eq];simp
  unfold Nq;refine FT (by simp only;omega) (Cb (JI Y (by omega) (by simp only;omega)) ?_);rintro⟨j,a4⟩ ⟨ap,aq,g2⟩;simp only at ap aq g2 ⊢;obtain⟨j,rfl⟩:∃m:Nat,j=(m:Int):=⟨j.toNat,by omega⟩;have a5:j<=i:=by omega
  refine KM (by omega) ?_;have a6:(w++ [(i:Int)]).length=i+1:=by simp [am]
  refine EU (m:=j) V (by omega) (EU (m:=i) V (by omega) ?_);refine EU (m:=j) V (by rw [List.length_set];omega) (Ch ((i+1:Nat):Int) (by simp) (by omega) (by omega) ?_);refine Bi ⟨V,g2,?_⟩;simp only;rw [show Int.toNat (i:Int)=i by omega,show Int.toNat (j:Int)=j by omega];have aw:(w++ [(i:Int)])[i]'(by omega)=(i:Int):=by
   rw [List.getElem_append_right (by omega)];simp
  have a0:(((w++ [(i:Int)]).set i ((w++ [(i:Int)])[j]'(by omega))).set j (i:Int)).Perm (w++ [(i:Int)]):=by
   have:=List.set_set_perm (show i<(w++ [(i:Int)]).length by omega) (show j<(w++ [(i:Int)]).length by omega);rw [aw] at this;exact this
  refine a0.trans ?_;rw [List.range_succ,List.map_append];exact O.append_right _
 ·rintro⟨l,t,al,w,z⟩ ⟨U,Y,O⟩;simp only at U Y O;subst U;unfold Nq;have Z:(w.map Int.toNat).Perm (List.range n):=by
   have:=O.map Int.toNat;rw [List.map_map] at this;have e:(Int.toNat∘λi:Nat=>(i:Int))=id:=by funext i;simp
   rwa [e,List.map_id] at this
  refine Dx (by simp only;omega) (Bi ⟨_,V,w.map Int.toNat,?_,Z,?_,Y⟩)
  ·exact⟨by rw [Z.length_eq];simp,Z.nodup_iff.2 List.nodup_range,λx ac=>List.mem_range.1 (Z.mem_iff.1 ac)⟩
  ·simp only;rw [List.map_map];refine(List.map_id _).symm.trans (List.map_congr_left λx ac=>?_);obtain⟨y,-,rfl⟩:=List.mem_map.1 (O.mem_iff.1 ac);simp
open Go Go.Conc Go.Proofs
variable {E:LH}
variable {J:Judge Tryz.prog}
def Ll(fu_:Nat)(p0:A5)(O:Aw):Option (Int):=
 (f70 fu_ p0 ([])).bind λK=>
 if K.2≠0 then(
  some K.2
 ) else(
  (Mg fu_ K.1 O).bind λU=>
  (T4 fu_ U).bind λY=>
  some Y
 )
theorem Tb{a1:Ao}{c2:Nat}{Z:Ao}{ac:Nat}{ag:Ao}{al:Nat}{p0:A5}{Y:Aw}(a0:GE E)(a2:Al (rL rI) E a1 c2 (p0.1))(a3:Al Ay E Z ac (p0.2))(a4:Al Ay E ag al (Y)){fu_:Nat}{r:Int}(am:Ll fu_ p0 Y=some r):AL J 18 [.agg #[.slice a1 (p0.1).length c2,.slice Z (p0.2).length ac],.slice ag (Y).length al] E [] (λw E' B'=>w=iV r/\B'= []):=by
 refine Bg Tryz.func18 λQ co cs H a5 ap=>?_;unfold Ll at am;refine C 2 V (Dd a5 λcp ct K a6 a7=>?_);refine C 4 V (BX a6 ER CQ V V ?_);obtain⟨cw,a8,a9⟩:=bs am;refine BU (Ks (a2.Ah K) (a3.Ah K) Al.nil a8) V V J9 a7 ?_;rintro _ cy _ U ⟨cJ,cK,cM,cO,rfl,rfl,bb,be⟩ bi;refine C 3 V (BM bi Hx λcP bo=>?_);refine BF 3 bo Dl λbv=>?_;refine CF 3 bv V λcQ O bw aq=>C 8 V (AV a9 (λb0 b1=>?_) (λb0 b2=>?_))
 ·refine C 5 V ?_;obtain rfl:=oi b1;exact AS Tryz.func18 V V (ap ((K.trans U).trans O) V ⟨V,V⟩ aq)
 ·refine C 3 V (BX bw FC Dl V V ?_);obtain⟨cR,b3,b4⟩:=bs b2;refine C 1 V (BU (ZZ (bb.Ah O) (be.Ah O) (a4.Ah ((K.trans U).trans O)) b3) V V (A0 Tryz.func59 V) aq ?_);rintro cT cV _ aw ⟨_,rfl,rfl,b5⟩ b6;obtain⟨cW,ca,cc⟩:=bs b4;refine Cj (Yg (a0.Ah (((K.trans U).trans O).trans aw)) b5 ca) V V (A0 Tryz.func58 V) b6 λcX ce ci=>C 2 V ?_;obtain rfl:=oi cc;exact AS Tryz.func18 V V (ap ((((K.trans U).trans O).trans aw).trans ce) V ⟨V,V⟩ ci)
variable {J:Judge Tryz.prog}
def Pa(fu_:Nat)(p0:A5)(K:(List Int)×Int):Option (Bm ((List Int)×Int) ((List Int))):=
 if K.2<((p0.2).length:Int) then(
  (ix p0.2 (K.2)).bind λO=>
  (ix K.1 (O.1)).bind λal=>
  (ix K.1 (O.1)).bind λU=>
  (Av (U - O.2.2)).bind λY=>
  (ix K.1 (O.2.1)).bind λZ=>
  (Av (Z+O.2.2)).bind λac=>
  (Av (K.2+1)).bind λag=>
  some (.more (((K.1.set (Int.toNat O.1) Y).set (Int.toNat O.2.1) ac),ag))
 ) else(
  some (.done K.1)
 )
def Mh(fu_:Nat)(p0:A5):Option ((List Int)):=
 (He ((p0.1).length:Int) (0:Int)).bind λK=>
 Option.bind (iter (Pa fu_ p0) fu_ (K,0)) λO=>
 some O
theorem au{a1:Ao}{c2:Nat}{bv:Ao}{bw:Nat}{p0:A5}(dz:Al (rL rI) E a1 c2 (p0.1))(co:Al Ay E bv bw (p0.2)){fu_:Nat}{r:(List Int)}(b0:Mh fu_ p0=some r):AL J 15 [.agg #[.slice a1 (p0.1).length c2,.slice bv (p0.2).length bw]] E [] (λw E' B'=>∃(b1:Ao) (b2:Nat) (g0:Seg),w= .slice b1 (r).length b2/\B'=g0/\OL 3 rI E' b1 b2 g0 (r)):=by
 refine Bg Tryz.func15 λQ dA cs H cp ct=>?_;unfold Mh at b0;refine C 2 V (Dd cp λb3 a8 b4 a9 cw=>?_);refine C 4 V (BK 0 a9 Tryz.underlying28 Fl FB ?_);refine JL.ln Tryz.underlying25 V V V ?_;obtain⟨cy,cJ,cK⟩:=bs b0;refine JS.make (pp:=rI) cJ V V V V V Tryz.underlying22 Ax (CX Tryz.type3) (by decide) Ct (by decide) V cw λcM cO cP cQ=>?_;obtain⟨b5,cR,cT⟩:=bs cK;refine C 7 V (Br (λL s=>∃(bb:LH) (aq:Ao) (aw:Nat) (a0:Seg),Jn a8 H bb [a0] [(3,.slice aq (b5).length aw)] L s (OL 3 rI bb aq aw a0 (b5))) ?_ ?_)
 ·rintro _ _ ⟨bb,aq,aw,a0,rfl,rfl,cV,cW,cX⟩;refine C 5 V ?_;obtain rfl:=oi cT;exact AS Tryz.func15 V V (ct (b4.trans cV) V ⟨aq,aw,a0,V,(by first | rfl | simp | (simp [Value.cells])),cX⟩ cW)
 ·intro cY;refine JL.block (Cl cR (λL s Y=>∃(a2:LH) (a3:Ao) (ac:Nat) (a4:Seg),Jn a8 H a2 [a4] [(1,.pointer (some ⟨b3,0,none⟩)),(3,.slice a3 (Y.1).length ac),(4,iV Y.2)] L s (OL 3 rI a2 a3 ac a4 (Y.1))) ⟨a8,(some ⟨cM,0,none⟩),(cy).length,cO,V,V,(Le.refl _),cQ,cP⟩ ?_);rintro _ _ Y ⟨a2,a3,ac,a4,rfl,rfl,ap,b6,ca⟩ cZ ⟨dB,be⟩ c0;have cc:=be;unfold Pa at cc;refine C 4 V (BK 1 (a9.Ah ap) Tryz.underlying28 Gp HZ ?_);refine JL.ln Tryz.underlying26 V V V (C 2 V ?_);refine AV cc (λc1 c3=>?_) (λc1 c4=>?_)
  ·refine C 5 V (BK 1 (a9.Ah ap) Tryz.underlying28 Gp HZ ?_);obtain⟨O,c5,c6⟩:=bs c3;refine C 1 V (JS.ix (co.Ah (b4.trans ap)) c5 Tryz.underlying26 A9 ?_);rintro dC dD _ ⟨_,_,rfl,rfl,⟨_,_,rfl,rfl,rfl⟩⟩ c7;refine BX c7 Da A9 V V (BM b6 Bx λU c8=>?_);refine BF 1 c8 A9 λc9=>?_;refine CF 1 c9 V λda ce ag bi=>?_;obtain⟨dE,db,dc⟩:=bs c6;refine JL.done ?_;obtain⟨a5,f77,dd,Z⟩:=WL.of (ca.Ah ce) db;obtain⟨rfl,rfl⟩:=dd;refine GO [23,25] [a5] [] mixed V (Bb 0 V V ?_);refine CK (v:= .pointer (some ⟨U,0,none⟩)) 1 true V V (λρ h s' K=>DJ (a:=⟨U,0,none⟩) 0 0 Tryz.underlying42 Ax V V V (h _ _ V)) (Fc (v:=iV O.1) 2 V (by decide+kernel) V V V (λρ h s' K=>Yl.load AR (h _ _ V) (At.EK (j:=0) ag K V)) ?_);refine Bb 3 V V (CK (v:= .pointer (some ⟨U,1,none⟩)) 4 true V V (λρ h s' K=>DJ (a:=⟨U,0,none⟩) 0 1 Tryz.underlying42 Ax V V V (h _ _ V)) ?_);refine Fc (v:=iV O.2.1) 5 V (by decide+kernel) V V V (λρ h s' K=>Yl.load AR (h _ _ V) (At.EK (j:=1) ag K V)) (Bb 6 V V ?_);refine CK (v:= .pointer (some ⟨U,0,none⟩)) 7 true V V (λρ h s' K=>DJ (a:=⟨U,0,none⟩) 0 0 Tryz.underlying42 Ax V V V (h _ _ V)) (Fc (v:=iV O.1) 8 V (by decide+kernel) V V V (λρ h s' K=>Yl.load AR (h _ _ V) (At.EK (j:=0) ag K V)) ?_);obtain⟨de,a6,df⟩:=bs dc;obtain⟨_,rfl,dg⟩:=WL.at Z a6;refine JB.ix 9 Z.2 a6 Tryz.underlying22 Ax ?_;refine JB.val (v:=iV de) 10 false V (by decide+kernel) V V V (λρ h s' K=>have K:=K V;Yl.load AR (h _ _ V) (BZ 0 bi V (by simp [Az]) K (dg 0 _ V))) (CK (v:= .pointer (some ⟨U,2,none⟩)) 11 true V V (λρ h s' K=>DJ (a:=⟨U,0,none⟩) 0 2 Tryz.underlying42 Ax V V V (h _ _ V)) ?_);refine Fc (v:=iV O.2.2) 12 V (by decide+kernel) V V V (λρ h s' K=>Yl.load AR (h _ _ V) (At.EK (j:=2) ag K V)) ?_;obtain⟨al,dh,di⟩:=bs df;refine CK 13 true V V (λρ h s' K=>Dp (h _ _ V) (h _ _ V) dh) (Bb 14 V V ?_);refine CK (v:= .pointer (some ⟨U,1,none⟩)) 15 true V V (λρ h s' K=>DJ (a:=⟨U,0,none⟩) 0 1 Tryz.underlying42 Ax V V V (h _ _ V)) (Fc (v:=iV O.2.1) 16 V (by decide+kernel) V V V (λρ h s' K=>Yl.load AR (h _ _ V) (At.EK (j:=1) ag K V)) ?_);obtain⟨dj,a7,dk⟩:=bs di;obtain⟨_,rfl,dn⟩:=WL.at Z a7;refine JB.ix 17 Z.2 a7 Tryz.underlying22 Ax ?_;refine JB.val (v:=iV dj) 18 false V (by decide+kernel) V V V (λρ h s' K=>have K:=K V;Yl.load AR (h _ _ V) (BZ 0 bi V (by simp [Az]) K (dn 0 _ V))) (CK (v:= .pointer (some ⟨U,2,none⟩)) 19 true V V (λρ h s' K=>DJ (a:=⟨U,0,none⟩) 0 2 Tryz.underlying42 Ax V V V (h _ _ V)) ?_);refine Fc (v:=iV O.2.2) 20 V (by decide+kernel) V V V (λρ h s' K=>Yl.load AR (h _ _ V) (At.EK (j:=2) ag K V)) ?_;obtain⟨am,dp,dq⟩:=bs dk;refine CK 21 true V V (λρ h s' K=>Fq (h _ _ V) (h _ _ V) dp) (JB.ix 22 Z.2 a6 Tryz.underlying22 Ax ?_);have ci:=WL.put (x':=al) (ws':= [iV al]) Z Z.2 a6 V;refine DO 23 0 bi Ax trivial ci.2 λdr=>?_;refine JB.ix 24 Z.2 a7 Tryz.underlying22 Ax ?_;have bo:=WL.put (x':=am) (ws':= [iV am]) ci.1 Z.2 a7 V;refine DO 25 0 dr Ax trivial bo.2 λdt=>?_;refine JB.fin (by decide+kernel) ?_;have du:=(bo.1).1;have dv:(((Y.1.set (Int.toNat O.1) al).set (Int.toNat O.2.1) am)).length=(Y.1).length:=(bo.1).2;refine DW (L':= [(1,.pointer (some ⟨b3,0,none⟩)),(3,.slice (some ⟨a5,0,none⟩) (((Y.1.set (Int.toNat O.1) al).set (Int.toNat O.2.1) am)).length ac),(4,iV Y.2)]) ⟨V,by rw [dv];rfl,V,trivial⟩ ?_;obtain⟨dw,dx,dy⟩:=bs dq;refine C 3 V (Bo dx V V V ?_);refine C 2 V ?_;obtain rfl:=oi dy;exact AA (c0 _ _ (((Y.1.set (Int.toNat O.1) al).set (Int.toNat O.2.1) am),dw) ⟨da,(some ⟨a5,0,none⟩),ac,[(a5,.cells (A4 (A4 f77 (Int.toNat (O.1)*1) [iV al]) (Int.toNat (O.2.1)*1) [iV am]) 3 (0,0))],V,V,(ap.trans ce),dt,du⟩ be) V
  ·refine JL.exit V ?_;obtain rfl:=oi c4;obtain rfl:=cZ _ be;exact AA (cY _ _ ⟨a2,a3,ac,a4,V,V,ap,b6,ca⟩) V
def LR(fu_:Nat)(ac:(List Int)×(B2))(K:(List Int)×Int×Nat×(List Int)×Aw×Int):Option (Bm ((List Int)×Int×Nat×(List Int)×Aw×Int) (Aw×B2)):=
 if 0<K.2.2.2.2.2 then(
  (ix ac.1 (K.2.2.2.2.2)).bind λZ=>
  (Av (K.2.2.2.2.2 - 1)).bind λag=>
  (f36 fu_ (K.1,K.2.1,K.2.2.1) ag).bind λY=>
  (ix ac.1 (Y.1)).bind λO=>
  (ix K.2.2.2.1 (Z)).bind λU=>
  (ix K.2.2.2.1 (O)).bind λal=>
  (Av (al+U)).bind λam=>
  (ix K.2.2.2.1 (O)).bind λa3=>
  Option.bind (
   if 0<U then(
    (room K.2.2.2.2.1 (O,Z,U)).bind λap=>
    some ap
   ) else(
    Option.bind (
     if U<0 then(
      (Av (-(U))).bind λaq=>
      (room K.2.2.2.2.1 (Z,O,aq)).bind λaw=>
      some aw
     ) else(
      some K.2.2.2.2.1
     )
    ) λa0=>
    some a0
   )
  ) λa1=>
  (Av (K.2.2.2.2.2 - 1)).bind λa2=>
  some (.more (Y.2.1,Y.2.2.1,Y.2.2.2,(K.2.2.2.1.set (Int.toNat O) am),a1,a2))
 ) else(
  some (.done (K.2.2.2.2.1,K.1,K.2.1,K.2.2.1))
 )
def LU(fu_:Nat)(O:Aw×B2)(U:(List Int)×(B2))(K:Aw×Int):Option (Bm (Aw×Int) (Aw)):=
 if K.2<((O.1).length:Int) then(
  (ix U.1 (K.2)).bind λZ=>
  (ix K.1 (Z)).bind λal=>
  (ix U.1 (K.2)).bind λY=>
  (ix O.1 (K.2)).bind λac=>
  (ix K.1 (Y)).bind λam=>
  (Av (K.2+1)).bind λag=>
  some (.more ((K.1.set (Int.toNat Y) ac),ag))
 ) else(
  some (.done K.1)
 )
def Md(fu_:Nat)(p0:B2)(Z:A5):Option (Aw×(B2)):=
 (Mh fu_ Z).bind λU=>
 (f49 fu_ p0 ((U).length:Int)).bind λK=>
 (Av (((K.1).length:Int) - 1)).bind λac=>
 Option.bind (iter (LR fu_ K) fu_ (K.2.1,K.2.2.1,K.2.2.2,U,[],ac)) λO=>
 (He ((O.1).length:Int) ((0,0,0):Int×Int×Int)).bind λag=>
 (f49 fu_ O.2 ((O.1).length:Int)).bind λY=>
 Option.bind (iter (LU fu_ O Y) fu_ (ag,0)) λal=>
 some (al,Y.2)
theorem ZO{bk:Nat}{a1:Ao}{c2:Nat}{dp:Ao}{dq:Nat}{dr:Ao}{dt:Nat}{p0:B2}{be:A5}(dT:Al rI E a1 c2 (p0.1))(dU:Al (rL rI) E dp dq (be.1))(dV:Al Ay E dr dt (be.2)){fu_:Nat}{r:Aw×(B2)}(du:Md fu_ p0 be=some r):AL J 16 [.pointer (some ⟨bk,0,none⟩),.agg #[.slice dp (be.1).length dq,.slice dr (be.2).length dt]] E [(bk,.cells #[.slice a1 (p0.1).length c2,iV p0.2.1,.int .u64 ((p0.2.2:Nat):Int)] 74 (0,0))] (λw E' B'=>∃(dv:Ao) (dw:Nat) (dx:Ao) (dy:Nat),w= .slice dv (r.1).length dw/\B'= [(bk,.cells #[.slice dx (r.2.1).length dy,iV r.2.2.1,.int .u64 ((r.2.2.2:Nat):Int)] 74 (0,0))]/\Al Ay E' dv dw (r.1)/\Al rI E' dx dy (r.2.1)):=by
 refine Bg Tryz.func16 λQ gV cs H dW dX=>?_;unfold Md at du;refine C 2 V (Dd dW λgW gX b3 dY dZ=>?_);refine C 4 V (BX dY ER CQ V V ?_);obtain⟨gY,ea,eb⟩:=bs du;refine BU (au (dU.Ah b3) (dV.Ah b3) ea) V V (A0 Tryz.func15 V) dZ ?_;rintro _ gZ ec dz ⟨ed,ee,_,rfl,rfl,ef⟩ eg;refine C 6 V (JL.ln Tryz.underlying22 V V V ?_);obtain⟨a4,eh,ei⟩:=bs eb;refine B9 0 (T2 (dT.Ah (b3.trans dz)) eh) V V (A0 Tryz.func57 V) eg V ?_;rintro _ cX _ dA ⟨a5,a6,ej,ek,rfl,rfl,dB,el⟩ em;refine C 10 V (JL.ln Tryz.underlying22 V V V ?_);obtain⟨g0,en,eo⟩:=bs ei;refine Cd en V V V ?_;obtain⟨am,ep,er⟩:=bs eo;refine C 2 V (Br (λL s=>∃(b4:LH) (bi:Ao) (bo:Nat) (cY:Seg) (cZ:Ao) (c0:Nat),Jn cX H b4 [[(bk,.cells #[.slice cZ (am.2.1).length c0,iV am.2.2.1,.int .u64 ((am.2.2.2:Nat):Int)] 74 (0,0))],cY] [(0,.pointer (some ⟨bk,0,none⟩)),(7,.slice bi (am.1).length bo)] L s (OL 42 Ay b4 bi bo cY (am.1)/\Al rI b4 cZ c0 (am.2.1))) ?_ ?_)
 ·rintro _ _ ⟨b4,bi,bo,cY,cZ,c0,rfl,rfl,et,eu,ew,ex⟩;refine JL.seq (B6 1 ew eu V λg1 dC ey ez=>?_);refine C 2 V (JL.ln Tryz.underlying26 V V V ?_);obtain⟨eA,eB,eC⟩:=bs er;refine JS.make (pp:=Ay) eB V V V V V Tryz.underlying26 A9 (CX Tryz.type42) (by decide) Bx (by decide) ⟨_,_,V,V,⟨_,_,V,V,V⟩⟩ ez λeE eF eG eH=>C 6 V (JL.ln Tryz.underlying26 V V V ?_);obtain⟨ap,eI,eJ⟩:=bs eC;refine B9 0 (T2 (ex.Ah dC) eI) V V (A0 Tryz.func57 V) eH V ?_;rintro _ c1 _ c3 ⟨dD,dE,c4,c5,rfl,rfl,eK,eL⟩ eM;obtain⟨dF,eN,eO⟩:=bs eJ;refine C 7 V (Br (λL s=>∃(c6:LH) (b5:Ao) (b6:Nat) (c7:Seg),Jn c1 H c6 [[(bk,.cells #[.slice c4 (ap.2.1).length c5,iV ap.2.2.1,.int .u64 ((ap.2.2.2:Nat):Int)] 74 (0,0))],c7] [(12,.slice b5 (dF).length b6)] L s (OL 42 Ay c6 b5 b6 c7 (dF))) ?_ ?_)
  ·rintro _ _ ⟨c6,b5,b6,c7,rfl,rfl,dG,eP,eQ⟩;refine C 5 V (B6 1 eQ eP V λg3 dH eR eS=>?_);obtain rfl:=oi eO;exact AS Tryz.func16 V V (dX (((((((b3.trans dz).trans dA).trans et).trans dC).trans c3).trans dG).trans dH) V ⟨b5,b6,c4,c5,V,V,eR,(eL.Ah (dG.trans dH))⟩ eS)
  ·intro eT;refine JL.block (Cl eN (λL s al=>∃(bv:LH) (ca:Ao) (a7:Nat) (cc:Seg),Jn c1 H bv [[(bk,.cells #[.slice c4 (ap.2.1).length c5,iV ap.2.2.1,.int .u64 ((ap.2.2.2:Nat):Int)] 74 (0,0))],cc] [(7,.slice bi (am.1).length bo),(12,.slice ca (al.1).length a7),(13,.slice dD (ap.1).length dE),(14,iV al.2)] L s (OL 42 Ay bv ca a7 cc (al.1))) ⟨c1,(some ⟨eE,0,none⟩),(eA).length,eF,V,V,(Le.refl _),eM,(eG.Ah c3)⟩ ?_);rintro _ _ al ⟨bv,ca,a7,cc,rfl,rfl,ce,dI,dJ⟩ eU ⟨g4,c8⟩ eV;have dK:=c8;unfold LU at dK;refine C 5 V (JL.ln Tryz.underlying26 V V V ?_);refine C 2 V (AV dK (λeW eX=>?_) (λeW eY=>?_))
   ·obtain⟨g5,g6,eZ⟩:=bs eX;obtain⟨g7,e0,e1⟩:=bs eZ;refine C 3 V ?_;obtain⟨ci,f145,e3,co⟩:=WL.of dJ e0;obtain⟨rfl,rfl⟩:=e3;refine GO [10] [ci] [] mixed V (Bb 0 V V ?_);refine Bb 1 V V (Bb 2 V V ?_);obtain⟨bw,e4,e5⟩:=bs e1;obtain⟨e6,e7,_,rfl,e8,e9⟩:=Al.Um (P:=Tryz.prog) (eK.Ah ce) e4;refine JB.val (v:= .pointer (some ⟨e6,e7,none⟩)) 3 true V (by decide+kernel) V V V (λρ h s' a8=>e9 Tryz.underlying22 Ax (h _ _ V) (h _ _ V)) (Fc (v:=iV bw) 4 V (by decide+kernel) V V V (λρ h s' a8=>Yl.load AR (h _ _ V) (At.EK (j:=0) e8 a8 V)) ?_);refine Bb 5 V V (Bb 6 V V ?_);obtain⟨O,fa,fb⟩:=bs e5;obtain⟨fc,fe,_,⟨_,_,rfl,rfl,⟨_,_,rfl,rfl,rfl⟩⟩,ff,fg⟩:=Al.Um (P:=Tryz.prog) (ey.Ah (c3.trans ce)) fa;refine JB.val (v:= .pointer (some ⟨fc,fe,none⟩)) 7 true V (by decide+kernel) V V V (λρ h s' a8=>fg Tryz.underlying26 A9 (h _ _ V) (h _ _ V)) (Fc (v:= .agg #[iV O.1,iV O.2.1,iV O.2.2]) 8 V (by decide+kernel) V V V (λρ h s' a8=>H9 (vs:= [iV O.1,iV O.2.1,iV O.2.2]) Da A9 (h _ _ V) (At.Pv ff a8)) ?_);obtain⟨g8,c9,fh⟩:=bs fb;obtain⟨_,⟨_,_,rfl,rfl,⟨_,_,rfl,rfl,rfl⟩⟩,g9⟩:=WL.at co c9;refine JB.ix 9 co.2 c9 Tryz.underlying26 A9 ?_;have da:=WL.put (x':=O) (ws':= [iV O.1,iV O.2.1,iV O.2.2]) co co.2 c9 ⟨_,_,V,V,⟨_,_,V,V,V⟩⟩;refine DO 10 1 dI A9 trivial da.2 λfj=>?_;refine JB.fin (by decide+kernel) ?_;have fk:=(da.1).1;have fl:((al.1.set (Int.toNat bw) O)).length=(al.1).length:=(da.1).2;refine DW (L':= [(7,.slice bi (am.1).length bo),(12,.slice (some ⟨ci,0,none⟩) ((al.1.set (Int.toNat bw) O)).length a7),(13,.slice dD (ap.1).length dE),(14,iV al.2)]) ⟨V,by rw [fl];rfl,V,V,trivial⟩ ?_;obtain⟨fm,fo,fp⟩:=bs fh;refine C 3 V (Bo fo V V V ?_);refine C 2 V ?_;obtain rfl:=oi fp;exact AA (eV _ _ ((al.1.set (Int.toNat bw) O),fm) ⟨bv,(some ⟨ci,0,none⟩),a7,[(ci,.cells (A4 f145 (Int.toNat (bw)*3) [iV O.1,iV O.2.1,iV O.2.2]) 42 (0,0))],V,V,ce,fj,fk⟩ c8) V
   ·refine JL.exit V ?_;obtain rfl:=oi eY;obtain rfl:=eU _ c8;exact AA (eT _ _ ⟨bv,ca,a7,cc,V,V,ce,dI,dJ⟩) V
 ·intro fq;refine JL.block (Cl ep (λL s K=>∃(a9:LH) (cp:Ao) (ct:Nat) (Z:Ao) (ac:Nat) (db:Seg) (aq:Ao) (aw:Nat) (b0:Seg),Jn cX H a9 [[(bk,.cells #[.slice cp (K.1).length ct,iV K.2.1,.int .u64 ((K.2.2.1:Nat):Int)] 74 (0,0))],db,b0] [(0,.pointer (some ⟨bk,0,none⟩)),(5,.slice Z (K.2.2.2.1).length ac),(6,.slice a5 (a4.1).length a6),(7,.slice aq (K.2.2.2.2.1).length aw),(8,iV K.2.2.2.2.2)] L s (Al rI a9 cp ct (K.1)/\OL 3 rI a9 Z ac db (K.2.2.2.1)/\OL 42 Ay a9 aq aw b0 (K.2.2.2.2.1))) ⟨cX,ej,ek,ed,ee,ec,none,0,[],V,V,(Le.refl _),em,el,(ef.Ah dA),OL.nil⟩ ?_);rintro _ _ K ⟨a9,cp,ct,Z,ac,db,aq,aw,b0,rfl,rfl,cw,dL,dM,dc,cy⟩ fs ⟨ha,dd⟩ fu;have dN:=dd;unfold LR at dN;refine C 6 V (AV dN (λfv fw=>?_) (λfv fx=>?_))
  ·refine C 4 V (EV 12 λa0=>?_);refine Bc a0 V [0,1] V ?_;obtain⟨a3,fy,fz⟩:=bs fw;refine Fe 2 (dB.Ah cw) fy a0 Tryz.underlying22 Ax ?_;rintro fA fB _ rfl fC;refine Er 3 a0 0 fC AR V V V V (Bc a0 V [4,5,6] V ?_);obtain⟨dO,fD,fE⟩:=bs fz;refine AP 7 a0 V V (λρ h s' a8=>Dp (h _ _ V) (h _ _ V) fD) ?_;obtain⟨ag,fF,fG⟩:=bs fE;refine MR (i:=8) (vs:= [.pointer (some ⟨bk,0,none⟩),iV dO]) 0 (λ_ h=>by cases h) (JN dM fF) (by decide+kernel) V V V Jq V dL V ?_;rintro _ b1 _ a2 ⟨de,df,rfl,rfl,fH⟩ dg;obtain⟨U,fI,fJ⟩:=bs fG;refine Fe 9 (dB.Ah (cw.trans a2)) fI a0 Tryz.underlying22 Ax ?_;rintro fK fL _ rfl fM;refine Er 10 a0 0 fM AR V V V V (Ds 11 a0 V V ?_);refine Dc [12] ?_;obtain⟨bb,fN,fO⟩:=bs fJ;refine C 6 V (I6 1 (dc.Ah a2) fN V V V V V V Tryz.underlying22 Ax ?_);rintro fP fQ f223 _ fR rfl fS hb hc hd he;refine Am (v:=iV bb) V (λρ h=>Yl.load AR (h _ _ V) (BR (j:=1) dg fR (fS 0 _ V))) ?_;obtain⟨dP,fT,fU⟩:=bs fO;refine C 8 V (I6 1 (dc.Ah a2) fT V V V V V V Tryz.underlying22 Ax ?_);rintro fW fX f234 _ fY rfl fZ hf hg hj hk;refine Am (v:=iV dP) V (λρ h=>Yl.load AR (h _ _ V) (BR (j:=1) dg fY (fZ 0 _ V))) ?_;obtain⟨Y,ga,gb⟩:=bs fU;refine C 1 V (Bo ga V V V ?_);obtain⟨hl,gc,ge⟩:=bs gb;refine I6 1 (dc.Ah a2) gc V V V V V V Tryz.underlying22 Ax ?_;rintro cJ b2 dh _ gf rfl hm gg gh hn ho;refine JS.store (v:=iV Y) (off:=b2) 1 V V V dg V V Ax (by simp [Value.cells,CJ]) gf (by have:=gg;simp only [Rp.n,rK,rN,rB,rP,rL] at this;show _+1<=_;omega) λdi=>?_;have gi:=gh (Y) [iV Y] V;have cK:(K.2.2.2.1.set (Int.toNat U) Y).length=(K.2.2.2.1).length:=List.length_set;refine DW (L':= [(0,.pointer (some ⟨bk,0,none⟩)),(5,.slice Z ((K.2.2.2.1.set (Int.toNat U) Y)).length ac),(6,.slice a5 (a4.1).length a6),(7,.slice aq (K.2.2.2.2.1).length aw),(8,iV K.2.2.2.2.2),(24,iV K.2.2.2.2.2),(25,.bool (decide (0<K.2.2.2.2.2))),(28,.slice a5 (a4.1).length a6),(29,iV K.2.2.2.2.2),(30,.pointer (some ⟨fA,fB,none⟩)),(31,iV a3),(32,.slice a5 (a4.1).length a6),(33,.pointer (some ⟨bk,0,none⟩)),(34,iV K.2.2.2.2.2),(35,iV dO),(36,iV ag.1),(37,.pointer (some ⟨fK,fL,none⟩)),(38,iV U),(9,iV a3),(10,iV U),(39,.slice Z ((K.2.2.2.1.set (Int.toNat U) Y)).length ac),(40,iV a3),(41,.pointer (some ⟨fP,fQ,none⟩)),(42,iV bb),(11,iV bb),(43,.slice Z ((K.2.2.2.1.set (Int.toNat U) Y)).length ac),(44,iV U),(45,.slice Z ((K.2.2.2.1.set (Int.toNat U) Y)).length ac),(46,iV U),(47,.pointer (some ⟨fW,fX,none⟩)),(48,iV dP),(49,iV bb),(50,iV Y),(51,.pointer (some ⟨cJ,b2,none⟩))]) ⟨V,by rw [cK];rfl,V,V,V,V,V,V,V,V,V,V,V,V,V,V,V,V,V,V,by rw [cK];rfl,V,V,V,V,by rw [cK];rfl,V,by rw [cK];rfl,V,V,V,V,V,V,trivial⟩ ?_;obtain⟨dj,gj,gk⟩:=bs ge;refine C 6 V (Br (λL s=>∃(cM:LH) (cO:Ao) (cP:Nat) (cQ:Seg),Jn b1 H cM [[(bk,.cells #[.slice de (ag.2.1).length df,iV ag.2.2.1,.int .u64 ((ag.2.2.2:Nat):Int)] 74 (0,0))],[(cJ,.cells (A4 dh b2 [iV Y]) 3 (0,0))],cQ] [(0,.pointer (some ⟨bk,0,none⟩)),(5,.slice Z ((K.2.2.2.1.set (Int.toNat U) Y)).length ac),(6,.slice a5 (a4.1).length a6),(7,.slice cO (dj).length cP),(8,iV K.2.2.2.2.2)] L s (OL 42 Ay cM cO cP cQ (dj))) ?_ ?_)
   ·rintro _ _ ⟨cM,cO,cP,cQ,rfl,rfl,dk,gl,gm⟩;obtain⟨gn,gp,gq⟩:=bs gk;refine C 3 V (Cd gp V V V ?_);refine C 2 V ?_;obtain rfl:=oi gq;exact AA (fu _ _ (ag.2.1,ag.2.2.1,ag.2.2.2,(K.2.2.2.1.set (Int.toNat U) Y),dj,gn) ⟨cM,de,df,Z,ac,[(cJ,.cells (A4 dh b2 [iV Y]) 3 (0,0))],cO,cP,cQ,V,V,((cw.trans a2).trans dk),gl,(fH.Ah dk),(gi.Ah dk),gm⟩ dd) V
   ·intro dQ;refine AV gj (λgr gt=>?_) (λgr gu=>?_)
    ·refine C 5 V (Am (v:= .agg #[iV U,iV a3,iV bb]) V (λρ h=>CI [(0,1),(1,1),(2,1)] h Bx Tryz.underlying42 ⟨V,AN Tryz.type3,V,AN Tryz.type3,V,AN Tryz.type3,trivial⟩ V V) ?_);obtain⟨hp,gv,gw⟩:=bs gt;refine JS.app (pp:=Ay) (v:= .agg #[iV U,iV a3,iV bb]) (a:=aq) (c:=aw) 2 gv V V V V (λ_=>V) V (λ_=>V) V V V Tryz.underlying26 Tryz.underlying26 Tryz.underlying26 A9 (CX Tryz.type42) Bx V (by decide) (by decide) (by decide) (by decide) (cy.Ah a2) ⟨_,_,V,V,⟨_,_,V,V,V⟩⟩ di V λhq gx gy gz gA gB=>C 2 V ?_;obtain rfl:=oi gw;exact AA (dQ _ _ ⟨b1,gx,gy,gz,V,V,(Le.refl _),gB,gA⟩) V
    ·obtain⟨dR,gC,gD⟩:=bs gu;refine C 5 V (Br (λL s=>∃(cR:LH) (cT:Ao) (cV:Nat) (cW:Seg),Jn b1 H cR [[(bk,.cells #[.slice de (ag.2.1).length df,iV ag.2.2.1,.int .u64 ((ag.2.2.2:Nat):Int)] 74 (0,0))],[(cJ,.cells (A4 dh b2 [iV Y]) 3 (0,0))],cW] [(0,.pointer (some ⟨bk,0,none⟩)),(5,.slice Z ((K.2.2.2.1.set (Int.toNat U) Y)).length ac),(6,.slice a5 (a4.1).length a6),(7,.slice cT (dR).length cV),(8,iV K.2.2.2.2.2)] L s (OL 42 Ay cR cT cV cW (dR))) ?_ ?_)
     ·rintro _ _ ⟨cR,cT,cV,cW,rfl,rfl,gE,gF,gG⟩;obtain rfl:=oi gD;exact AA (dQ _ _ ⟨cR,cT,cV,cW,V,V,gE,gF,gG⟩) V
     ·intro dS;refine AV gC (λgH gI=>?_) (λgH gJ=>?_)
      ·obtain⟨dn,gK,gL⟩:=bs gI;refine C 5 V (Am (v:=iV dn) V (λρ h=>G9 (h _ _ V) gK) ?_);refine Am (v:= .agg #[iV a3,iV U,iV dn]) V (λρ h=>CI [(0,1),(1,1),(2,1)] h Bx Tryz.underlying42 ⟨V,AN Tryz.type3,V,AN Tryz.type3,V,AN Tryz.type3,trivial⟩ V V) ?_;obtain⟨hr,gM,gO⟩:=bs gL;refine JS.app (pp:=Ay) (v:= .agg #[iV a3,iV U,iV dn]) (a:=aq) (c:=aw) 2 gM V V V V (λ_=>V) V (λ_=>V) V V V Tryz.underlying26 Tryz.underlying26 Tryz.underlying26 A9 (CX Tryz.type42) Bx V (by decide) (by decide) (by decide) (by decide) (cy.Ah a2) ⟨_,_,V,V,⟨_,_,V,V,V⟩⟩ di V λhs gP gQ gR gS gT=>C 2 V ?_;obtain rfl:=oi gO;exact AA (dS _ _ ⟨b1,gP,gQ,gR,V,V,(Le.refl _),gT,gS⟩) V
      ·refine JL.skip ?_;obtain rfl:=oi gJ;exact AA (dS _ _ ⟨b1,aq,aw,b0,V,V,(Le.refl _),di,(cy.Ah a2)⟩) V
  ·refine JL.exit V (JS.drop 1 dL V λgU=>?_);obtain rfl:=oi fx;obtain rfl:=fs _ dd;exact AA (fq _ _ ⟨a9,aq,aw,b0,cp,ct,V,V,cw,gU,cy,dM⟩) V
end Pal
namespace Pal
abbrev z5:List Int:=List.replicate 5 0
def GD(n:Nat)(d:DT):Prop:=0<=d.1/\d.1<(n:Int)/\0<=d.2.1/\d.2.1<(n:Int)/\d.1≠d.2.1/\1<=d.2.2/\d.2.2<=72
theorem VD.gd{n:Nat}{d:DT}(h:VD n d):GD n d:=⟨h.1,h.2.1,h.2.2.1,h.2.2.2.1,h.2.2.2.2.1,h.2.2.2.2.2.1,by have:=h.2.2.2.2.2.2;omega⟩
theorem Y1{F n:Nat}{d:DT}(O:n<1000)(h:GD n d):f86 F d (n:Int) 72=some 0:=by
 obtain⟨U,Y,Z,ac,K,ag,al⟩:=h;show f88 F (n:Int) d 72=some 0;refine ES ?_;unfold f88;refine Ch ((n:Int) - 1) V (by omega) (by omega) (Bq (Km _ _ _ _) ?_);refine Bq (b:=false) ?_ ?_
 ·rw [if_neg (by simp;omega)];refine ES (Ch ((n:Int) - 1) V (by omega) (by omega) (Bq (Km _ _ _ _) (Bi ?_)));simp;omega
 refine Dx (by simp) (Dx K ?_);exact Bq (Km _ _ _ _) (Dx (by simp;omega) (Bi V))
def eD(d:DT):Nat:=(max d.1 d.2.1 - 1).toNat+4*(min d.1 d.2.1).toNat
theorem P2{n:Nat}{d:DT}(K:n<=5)(h:GD n d):eD d<20:=by
 obtain⟨O,U,Y,Z,_⟩:=h;unfold eD;omega
theorem SU{F n:Nat}{d:DT}(ac:n<=5)(h:GD n d):f106 F d.1 d.2.1=some (2 ^ eD d):=by
 obtain⟨O,U,Y,Z,K,_⟩:=h;obtain⟨x,y,p⟩:=d;simp only at O U Y Z K;have key:∀a b:Fin 5,a≠b->f106 0 ((a.val:Nat):Int) ((b.val:Nat):Int)=some (2 ^ eD (((a.val:Nat):Int),((b.val:Nat):Int),0)):=by decide+kernel
 obtain⟨a,rfl⟩:∃a:Nat,x=(a:Int):=⟨x.toNat,by omega⟩;obtain⟨b,rfl⟩:∃b:Nat,y=(b:Int):=⟨y.toNat,by omega⟩;exact key ⟨a,by omega⟩ ⟨b,by omega⟩ (λe=>K (by rw [Fin.mk.injEq] at e;omega))
theorem bN{n:Nat}{d d':DT}(Y:n<=5)(h:GD n d)(K:GD n d')(e:eD d=eD d'):(d.1=d'.1/\d.2.1=d'.2.1)∨(d.1=d'.2.1/\d.2.1=d'.1):=by
 obtain⟨Z,ac,ag,al,O,_⟩:=h;obtain⟨am,g2,ap,aq,U,_⟩:=K;unfold eD at e;rcases Int.lt_or_gt_of_ne O with k | k <;> rcases Int.lt_or_gt_of_ne U with k' | k'
 ·rw [Int.max_eq_right (by omega),Int.min_eq_left (by omega),Int.max_eq_right (by omega),Int.min_eq_left (by omega)] at e;omega
 ·rw [Int.max_eq_right (by omega),Int.min_eq_left (by omega),Int.max_eq_left (by omega),Int.min_eq_right (by omega)] at e;omega
 ·rw [Int.max_eq_left (by omega),Int.min_eq_right (by omega),Int.max_eq_right (by omega),Int.min_eq_left (by omega)] at e;omega
 ·rw [Int.max_eq_left (by omega),Int.min_eq_right (by omega),Int.max_eq_left (by omega),Int.min_eq_right (by omega)] at e;omega
def Gb(l:List DT):Nat:=l.foldl (λm d=>m ||| 2 ^ eD d) 0
theorem VZ(l:List DT)(d:DT):Gb (l++ [d])=Gb l ||| 2 ^ eD d:=by unfold Gb;rw [List.foldl_append];rfl
theorem RS(l:List DT)(k:Nat):(Gb l).testBit k=true↔k∈l.map eD:=by
 have:∀(l:List DT) (m:Nat),(l.foldl (λm d=>m ||| 2 ^ eD d) m).testBit k=true↔m.testBit k=true∨k∈l.map eD:=by
  intro l
  induction l with
  | nil=>simp
  | cons d l K=>
   intro m;rw [List.foldl_cons,K,Nat.testBit_or,Nat.testBit_two_pow,List.map_cons,List.mem_cons];simp only [Bool.or_eq_true,decide_eq_true_eq];constructor
   ·rintro((h | h) | h)
    ·exact .inl h
    ·exact .inr (.inl h.symm)
    ·exact .inr (.inr h)
   ·rintro(h | h | h)
    ·exact .inl (.inl h)
    ·exact .inl (.inr h.symm)
    ·exact .inr h
 rw [Gb,this];simp
theorem SA{n:Nat}(K:n<=5){l:List DT}(h:∀d∈l,GD n d):Gb l<2 ^ 20:=by
 refine Nat.lt_pow_two_of_testBit _ λi hi=>?_;rcases hb:(Gb l).testBit i with _ | _
 ·rfl
 ·obtain⟨d,hd,e⟩:=List.mem_map.1 ((RS l i).1 hb);have:=P2 K (h d hd);omega
theorem Ym{F n:Nat}{l:List DT}{d:DT}(U:n<=5)(Z:∀d∈l,GD n d)(h:GD n d):f136 F (Gb l) d.1 d.2.1=some (decide (eD d∈l.map eD)):=by
 have ac:(2:Nat) ^ eD d<2 ^ 20:=Nat.pow_lt_pow_right (by decide) (P2 U h);have hm:=SA U Z;refine ES ?_;unfold f136;refine Bq (SU U h) ?_;refine Bq (b:=Gb l&&& 2 ^ eD d) (by unfold NB;rw [if_pos (by omega)]) (Bi ?_);have e:(Gb l&&& 2 ^ eD d=0)↔¬(Gb l).testBit (eD d)=true:=by
  constructor
  ·intro O K;have:(Gb l&&& 2 ^ eD d).testBit (eD d)=true:=by rw [Nat.testBit_and,K,Nat.testBit_two_pow];simp
   rw [O,Nat.zero_testBit] at this;cases this
  ·intro O;refine Nat.eq_of_testBit_eq λi=>?_;rw [Nat.testBit_and,Nat.testBit_two_pow,Nat.zero_testBit];by_cases hi:eD d=i
   ·subst hi;simp at O;rw [O];rfl
   ·simp [hi]
 rw [RS] at e;apply decide_eq_decide.2;constructor
 ·intro K;exact Classical.byContradiction λY=>K (by rw [e.2 Y])
 ·intro K Y;exact e.1 (by omega) K
theorem Yv{F n:Nat}{l:List DT}{d:DT}(K:n<=5)(O:∀d∈l,GD n d)(h:GD n d):Mi F (Gb l) d.1 d.2.1=some (Gb (l++ [d])):=by
 have U:(2:Nat) ^ eD d<2 ^ 20:=Nat.pow_lt_pow_right (by decide) (P2 K h);have hm:=SA K O;refine ES ?_;unfold Mi;refine Bq (SU K h) ?_;refine Bq (b:=Gb l ||| 2 ^ eD d) (by unfold NJ;rw [if_pos (by omega)]) (Bi (VZ l d).symm)
theorem BN.pay{B:Int}{w:List Int}{n:Nat}{d:DT}(h:BN B w)(U:n<=5)(g:GD n d):BN (B+144) (CU w d):=by
 obtain⟨K,Y,O,Z,ac,ag,al⟩:=g;exact((h.add (i:=d.1) (v:=d.2.2) (V:=72) K (by omega) (by omega) (by omega)).add (i:=d.2.1) (v:= -d.2.2) (V:=72) O (by omega) (by omega) (by omega)).Ah (by omega)
theorem QD{α:Type} [DecidableEq α] {x:List α}{i:Nat}(hi:i<x.length):(x.take (i+1)).Nodup↔(x.take i).Nodup/\x[i] ∉ x.take i:=by
 rw [List.take_add_one,List.getElem?_eq_getElem hi,Option.toList_some,List.nodup_append];constructor
 ·rintro⟨K,_,O⟩;exact⟨K,λh=>O _ h _ (List.mem_singleton.2 V) V⟩
 ·rintro⟨K,O⟩;exact⟨K,by simp,λa U b hb e=>O (by rw [List.mem_singleton] at hb;subst hb;subst e;exact U)⟩
theorem XL{F:Nat}{o:OW}{x:List DT}(am:100<F)(h:VO o)(Y:∀d∈x,GD o.1.length d)(a0:x.length<=8):
  Mg F o x=some (if(x.map eD).Nodup then(if x.foldl CU (Cm o)=z5 then none else some 9) else some 4):=by
 have Z:=h.n5;refine ES ?_;unfold Mg;refine Dx (by omega) ?_;obtain⟨a1,ap⟩:=LW am h;refine Bq a1 ?_;refine Cb (S:=λr=>(r=Sum.inl (some 4)/\¬(x.map eD).Nodup)∨(r=Sum.inr (x.foldl CU (Cm o))/\(x.map eD).Nodup)) ?_ ?_
 ·refine Gs x.length (λi s=>s=((x.take i).foldl CU (Cm o),Gb (x.take i),(i:Int))/\((x.map eD).take i).Nodup/\BN (200+144*i) ((x.take i).foldl CU (Cm o))) ⟨V,.nil,ap.Ah (by omega)⟩ (by omega) ?_ ?_
  ·rintro i _ hi ⟨rfl,K,hb⟩;unfold M9;refine FT (by simp only;omega) (EU (m:=i) V hi ?_);have O:=Y _ (List.getElem_mem hi);have ac:∀d∈x.take i,GD o.1.length d:=λd hd=>Y d (List.mem_of_mem_take hd);refine Bq (Y1 (by omega) O) (Dx (by simp) ?_);refine Bq (Ym Z ac O) ?_;have ag:i<(x.map eD).length:=by simpa using hi
   have al:(x.map eD)[i]=eD x[i]:=by simp
   rw [List.map_take];refine GM (λhm=>Bi ?_) (λhm=>?_)
   ·refine .inl ⟨V,λaq=>?_⟩;have:=((QD ag).1 (aq.sublist (List.take_sublist _ _))).2;rw [al] at this;exact this (of_decide_eq_true hm)
   ·refine Bq (Yv Z ac O) ?_;obtain⟨a2,g2,a3,a4,a5,a6,a7⟩:=O;obtain⟨aw,_⟩:=Ya (F:=F) (d:=x[i]) hb (by omega) (by omega) (by omega) (by omega) (by omega) (by omega) (by omega);refine Bq aw (Ch ((i+1:Nat):Int) (by simp) (by omega) (by omega) ?_);refine Bi ⟨?_,(QD ag).2 ⟨K,by rw [al];simpa using hm⟩,?_⟩
    ·rw [List.take_add_one,List.getElem?_eq_getElem hi,Option.toList_some,List.foldl_append];rfl
    ·rw [List.take_add_one,List.getElem?_eq_getElem hi,Option.toList_some,List.foldl_append];exact(BN.pay hb Z (Y _ (List.getElem_mem hi))).Ah (by omega)
  ·rintro _ ⟨rfl,K,hb⟩;unfold M9;refine Dx (by simp only;omega) (Bi ⟨_,V,.inr ⟨?_,?_⟩⟩)
   ·rw [List.take_length]
   ·rwa [List.take_of_length_le (by simp)] at K
 ·rintro r (⟨rfl,K⟩ | ⟨rfl,K⟩)
  ·rw [if_neg K];exact Bi V
  ·rw [if_pos K];simp only [Sum.elim_inr];by_cases U:x.foldl CU (Cm o)=z5
   ·rw [if_pos U];exact Dx (λh=>h U) (Bi V)
   ·rw [if_neg U];exact FT U (Bi V)
theorem SN{F:Nat}{o:OW}{x:List DT}(K:100<F)(h:VO o)(O:∀d∈x,GD o.1.length d)(U:x.length<=8):
  Ll F o x=some (if(x.map eD).Nodup then(if x.foldl CU (Cm o)=z5 then 0 else 9) else 4):=by
 refine ES ?_;unfold Ll;refine Bq (T8 K h) (Dx (by simp) ?_);refine Bq (XL K h O U) (Bq (b:=if(x.map eD).Nodup then(if x.foldl CU (Cm o)=z5 then 0 else 9) else 4) ?_ (Bi V))
 split
 ·split
  ·show N6 F=some 0
   rfl
  ·rfl
 ·rfl
def cN(j:Nat)(d:DT):Int:=(if(j:Int)=d.2.1 then d.2.2 else 0)+(if(j:Int)=d.1 then -d.2.2 else 0)
theorem Sf{w:List Int}{d:DT}(h:w.length=5):(CU w d).length=5:=by unfold CU FI;rw [List.length_set,List.length_set];exact h
theorem Nm{w:List Int}{d:DT}{n:Nat}(h:w.length=5)(U:n<=5)(g:GD n d)(j:Nat):gN (CU w d) j=gN w j - cN j d:=by
 obtain⟨K,Y,O,Z,_⟩:=g;unfold CU cN;rw [Ja (by unfold FI;rw [List.length_set];exact h) O (by omega),Ja h K (by omega)];split <;> split <;> omega
theorem YF{w:List Int}{d:DT}{n:Nat}(h:w.length=5)(U:n<=5)(g:GD n d)(j:Nat):gN (EN w d) j=gN w j+cN j d:=by
 obtain⟨K,Y,O,Z,_⟩:=g;rw [YX h K (by omega) O (by omega)];unfold cN;omega
theorem KZ{n:Nat}(K:n<=5):∀(x:List DT) (w:List Int),w.length=5->(∀d∈x,GD n d)->(x.foldl CU w).length=5/\∀j,gN (x.foldl CU w) j=gN w j - (x.map (cN j)).sum
 | [],w,h,_=>⟨h,by simp⟩
 | d::x,w,h,O=>by
  obtain⟨U,Y⟩:=KZ K x (CU w d) (Sf h) (λe he=>O e (List.mem_cons_of_mem _ he))
  refine⟨U,λj=>?_⟩
  rw [List.foldl_cons,Y,Nm h K (O d List.mem_cons_self),List.map_cons,List.sum_cons];omega
theorem Ri{n:Nat}(K:n<=5):∀(x:List DT) (w:List Int),w.length=5->(∀d∈x,GD n d)->(x.foldl EN w).length=5/\∀j,gN (x.foldl EN w) j=gN w j+(x.map (cN j)).sum
 | [],w,h,_=>⟨h,by simp⟩
 | d::x,w,h,O=>by
  obtain⟨U,Y⟩:=Ri K x (EN w d) (R9 h) (λe he=>O e (List.mem_cons_of_mem _ he))
  refine⟨U,λj=>?_⟩
  rw [List.foldl_cons,Y,YF h K (O d List.mem_cons_self),List.map_cons,List.sum_cons];omega
theorem Mc(j:Nat):gN z5 j=0:=by
 unfold gN;rw [List.getD_eq_getElem?_getD,List.getElem?_replicate];split <;> rfl
theorem Wr{n:Nat}{w:List Int}{x:List DT}(K:n<=5)(hw:w.length=5)(O:∀d∈x,GD n d)(h:x.foldl CU w=z5):x.foldl EN z5=w:=by
 obtain⟨_,U⟩:=KZ K x w hw O;obtain⟨k1,Y⟩:=Ri K x z5 V O;refine OQ k1 hw λj _=>?_;have:=U j;rw [h,Mc] at this;rw [Y,Mc];omega
theorem W1{l l':List Int}(h:l.Perm l'):l.sum=l'.sum:=by
 induction h with
 | nil=>rfl
 | cons _ _ K=>rw [List.sum_cons,List.sum_cons,K]
 | swap a b l=>simp only [List.sum_cons];omega
 | trans _ _ a b=>exact a.trans b
theorem WA{n:Nat}{w:List Int}{x y:List DT}(K:n<=5)(hw:w.length=5)(O:∀d∈x,GD n d)(U:x.Perm y):x.foldl CU w=y.foldl CU w:=by
 obtain⟨a1,Y⟩:=KZ K x w hw O;obtain⟨Z,ac⟩:=KZ K y w hw (λd hd=>O d (U.mem_iff.2 hd));refine OQ a1 Z λj _=>?_;rw [Y,ac,W1 (U.map (cN j))]
def S5(w:List Int):Int:=EC w λ_=>true
theorem Y5{w:List Int}{d:DT}{n:Nat}(h:w.length=5)(U:n<=5)(g:GD n d):S5 (CU w d)=S5 w:=by
 obtain⟨K,Y,O,Z,_⟩:=g;unfold S5 CU;rw [MX (by unfold FI;rw [List.length_set];exact h) O (by omega),MX h K (by omega)];simp;omega
theorem Sy(A:Nat->Bool):EC z5 A=0:=by unfold EC;simp [Mc]
theorem Ua{o:OW}(h:VO o)(A:Nat->Bool): -72<=EC (Cm o) A/\EC (Cm o) A<=72:=by
 have O:=h.d8;have:∀l:List DT,(∀d∈l,VD o.1.length d)-> -(9*(l.length:Int))<=(l.map (s1 A)).sum/\(l.map (s1 A)).sum<=9*l.length:=by
  intro l
  induction l with
  | nil=>simp
  | cons d l K=>
   intro hd;have:=K λe he=>hd e (List.mem_cons_of_mem _ he);obtain⟨_,_,_,_,_,U,Y⟩:=hd d List.mem_cons_self;rw [List.map_cons,List.sum_cons,List.length_cons];have: -9<=s1 A d/\s1 A d<=9:=by unfold s1;split <;> split <;> omega
   omega
 have k:=this o.2 h.ds;have e:=OM A o.2 z5 h.Up V;rw [Sy] at e;show -72<=EC (o.2.foldl EN z5) A/\EC (o.2.foldl EN z5) A<=72;omega
theorem Ul{o:OW}(h:VO o):S5 (Cm o)=0:=by
 have:∀l:List DT,(l.map (s1 λ_=>true)).sum=0:=by
  intro l
  induction l with
  | nil=>rfl
  | cons d l K=>rw [List.map_cons,List.sum_cons,K];unfold s1;simp;omega
 unfold S5 Cm;rw [OM _ _ _ h.Up rfl,Sy,this];rfl
open Go Go.Conc Go.Proofs
def N1(fu_:Nat)(p0:List Int):Option (Bool):=
 (f20 fu_ p0).bind λac=>
 (f31 fu_ ac 5 8).bind λK=>
 (f43 fu_ K.1).bind λO=>
 Option.bind (
  if O.2≠0 then(
   some true
  ) else(
   (Mk fu_ O.1).bind λag=>
   some (decide (ag≠0))
  )
 ) λal=>
 Option.bind (
  if al=true then(
   some true
  ) else(
   (f55 fu_ K.1).bind λam=>
   (f29 fu_ O.1 am).bind λap=>
   some (!ap)
  )
 ) λaq=>
 if aq=true then(
  some false
 ) else(
  (Md fu_ K.2 K.1).bind λU=>
  (Mj fu_ ((O.1).length:Int) U.1).bind λY=>
  Option.bind (
   if(!Y.2)=true then(
    some true
   ) else(
    (f29 fu_ Y.1 O.1).bind λaw=>
    some (!aw)
   )
  ) λa0=>
  Option.bind (
   if a0=true then(
    some true
   ) else(
    (Ll fu_ K.1 U.1).bind λa1=>
    some (decide (a1≠0))
   )
  ) λa2=>
  if a2=true then(
   some false
  ) else(
   (N2 fu_ U.1).bind λa3=>
   (f40 fu_ U.2 ((O.1).length:Int)).bind λa4=>
   (Dy a3 ([a4.1]:Aw)).bind λa5=>
   (Ll fu_ K.1 a5).bind λZ=>
   Option.bind (
    if Z=9 then(
     some true
    ) else(
     some (decide (Z=4))
    )
   ) λa6=>
   Option.bind (
    if a6=true then(
     (f18 fu_).bind λa7=>
     some a7
    ) else(
     some false
    )
   ) λa8=>
   some a8
  )
 )
theorem W8{E H:LH}{a1:Ao}{c2:Nat}{p0:List Int}(b0:GE E)(cZ:Al rI E a1 c2 (p0)){fu_:Nat}{r:Bool}(b1:N1 fu_ p0=some r):(GK Tryz.prog).ok (LQ Tryz.prog (λv _=>v= .bool r)) (G (Frame.enter Tryz.prog 3 ([.slice a1 (p0).length c2]:Lv_).toArray .normal) []) (mk E H []):=by
 refine VI Tryz.func3 V V (Nat.le_of_ble_eq_true V) ?_;have c0:Aq E H [[]]:=trivial;unfold N1 at b1;obtain⟨fa,c1,c3⟩:=bs b1;refine C 7 V (BU (bF cZ c1) V V (A0 Tryz.func10 V) c0 ?_);rintro _ fb _ b2 ⟨ag,fc,fe,rfl,rfl,c4⟩ c5;obtain⟨ap,c6,c7⟩:=bs c3;refine C 5 V (B9 1 (bO c4 c6) V V (A0 Tryz.func11 V) c5 V ?_);rintro _ ff _ b3 ⟨fg,fh,fj,fk,b4,b5,rfl,rfl,aw,a0,c8⟩ c9;refine BM c9 Js λa4 da=>?_;refine BF 2 da CQ λdb=>?_;refine CF 2 db V λfl U a2 dc=>C 3 V (BX a2 ER CQ V V ?_);obtain⟨a3,dd,de⟩:=bs c7;refine BU (Uc (aw.Ah U) (a0.Ah U) dd) V V (A0 Tryz.func12 V) dc ?_;rintro _ fm _ O ⟨a5,a6,rfl,rfl,bb⟩ b6;obtain⟨df,dg,dh⟩:=bs de;refine C 12 V (EB 7 7 [[(ag,.cells #[.slice b4 (ap.2.1).length b5,iV ap.2.2.1,.int .u64 ((ap.2.2.2:Nat):Int)] 74 (0,0))]] [(3,.pointer (some ⟨ag,0,none⟩)),(4,.pointer (some ⟨a4,0,none⟩)),(5,.slice a5 (a3.1).length a6),(26,.bool df)] (λca K cc=>?_) (λce=>?_))
 ·obtain⟨di,dj,dk⟩:=bs dh;refine C 1 V (G6 [] (λL s=>∃(ci:LH),Jm ca H ci [[(ag,.cells #[.slice b4 (ap.2.1).length b5,iV ap.2.2.1,.int .u64 ((ap.2.2.2:Nat):Int)] 74 (0,0))]] [(3,.pointer (some ⟨ag,0,none⟩)),(4,.pointer (some ⟨a4,0,none⟩)),(5,.slice a5 (a3.1).length a6),(33,.bool di)] L s) ?_ ?_)
  ·rintro _ _ ⟨ci,rfl,rfl,Y,co⟩;refine JL.done (Cn dk (λdn dp=>?_) (λdn dq=>?_))
   ·refine C 4 V (JS.drop 0 co V λfo=>?_);obtain rfl:=oi dp;exact H5 V (JO.end (v:= .bool false) V (by decide+kernel) Tryz.func3 V V V)
   ·refine C 4 V (BX (a2.Ah ((O.trans K).trans Y)) ER CQ V V ?_);obtain⟨al,dr,dt⟩:=bs dq;refine B9 0 (ZO (c8.Ah (((U.trans O).trans K).trans Y)) (aw.Ah (((U.trans O).trans K).trans Y)) (a0.Ah (((U.trans O).trans K).trans Y)) dr) V V (A0 Tryz.func16 V) co V ?_;rintro _ fp _ am ⟨be,bi,cp,ct,rfl,rfl,bo,du⟩ dv;refine C 5 V (JL.ln Tryz.underlying22 V V V ?_);obtain⟨dw,dx,dy⟩:=bs dt;refine C 1 V (BU (av bo dx) V V (A0 Tryz.func17 V) dv ?_);rintro _ fq _ Z ⟨fs,fu,rfl,rfl,dz⟩ cw;refine C 10 V (Am (v:= .bool (!dw.2)) V (λρ h=>Yl.not (h _ _ V)) ?_);obtain⟨dA,dB,dC⟩:=bs dy;refine C 1 V (EB 8 6 [[(ag,.cells #[.slice cp (al.2.1).length ct,iV al.2.2.1,.int .u64 ((al.2.2.2:Nat):Int)] 74 (0,0))]] [(3,.pointer (some ⟨ag,0,none⟩)),(4,.pointer (some ⟨a4,0,none⟩)),(5,.slice a5 (a3.1).length a6),(7,.slice be (al.1).length bi),(51,.bool dA)] (λcy ac cJ=>?_) (λcK=>?_))
    ·obtain⟨dD,dE,dF⟩:=bs dC;refine C 1 V (G6 [] (λL s=>∃(cM:LH),Jm cy H cM [[(ag,.cells #[.slice cp (al.2.1).length ct,iV al.2.2.1,.int .u64 ((al.2.2.2:Nat):Int)] 74 (0,0))]] [(3,.pointer (some ⟨ag,0,none⟩)),(4,.pointer (some ⟨a4,0,none⟩)),(5,.slice a5 (a3.1).length a6),(7,.slice be (al.1).length bi),(57,.bool dD)] L s) ?_ ?_)
     ·rintro _ _ ⟨cM,rfl,rfl,aq,cO⟩;refine JL.done (Cn dF (λdG dH=>?_) (λdG dI=>?_))
      ·refine C 4 V (JS.drop 0 cO V λfv=>?_);obtain rfl:=oi dH;exact H5 V (JO.end (v:= .bool false) V (by decide+kernel) Tryz.func3 V V V)
      ·refine C 2 V (EV 9 λbv=>?_);refine I9 0 bv (a2.Ah ((((((O.trans K).trans Y).trans am).trans Z).trans ac).trans aq)) ER CQ V V V (Bc bv V [1,3,4] V ?_);refine AP 5 bv V V (λρ h s' fw=>Yl.len V Tryz.underlying22 (h _ _ V)) ?_;obtain⟨fx,dJ,dK⟩:=bs dI;refine JG.call (i:=2) (vs:= [.slice be (al.1).length bi]) (Zg (bo.Ah ((Z.trans ac).trans aq)) dJ) (by decide+kernel) V V V (A0 Tryz.func19 V) V cO ?_;rintro _ fy fz a7 ⟨fA,fB,_,rfl,rfl,dL⟩ dM;obtain⟨a8,dN,dO⟩:=bs dK;refine MR (i:=6) (vs:= [.pointer (some ⟨ag,0,none⟩),iV ((a3.1).length:Int)]) 0 (λ_ h=>by cases h) (PW (du.Ah (((Z.trans ac).trans aq).trans a7)) dN) (by decide+kernel) V V V On V dM V ?_;rintro _ fC _ a9 ⟨fD,fE,rfl,rfl,fF⟩ dP;obtain⟨fG,dQ,dR⟩:=bs dO;refine JG.one (i:=7) V (by decide+kernel) (Take.EO (pp:=Ay) [.agg #[iV a8.1.1,iV a8.1.2.1,iV a8.1.2.2]] ([a8.1]:Aw) dP V V V Tryz.underlying26 A9 Bx (by decide) V V V ⟨⟨_,_,V,V,⟨_,_,V,V,V⟩⟩,trivial⟩ λfH fI dS dT=>?_);refine JG.one (i:=8) V (by decide+kernel) (Take.app0 (pp:=Ay) 1 2 dT dQ V V V V V V V Tryz.underlying26 Tryz.underlying26 A9 (CX Tryz.type42) Bx V (by decide) (by decide) (dL.Ah a9) dS V V λfJ fK fL fM dU dV=>?_);refine Dc [9,10] (F7 1 V dV λdW=>?_);refine JS.drop 1 dW V λdX=>B6 3 dU dX V λfN bw dY dZ=>?_;obtain⟨fO,ea,eb⟩:=bs dR;refine Cj (Tb (b0.Ah ((((((((((((b2.trans b3).trans U).trans O).trans K).trans Y).trans am).trans Z).trans ac).trans aq).trans a7).trans a9).trans bw)) (aw.Ah ((((((((((U.trans O).trans K).trans Y).trans am).trans Z).trans ac).trans aq).trans a7).trans a9).trans bw)) (a0.Ah ((((((((((U.trans O).trans K).trans Y).trans am).trans Z).trans ac).trans aq).trans a7).trans a9).trans bw)) dY ea) V V (A0 Tryz.func18 V) dZ λfP fQ cP=>?_;obtain⟨ec,ed,ee⟩:=bs eb;refine C 7 V (EB 6 4 [] [(73,.bool ec)] (λfR fS cQ=>?_) (λcR=>?_))
       ·obtain⟨cT,ef,eg⟩:=bs ee;refine C 1 V (EB 9 1 [] [(76,.bool cT)] (λfT fU fW=>?_) (λcV=>?_))
        ·refine C 2 V ?_;obtain rfl:=oi eg;exact H5 V (JO.end (v:= .bool cT) V (by decide+kernel) Tryz.func3 V V V)
        ·refine DX 74 ef (λeh ei=>?_) (λeh ej=>?_)
         ·obtain⟨fX,ek,el⟩:=bs ei;refine Cj (bu ek) V V (A0 Tryz.func21 V) cQ λfY em en=>C 1 V ?_;obtain rfl:=oi el;exact cV em en V
         ·refine C 2 V ?_;obtain rfl:=oi ej;exact cV (Le.refl _) cQ V
       ·refine Il 70 ed (λeo ep=>?_) (λeo er=>?_)
        ·refine C 3 V (JS.drop 0 cP V λet=>?_);refine JS.drop 2 et V λeu=>?_;obtain rfl:=oi ep;exact cR (Le.refl _) eu V
        ·refine C 3 V (JS.drop 0 cP V λew=>?_);refine JS.drop 2 ew V λex=>?_;obtain rfl:=oi er;exact cR (Le.refl _) ex V
     ·intro cW;refine DX 52 dE (λey ez=>?_) (λey eA=>?_)
      ·refine C 5 V ?_;obtain rfl:=oi ez;exact AA (cW _ _ ⟨cy,V,V,(Le.refl _),cJ⟩) V
      ·refine BX (a2.Ah (((((O.trans K).trans Y).trans am).trans Z).trans ac)) ER CQ V V ?_;obtain⟨fZ,eB,eC⟩:=bs eA;refine C 1 V (Cj (Tb (b0.Ah ((((((((b2.trans b3).trans U).trans O).trans K).trans Y).trans am).trans Z).trans ac)) (aw.Ah ((((((U.trans O).trans K).trans Y).trans am).trans Z).trans ac)) (a0.Ah ((((((U.trans O).trans K).trans Y).trans am).trans Z).trans ac)) (bo.Ah (Z.trans ac)) eB) V V (A0 Tryz.func18 V) cJ λeE eF eG=>?_);refine C 2 V ?_;obtain rfl:=oi eC;exact AA (cW _ _ ⟨eE,V,V,eF,eG⟩) V
    ·refine DX 46 dB (λeH eI=>?_) (λeH eJ=>?_)
     ·refine C 5 V ?_;obtain rfl:=oi eI;exact cK (Le.refl _) cw V
     ·obtain⟨eK,eL,eM⟩:=bs eJ;refine C 2 V (Cj (Lh dz (bb.Ah (((K.trans Y).trans am).trans Z)) eL) V V KL cw λga eN eO=>?_);refine Am (v:= .bool (!eK)) V (λρ h=>Yl.not (h _ _ V)) (C 1 V ?_);obtain rfl:=oi eM;exact cK eN eO V
  ·intro cX;refine DX 27 dj (λeP eQ=>?_) (λeP eR=>?_)
   ·refine C 6 V ?_;obtain rfl:=oi eQ;exact AA (cX _ _ ⟨ca,V,V,(Le.refl _),cc⟩) V
   ·refine C 1 V (BX (a2.Ah (O.trans K)) ER CQ V V ?_);obtain⟨gb,eS,eT⟩:=bs eR;refine BU (bT (aw.Ah ((U.trans O).trans K)) (a0.Ah ((U.trans O).trans K)) eS) V V (A0 Tryz.func15 V) cc ?_;rintro _ gc _ cY ⟨ge,gf,rfl,rfl,eU⟩ eV;obtain⟨eW,eX,eY⟩:=bs eT;refine Cj (Lh (bb.Ah (K.trans cY)) eU eX) V V KL eV λeZ e0 e1=>Am (v:= .bool (!eW)) V (λρ h=>Yl.not (h _ _ V)) (C 1 V ?_);obtain rfl:=oi eY;exact AA (cX _ _ ⟨eZ,V,V,(cY.trans e0),e1⟩) V
 ·refine Il 22 dg (λe3 e4=>?_) (λe3 e5=>?_)
  ·refine C 4 V ?_;obtain rfl:=oi e4;exact ce (Le.refl _) b6 V
  ·obtain⟨gg,e6,e7⟩:=bs e5;refine C 1 V (Cj (Zt bb e6) V V (A0 Tryz.func13 V) b6 λgh e8 e9=>?_);refine C 2 V ?_;obtain rfl:=oi e7;exact ce e8 e9 V
end Pal
