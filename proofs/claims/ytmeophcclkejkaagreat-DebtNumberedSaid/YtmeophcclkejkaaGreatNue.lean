/- DebtNumbered: if persons have other numbers: a part (5 of 9) of the proof of its row. -/
import Derived.Test.YtmeophcclkejkaaGreatNua
import Derived.Test.YtmeophcclkejkaaGreatNub
import Derived.Test.YtmeophcclkejkaaGreatNuc
import Derived.Test.YtmeophcclkejkaaGreatNud
set_option linter.all false
set_option maxRecDepth 100000
namespace Pal
open Go Go.Conc Go.Conc.Lib Go.Proofs Go.ConcR.Gen
theorem JL.uA{J:Judge Tryz.prog}{F:Fam}{Q:GP}{b:Frame}{n:Nat}{L:Env}{ds:Ld_}{k:Li_}{cs:Lf_}{s:St}{ops:Ao_}{i:Nat}{rest:List Nat}{d:Option Tmp}{x:Operand}{ty:TypeId}{p:String}{af:Ae_}{g:On_}(K:Fu b n L ops i=some ⟨d,.fieldAddr 140 x 0,ty,p,af,g⟩)(O:ev L x=some (.pointer (some F.uA)))(h:JL J Q b n (As L d (.pointer (some F.uA))) ds (.inRegion ops rest::k) cs s):JL J Q b n L ds (.inRegion ops (i::rest)::k) cs s:=Am K (λρ h=>Fz (a:=F.uA) 0 0 Tryz.underlying140 (AV Tryz.type21) V V V (h _ _ O)) h
theorem ZA{P:Program}{J:Judge P}{Q:GP}{n:Nat}{L:Env}{ds:Ld_}{c:Code}{k:Li_}{cs:Lf_}{s:St}{b:Frame}(h:∀K,K=k->JL J Q b n L ds (.code c::K) cs s):JL J Q b n L ds (.code c::k) cs s:=h _ V
theorem UD{P:Program}{J:Judge P}{Q:GP}{n:Nat}{L:Env}{ds:Ld_}{k:Li_}{cs:Lf_}{s:St}{b:Frame}(h:∀K,K=k->JL J Q b n L ds K cs s):JL J Q b n L ds k cs s:=h _ V
theorem IE:(Tryz.prog.funcs[189]?).any (·.norace)=true:=by rw [Tryz.func189];rfl
theorem bE:(Tryz.prog.funcs[163]?).any (·.norace)=true:=by rw [Tryz.func163];rfl
theorem bp:(Tryz.prog.funcs[191]?).any (·.norace)=true:=by rw [Tryz.func191];rfl
theorem Qm:(Tryz.prog.funcs[211]?).any (·.norace)=true:=by rw [Tryz.func211];rfl
theorem PS:(Tryz.prog.info? 140).map (λi=>decide (i.size=0))=some false:=(congrArg (Option.map (λi=>decide (i.size=0))) Tryz.type140).trans V
abbrev G7:=Bool×Bool×Nat×M4×Int
def Uz(a:G7):Prop:=(a.2.1=true->a.2.2.2.1.k=true)/\a.2.2.1<=4/\C4 a.2.2.2.1
def QB(a:G7):LP:= .Ci a.1 a.2.1 a.2.2.1 a.2.2.2.1
theorem Yq{F:Fam}{sv aw:Bool}{it:Nat}{old:M4}{q:Nat}(h:old.l=false/\old.s=false):(mN sv aw old,q,#[Fam.Cc F.uA,Fam.Ew F.uA],some LP.len)∈F.BW (.Ci sv aw it old) old q:=by
 obtain⟨l,k,s,w⟩:=old;obtain⟨K,O⟩:=h;simp only at K O;subst K O;simp [Fam.BW,Fam.FE,mN]
theorem R5{F:Fam}{sv aw:Bool}{it:Nat}{old:M4}{q:Nat}(h:¬(old.l=false/\old.s=false))(x:LP)(K:x= .IF sv∨x= .Cr sv):(mN sv aw old,q,#[Fam.Cc F.uA,Fam.Ew F.uA],some x)∈F.BW (.Ci sv aw it old) old q:=by
 obtain⟨l,k,s,w⟩:=old;show _∈F.FE _ _ _ _ _ _;unfold Fam.FE;rw [List.mem_append];right;rw [if_pos rfl,if_neg h];cases l <;> cases s <;> simp [mN] at h ⊢ <;> rcases K with rfl | rfl <;> simp
theorem XH{F:Fam}{sv aw:Bool}{it:Nat}{old m:M4}{q:Nat}(h:m≠old):(m,q,#[Fam.Cc F.uA],some (LP.Eg sv aw it))∈F.BW (.Ci sv aw it old) m q:=by
 show _∈F.FE _ _ _ _ _ _;unfold Fam.FE;rw [List.mem_append];right;rw [if_neg h];exact List.mem_singleton.2 V
theorem YR{F:Fam}{sv:Bool}{it:Nat}{old:M4}{q:Nat}(K:old.l=true/\old.s=false)(O:it<4)(U:old.k=false)(Y:old.w≠0):(({old with k:=true}:M4),q,#[Fam.Cc F.uA,Fam.Ew F.uA],some (LP.Eg sv true (it+1)))∈F.BW (.Ci sv false it old) old q:=by
 show _∈F.FE _ _ _ _ _ _;unfold Fam.FE;rw [List.mem_append];left;rw [if_pos ⟨K.1,K.2,O⟩,if_pos ⟨rfl,U,Y⟩,if_pos rfl];exact List.mem_singleton.2 V
theorem YX{F:Fam}{sv:Bool}{it:Nat}{old m:M4}{q:Nat}(K:old.l=true/\old.s=false)(O:it<4)(U:old.k=false)(Y:old.w≠0)(hm:m≠old):(m,q,#[Fam.Cc F.uA],some (LP.Eg sv false (it+1)))∈F.BW (.Ci sv false it old) m q:=by
 show _∈F.FE _ _ _ _ _ _;unfold Fam.FE;rw [List.mem_append];left;rw [if_pos ⟨K.1,K.2,O⟩,if_pos ⟨rfl,U,Y⟩,if_neg hm];exact List.mem_singleton.2 V
theorem PH{F:Fam}{sv aw:Bool}{it:Nat}{old m:M4}{q:Nat}(K:old.l=true/\old.s=false)(O:it<4)(U:¬(aw=false/\old.k=false/\old.w≠0)):(m,q,#[],some (LP.Ci sv aw (it+1) m))∈F.BW (.Ci sv aw it old) m q:=by
 show _∈F.FE _ _ _ _ _ _;unfold Fam.FE;rw [List.mem_append];left;rw [if_pos ⟨K.1,K.2,O⟩,if_neg U];exact List.mem_singleton.2 V
theorem Hb(m:M4)(h:m.s=true):m={m with l:=m.l || !m.s}:=by
 obtain⟨l,k,s,w⟩:=m;simp only at h;subst h;simp
set_option maxHeartbeats 4000000 in
theorem WJ{F:Fam}{n:Nat}{L:Env}{ds:Ld_}{k:Li_}{cs:Lf_}{s:St}{b:Frame}{ops:Ao_}{i:Nat}{rest:List Nat}{d:Option Tmp}{x:Operand}{ats:Array TypeId}{ty:TypeId}{pp:String}{af:Ae_}{g:On_}{kk:Nat}(ac:s.q=false)(c7:ops[i]? =some ⟨d,.call ⟨.value (.func 189),#[x],ats⟩,ty,pp,af,g⟩)(hw:AK L ops ⟨d,.call ⟨.value (.func 189),#[x],ats⟩,ty,pp,af,g⟩=some true)(c8:((b.kind != .early)&&Bd n d)=true)(c9:ev L x=some (.pointer (some F.uA)))
  (h:JL (AT Tryz.prog false) (Stop Tryz.prog F (.lk kk .Fc)) b n (As L d (.tuple #[])) ds (.inRegion ops rest::k) cs s):
  JL (AT Tryz.prog false) (Stop Tryz.prog F (.lk kk (.Eg false false 0))) b n L ds (.inRegion ops (i::rest)::k) cs s:=by
 refine Hn (vs:= [.pointer (some F.uA)]) c7 hw c8 Tryz.func189 (by decide+kernel) V (by simp [evs,c9]) (Nat.le_of_ble_eq_true V) λb6 back=>C 20 V (JL.uA V V ?_);refine Ho (kk:=kk) (p:= .Eg false false 0) CV.stop ac V V V V V Hi IE V λca dw b1=>⟨some (.Ci false false 0 ca),List.mem_singleton.2 V,?_⟩;refine C 3 V (ZA λdd di=>?_);have a1:∀X:Ph->GP,CV Tryz.prog F X->(∀p g s,Stop Tryz.prog F p g s->X p g s)->∀L',look L' 0=some (.pointer (some F.uA))->JL (AT Tryz.prog false) (X (.lk kk .len)) (base 189) Tryz.f189.ntmps L' [] dd (b6::cs) s:=by
  intro X O ay L' dj;rw [di];refine ES (L':= [(0,.pointer (some F.uA))]) ⟨dj,trivial⟩ (C 3 V ?_);refine Lr (kk:=kk) (p:= .len) O ac V (λ_ _=>V) V V V V (by simp) Ot (C 3 V ?_);refine Pg (kk:=kk) (p:= .K4) O ac V (λ_ _=>V) V V V V Tryz.underlying229 Tryz.underlying185 PS V (PK (kk:=kk) (p:= .J9) (ad:=F.uA) O ac V (λ_ _=>V) V V V V (by simp) UH V V ?_);refine JL.done (JL.fin V V (BA.none Tryz.func189 V) (back _ _ _ _ ?_));exact Nl (λg s=>ay _ g s) h
 refine JL.block (IW ?_);refine Ec [(0,.pointer (some F.uA)),(2,iV 0),(3,.bool false),(4,.bool false),(5,iV ((0:Nat):Int)),(6,.int .i32 (ca:M4).num)] V (UD λcc a6=>?_);refine Ub (P:=Tryz.prog) (F:=F) (s:=s) (kk:=kk) (ph:=QB) (ok:=Uz) (head:=λ(X:Ph->GP) (a:G7)=>JL (AT Tryz.prog false) (X (.lk kk (QB a))) (base 189) Tryz.f189.ntmps ([(0,.pointer (some F.uA)),(2,iV a.2.2.2.2),(3,.bool a.1),(4,.bool a.2.1),(5,iV (a.2.2.1:Int)),(6,.int .i32 (a.2.2.2.1:M4).num)]) [] cc (b6::cs) s) ?_ (false,false,0,ca,0) ⟨(λe=>by cases e),Nat.zero_le _,b1.2.2.1⟩;intro Y b2 dx hC;have key:∀N (a:G7),4 - a.2.2.1<N->Uz a->(λ(X:Ph->GP) (a:G7)=>JL (AT Tryz.prog false) (X (.lk kk (QB a))) (base 189) Tryz.f189.ntmps ([(0,.pointer (some F.uA)),(2,iV a.2.2.2.2),(3,.bool a.1),(4,.bool a.2.1),(5,iV (a.2.2.1:Int)),(6,.int .i32 (a.2.2.2.1:M4).num)]) [] cc (b6::cs) s) Y a:=by
  intro N
  induction N with
  | zero=>intro a co;omega
  | succ N b3=>
   rintro⟨sv,aw,it,old,wt⟩ dk b1;simp only at dk;have dn:aw=true->old.k=true:=b1.1;have ce:C4 old:=b1.2.2;have a2:Cj old:=ce.Cj;show JL (AT Tryz.prog false) (Y (.lk kk (.Ci sv aw it old))) (base 189) Tryz.f189.ntmps [(0,.pointer (some F.uA)),(2,iV wt),(3,.bool sv),(4,.bool aw),(5,iV (it:Int)),(6,.int .i32 (old:M4).num)] [] cc (b6::cs) s;rw [a6];refine C 2 V (Bt (λL s'=>s=s'/\L= [(0,.pointer (some F.uA)),(2,iV wt),(3,.bool sv),(4,.bool aw),(5,iV (it:Int)),(6,.int .i32 (old:M4).num)]) ?_ ?_)
   rotate_left
   ·intro az;refine C 3 V (Am (v:=CN (By old&&& 5)) V (λρ h=>Ex (c:=5) a2 (h _ _ V) (h _ _ V) (by decide)) ?_);refine C 2 V (L5 (q:=((By old&&& 5:Nat):Int)=1) (i:=17) V (λcp=>?_) (λcp=>?_))
    ·refine Am (v:=iV (it:Int)) V (λρ h=>Yl.move (h _ _ V)) (JL.canSpin (it:=(it:Int)) ac V V V V aN V (λGw=>?_) ?_)
     ·refine Am (v:= .bool true) V (λρ h=>L8 (h _ _ V) (h _ _ V)) ?_;have a3:=(cR old).1 cp;refine C 5 V ?_;have b4:it<4:=by omega
      refine C 1 V (Am (v:= .bool (!aw)) V (λρ h=>Yl.not (h _ _ V)) ?_);refine C 1 V (Kz (c:= !aw) (i:=23) V (λc1=>?_) (λc1=>?_))
      ·refine Am (v:= .int .i32 (old:M4).num) V (λρ h=>Yl.move (h _ _ V)) (Am (v:=CN (By old&&& 2)) V (λρ h=>Ex (c:=2) a2 (h _ _ V) (h _ _ V) (by decide)) ?_);refine C 3 V (L5 (q:=((By old&&& 2:Nat):Int)=0) (i:=28) V (λc2=>?_) (λc2=>?_))
       ·refine Am (v:= .int .i32 (old:M4).num) V (λρ h=>Yl.move (h _ _ V)) (Am (v:=CN old.w) V (λρ h=>IY a2 (h _ _ V) (h _ _ V)) ?_);refine C 3 V (L5 (q:=(old.w:Int)≠0) (i:=33) V (λc3=>?_) (λc3=>?_))
        ·have dp:aw=false:=by simpa using c1
         subst dp;have ct:=(QC old).1 c2;have cw:old.w≠0:=by omega
         refine C 2 V (JL.uA V V ?_);refine C 2 V (Am (v:= .int .i32 ({old with k:=true}:M4).num) V (λρ h=>NY (c:=2) a2 (by decide) (QT old) V (h _ _ V) (h _ _ V)) ?_);refine Su (kk:=kk) (p:= .Ci sv false it old) (old:=old) (nw:={old with k:=true}) b2 ac V V V V V Oc V V V (λq a4=>⟨some (.Eg sv true (it+1)),YR a3 b4 ct cw,?_⟩) (λm q hm a4=>⟨some (.Eg sv false (it+1)),YX a3 b4 ct cw hm,?_⟩)
         ·refine Am (v:= .bool true) V (λρ h=>L8 (h _ _ V) (h _ _ V)) (C 7 V ?_);refine JL.ext (v:= .tuple #[]) V V V L9 V V (C 4 V ?_);refine Am (v:=iV ((it+1:Nat):Int)) V (λρ h=>Gj (h _ _ V) (h _ _ V) (by unfold Av;rw [if_pos (by omega)];congr 1)) (C 6 V ?_);refine JL.uA V V (Ho (kk:=kk) (p:= .Eg sv true (it+1)) b2 ac V V V V V Hi IE V λa7 cy bv=>⟨some (.Ci sv true (it+1) a7),List.mem_singleton.2 V,?_⟩);refine C 3 V (JL.again ?_);rw [← a6];exact Ec [(0,.pointer (some F.uA)),(2,iV wt),(3,.bool sv),(4,.bool true),(5,iV ((it+1:Nat):Int)),(6,.int .i32 (a7:M4).num)] V (b3 (sv,true,it+1,a7,wt) (by show 4 - (it+1)<N;omega) ⟨bv.2.2.2,(by show it+1<=4;omega),bv.2.2.1⟩)
         ·refine Am (v:= .bool false) V (λρ h=>L8 (h _ _ V) (h _ _ V)) (C 5 V ?_);refine JL.ext (v:= .tuple #[]) V V V L9 V V (C 4 V ?_);refine Am (v:=iV ((it+1:Nat):Int)) V (λρ h=>Gj (h _ _ V) (h _ _ V) (by unfold Av;rw [if_pos (by omega)];congr 1)) (C 6 V ?_);refine JL.uA V V (Ho (kk:=kk) (p:= .Eg sv false (it+1)) b2 ac V V V V V Hi IE V λa7 cy bv=>⟨some (.Ci sv false (it+1) a7),List.mem_singleton.2 V,?_⟩);refine C 3 V (JL.again ?_);rw [← a6];exact Ec [(0,.pointer (some F.uA)),(2,iV wt),(3,.bool sv),(4,.bool false),(5,iV ((it+1:Nat):Int)),(6,.int .i32 (a7:M4).num)] V (b3 (sv,false,it+1,a7,wt) (by show 4 - (it+1)<N;omega) ⟨bv.2.2.2,(by show it+1<=4;omega),bv.2.2.1⟩)
        ·refine Iz V V V (C 12 V ?_);refine JL.ext (v:= .tuple #[]) V V V L9 V V (C 4 V ?_);refine Am (v:=iV ((it+1:Nat):Int)) V (λρ h=>Gj (h _ _ V) (h _ _ V) (by unfold Av;rw [if_pos (by omega)];congr 1)) (C 6 V ?_);refine JL.uA V V (Ho (kk:=kk) (p:= .Ci sv aw it old) b2 ac V V V V V Hi IE V λm q a4=>⟨some (.Ci sv aw (it+1) m),PH a3 b4 (λe=>c3 (by omega)),?_⟩);refine C 3 V (JL.again ?_);rw [← a6];exact Ec [(0,.pointer (some F.uA)),(2,iV wt),(3,.bool sv),(4,.bool aw),(5,iV ((it+1:Nat):Int)),(6,.int .i32 (m:M4).num)] V (b3 (sv,aw,it+1,m,wt) (by show 4 - (it+1)<N;omega) ⟨a4.2.2.2.2.2,(by show it+1<=4;omega),a4.2.2.2.2.1⟩)
       ·refine Iz V V V (C 17 V ?_);refine JL.ext (v:= .tuple #[]) V V V L9 V V (C 4 V ?_);refine Am (v:=iV ((it+1:Nat):Int)) V (λρ h=>Gj (h _ _ V) (h _ _ V) (by unfold Av;rw [if_pos (by omega)];congr 1)) (C 6 V ?_);refine JL.uA V V (Ho (kk:=kk) (p:= .Ci sv aw it old) b2 ac V V V V V Hi IE V λm q a4=>⟨some (.Ci sv aw (it+1) m),PH a3 b4 (λe=>c2 ((QC old).2 e.2.1)),?_⟩);refine C 3 V (JL.again ?_);rw [← a6];exact Ec [(0,.pointer (some F.uA)),(2,iV wt),(3,.bool sv),(4,.bool aw),(5,iV ((it+1:Nat):Int)),(6,.int .i32 (m:M4).num)] V (b3 (sv,aw,it+1,m,wt) (by show 4 - (it+1)<N;omega) ⟨a4.2.2.2.2.2,(by show it+1<=4;omega),a4.2.2.2.2.1⟩)
      ·refine Iz V V V (C 22 V ?_);refine JL.ext (v:= .tuple #[]) V V V L9 V V (C 4 V ?_);refine Am (v:=iV ((it+1:Nat):Int)) V (λρ h=>Gj (h _ _ V) (h _ _ V) (by unfold Av;rw [if_pos (by omega)];congr 1)) (C 6 V ?_);refine JL.uA V V (Ho (kk:=kk) (p:= .Ci sv aw it old) b2 ac V V V V V Hi IE V λm q a4=>⟨some (.Ci sv aw (it+1) m),PH a3 b4 (λe=>by rw [e.1] at c1;cases c1),?_⟩);refine C 3 V (JL.again ?_);rw [← a6];exact Ec [(0,.pointer (some F.uA)),(2,iV wt),(3,.bool sv),(4,.bool aw),(5,iV ((it+1:Nat):Int)),(6,.int .i32 (m:M4).num)] V (b3 (sv,aw,it+1,m,wt) (by show 4 - (it+1)<N;omega) ⟨a4.2.2.2.2.2,(by show it+1<=4;omega),a4.2.2.2.2.1⟩)
     ·refine Am (v:= .bool false) V (λρ h=>L8 (h _ _ V) (h _ _ V)) (C 3 V ?_);exact AB (az _ _ ⟨V,V⟩) V
    ·refine Iz V V V (C 5 V ?_);exact AB (az _ _ ⟨V,V⟩) V
   rintro _ _ ⟨rfl,rfl⟩;refine C 6 V (Bt (λL s'=>s=s'/\L= [(0,.pointer (some F.uA)),(2,iV wt),(3,.bool sv),(4,.bool aw),(5,iV (it:Int)),(6,.int .i32 (old:M4).num),(7,.int .i32 ({old with l:=old.l || !old.s}:M4).num)]) ?_ ?_)
   rotate_left
   ·intro az;refine C 3 V (Am (v:=CN (By old&&& 4)) V (λρ h=>Ex (c:=4) a2 (h _ _ V) (h _ _ V) (by decide)) ?_);refine C 2 V (Gm (p:=((By old&&& 4:Nat):Int)=0) V (λc=>?_) (λc=>?_))
    ·refine JL.region (C 1 V ?_);refine Am (v:= .int .i32 ({old with l:=true}:M4).num) V (λρ h=>NY (c:=1) a2 (by decide) (df old) V (h _ _ V) (h _ _ V)) (C 2 V ?_);refine ES ?_ (az _ _ ⟨V,V⟩);exact⟨V,V,V,V,V,V,congrArg (λm:M4=>some (Value.int .i32 m.num)) (by rw [(H0 old).1 c];simp),trivial⟩
    ·refine JL.skip (ES ?_ (az _ _ ⟨V,V⟩));exact⟨V,V,V,V,V,V,congrArg (λm:M4=>some (Value.int .i32 m.num)) ((Bool.eq_false_or_eq_true old.s).elim (Hb old) (λhh=>absurd ((H0 old).2 hh) c)),trivial⟩
   rintro _ _ ⟨rfl,rfl⟩;have dy:Cj {old with l:=old.l || !old.s}:=a2;refine JL.seq (Bt (λL s'=>s=s'/\L= [(0,.pointer (some F.uA)),(2,iV wt),(3,.bool sv),(4,.bool aw),(5,iV (it:Int)),(6,.int .i32 (old:M4).num),(7,.int .i32 ({old with l:=old.l || !old.s,w:=if old.l=true∨old.s=true then old.w+1 else old.w}:M4).num)]) ?_ ?_)
   rotate_left
   ·intro az;refine C 3 V (Am (v:=CN (By old&&& 5)) V (λρ h=>Ex (c:=5) a2 (h _ _ V) (h _ _ V) (by decide)) ?_);refine C 2 V (Gm (p:=((By old&&& 5:Nat):Int)≠0) V (λc=>?_) (λc=>?_))
    ·refine JL.region (C 1 V ?_);refine Am (v:= .int .i32 ({old with l:=old.l || !old.s,w:=old.w+1}:M4).num) V (λρ h=>X8 (m:={old with l:=old.l || !old.s}) ce (h _ _ V) (h _ _ V)) (C 2 V ?_);refine ES ?_ (az _ _ ⟨V,V⟩);exact⟨V,V,V,V,V,V,congrArg (λm:M4=>some (Value.int .i32 m.num)) (by rw [if_pos (by have:=λe=>c ((My old).2 e);cases dz:old.l <;> cases dA:old.s <;> simp_all)]),trivial⟩
    ·refine JL.skip (ES ?_ (az _ _ ⟨V,V⟩));exact⟨V,V,V,V,V,V,congrArg (λm:M4=>some (Value.int .i32 m.num)) (by rw [if_neg (by have:=(My old).1 (Decidable.not_not.1 c);rw [this.1,this.2];simp)]),trivial⟩
   rintro _ _ ⟨rfl,rfl⟩;have c0:Cj ({old with l:=old.l || !old.s,w:=if old.l=true∨old.s=true then old.w+1 else old.w}:M4):=by unfold C4 at ce;unfold Cj;simp only;split <;> omega
   refine JL.seq (Bt (λL s'=>s=s'/\L= [(0,.pointer (some F.uA)),(2,iV wt),(3,.bool sv),(4,.bool aw),(5,iV (it:Int)),(6,.int .i32 (old:M4).num),(7,.int .i32 ({old with l:=old.l || !old.s,s:=old.s || (sv&&old.l),w:=if old.l=true∨old.s=true then old.w+1 else old.w}:M4).num)]) ?_ ?_)
   rotate_left
   ·intro az;refine C 4 V (Kz (c:=sv) (i:=61) V (λc1=>?_) (λc1=>?_))
    ·refine Am (v:= .int .i32 (old:M4).num) V (λρ h=>Yl.move (h _ _ V)) (Am (v:=CN (By old&&& 1)) V (λρ h=>Ex (c:=1) a2 (h _ _ V) (h _ _ V) (by decide)) ?_);refine C 3 V (Gm (p:=((By old&&& 1:Nat):Int)≠0) V (λc=>?_) (λc=>?_))
     ·refine JL.region (C 1 V ?_);refine Am (v:= .int .i32 ({old with s:=true,l:=old.l || !old.s,w:=if old.l=true∨old.s=true then old.w+1 else old.w}:M4).num) V (λρ h=>NY (c:=4) (m:={old with l:=old.l || !old.s,w:=if old.l=true∨old.s=true then old.w+1 else old.w}) c0 (by decide) (cX _) V (h _ _ V) (h _ _ V)) ?_
      refine C 2 V (ES ?_ (az _ _ ⟨V,V⟩));exact⟨V,V,V,V,V,V,congrArg (λm:M4=>some (Value.int .i32 m.num)) (by rcases Bool.eq_false_or_eq_true old.l with hh | hh <;> first | exact absurd ((Qy old).2 hh) c | (rw [c1,hh];simp)),trivial⟩
     ·refine JL.skip (ES ?_ (az _ _ ⟨V,V⟩));exact⟨V,V,V,V,V,V,congrArg (λm:M4=>some (Value.int .i32 m.num)) (by have:=(Qy old).1 (Decidable.not_not.1 c);rw [this];simp),trivial⟩
    ·refine Iz V V V (C 6 V ?_);refine ES ?_ (az _ _ ⟨V,V⟩);exact⟨V,V,V,V,V,V,congrArg (λm:M4=>some (Value.int .i32 m.num)) (by rw [c1];simp),trivial⟩
   rintro _ _ ⟨rfl,rfl⟩;have c4:Cj ({old with l:=old.l || !old.s,s:=old.s || (sv&&old.l),w:=if old.l=true∨old.s=true then old.w+1 else old.w}:M4):=c0
   refine JL.seq (Bt (λL s'=>s=s'/\L= [(0,.pointer (some F.uA)),(2,iV wt),(3,.bool sv),(4,.bool aw),(5,iV (it:Int)),(6,.int .i32 (old:M4).num),(7,.int .i32 (mN sv aw old:M4).num)]) ?_ ?_)
   rotate_left
   ·intro az;refine C 4 V (Pt (t:=aw) V (λc=>?_) (λc=>?_))
    ·have c5:old.k=true:=dn c;refine C 4 V ?_;refine Am (v:=CN (By ({old with l:=old.l || !old.s,s:=old.s || (sv&&old.l),w:=if old.l=true∨old.s=true then old.w+1 else old.w}:M4)&&& 2)) V (λρ h=>Ex (c:=2) (m:={old with l:=old.l || !old.s,s:=old.s || (sv&&old.l),w:=if old.l=true∨old.s=true then old.w+1 else old.w}) c4 (h _ _ V) (h _ _ V) (by decide)) ?_
     refine Am (v:= .bool false) V (λρ h=>Yl.to (Yl.eql (h _ _ V) (h _ _ V)) (by rw [decide_eq_false (λe=>by have q:=(QC _).1 e;simp only at q;rw [c5] at q;cases q)])) (C 5 V ?_);refine Am (v:= .int .i32 ({old with k:=false,l:=old.l || !old.s,s:=old.s || (sv&&old.l),w:=if old.l=true∨old.s=true then old.w+1 else old.w}:M4).num) V (λρ h=>Yl.PT (m:={old with l:=old.l || !old.s,s:=old.s || (sv&&old.l),w:=if old.l=true∨old.s=true then old.w+1 else old.w}) c4 c5 (h _ _ V) (h _ _ V)) ?_
     refine C 2 V (ES ?_ (az _ _ ⟨V,V⟩));exact⟨V,V,V,V,V,V,congrArg (λm:M4=>some (Value.int .i32 m.num)) (by simp [mN,c]),trivial⟩
    ·refine JL.skip (ES ?_ (az _ _ ⟨V,V⟩));exact⟨V,V,V,V,V,V,congrArg (λm:M4=>some (Value.int .i32 m.num)) (by simp [mN,c]),trivial⟩
   rintro _ _ ⟨rfl,rfl⟩;refine C 4 V (JL.uA V V ?_);refine C 2 V (λT dq=>(AT Tryz.prog false).stop (hC (sv,aw,it,old,wt) _ b1 λX dB dr O ay b5=>?_));refine Pq (kk:=kk) (p:= .Ci sv aw it old) (old:=old) (nw:=mN sv aw old) dr ac V V V V V Oc V V V (λq a4=>?_) (λm q hm a4=>⟨some (.Eg sv aw it),XH hm,?_⟩) T dq
   ·by_cases a3:old.l=false/\old.s=false
    ·refine⟨some .len,Yq a3,?_⟩;refine C 6 V (Am (v:=CN (By old&&& 5)) V (λρ h=>Ex (c:=5) a2 (h _ _ V) (h _ _ V) (by decide)) ?_);refine Am (v:= .bool true) V (λρ h=>Yl.to (Yl.eql (h _ _ V) (h _ _ V)) (by rw [decide_eq_true ((My old).2 a3)])) (C 3 V ?_);exact a1 X O ay _ V
    ·by_cases c6:wt=0
     ·refine⟨some ((.IF sv)),R5 a3 _ (.inl V),?_⟩;refine C 6 V (Am (v:=CN (By old&&& 5)) V (λρ h=>Ex (c:=5) a2 (h _ _ V) (h _ _ V) (by decide)) ?_);refine Am (v:= .bool false) V (λρ h=>Yl.to (Yl.eql (h _ _ V) (h _ _ V)) (by rw [decide_eq_false (λe=>a3 ((My old).1 e))])) ?_;refine C 13 V (Am (v:= .bool true) V (λρ h=>Yl.to (Yl.eql (h _ _ V) (h _ _ V)) (by rw [decide_eq_true c6])) ?_);refine C 3 V (Po (kk:=kk) (p:= .IF sv) O ac V V V V V Qf Qm λm a5 v al=>⟨some (.Cr sv),List.mem_singleton.2 V,?_⟩);refine C 6 V (Am (v:= .pointer (some F.qA)) V (λρ h=>Fz (a:=F.uA) 0 1 Tryz.underlying140 M1 V V V (h _ _ V)) ?_);refine C 1 V (RH (kk:=kk) (sv:=sv) O ac V V V V Ue V V ?_);refine JL.done ?_;cases sv
      ·rw [if_neg (by decide)];refine C 4 V (Po (kk:=kk) (p:= .F9) O ac V V V V V Qf Qm λdt du v2 dv=>⟨some (.EA (decide (IntKind.i64.wrap (v2 - v)>1000000))),by (cases decide (IntKind.i64.wrap (v2 - v)>1000000) <;> simp [Fam.BW]),?_⟩);refine C 1 V (Am (v:= .int .i64 (IntKind.i64.wrap (v2 - v))) V (λρ h=>Yl.sub (h _ _ V) (h _ _ V)) ?_);refine C 4 V ?_;generalize decide (IntKind.i64.wrap (v2 - v)>1000000)=av;refine C 4 V (JL.uA V V ?_);refine Ho (kk:=kk) (p:= .EA av) O ac V V V V V Hi IE V ?_;intro m ci a0;have a8:C4 m:=a0.2.2;have am:Cj m:=a8.Cj;by_cases ag:m.s=true
       ·refine⟨some (.Ee (!av || m.w==1)),by simp [Fam.BW,ag],?_⟩;refine C 2 V ?_;obtain⟨bw,bx,bz⟩:=a0.1 ag;refine C 4 V (Am (v:=CN (By m&&& 4)) V (λρ h=>Ex (c:=4) am (h _ _ V) (h _ _ V) (by decide)) ?_);refine Am (v:= .bool true) V (λρ h=>Yl.to (HT (h _ _ V) (h _ _ V)) (by have b0:(((By m&&& 4:Nat):Int)≠0):=(λe=>by rw [(H0 m).1 e] at ag;cases ag);rw [decide_eq_true b0])) ?_;refine C 6 V (Am (v:=CN (By m&&& 3)) V (λρ h=>Ex (c:=3) am (h _ _ V) (h _ _ V) (by decide)) ?_);refine Am (v:= .bool false) V (λρ h=>Yl.to (HT (h _ _ V) (h _ _ V)) (by rw [(On m).2 ⟨bw,bx⟩];rfl)) (C 2 V ?_);refine Am (v:=CN m.w) V (λρ h=>IY am (h _ _ V) (h _ _ V)) (Am (v:= .bool false) V (λρ h=>Yl.to (Yl.eql (h _ _ V) (h _ _ V)) (by rw [decide_eq_false (λe=>bz (by omega))])) ?_);refine C 12 V (Am (v:= .bool (!av)) V (λρ h=>Yl.not (h _ _ V)) ?_);refine C 1 V (Kz (c:= !av) (i:=119) V (λd1=>?_) (λd1=>?_))
        ·refine Iz V V V (C 5 V ?_);have hex:(!av || m.w==1)=true:=by rw [d1];simp
         rw [hex];refine C 2 V (Am (v:= .int .i32 (-11)) V (λρ h=>Yl.to (Yl.sub (h _ _ V) (h _ _ V)) V) ?_);refine C 6 V (JL.uA V V ?_);refine C 1 V (Hl (kk:=kk) (p:= .Ee true) (dl:= -11) O ac V V V V V Hu V V λK a5 al=>⟨⟨true,K.k,false,K.w - 1⟩,some .len,?_,List.mem_singleton.2 V,?_⟩)
         ·obtain⟨a9,bb,be,w3⟩:=K;obtain⟨U,g2,Z,ap,bi,aq⟩:=al;simp only at U g2 Z ap;subst U g2 Z;have bn:w3<134217728:=aq;have e:(⟨false,false,true,w3⟩:M4).num+(-11)=((8*(w3 - 1)+1:Nat):Int):=by simp only [M4.num,Bool.toNat_true,Bool.toNat_false];omega
          rw [e,FA (by omega)];simp only [M4.num,Bool.toNat_true,Bool.toNat_false];omega
         exact C 2 V (a1 X O ay _ V)
        ·refine Am (v:= .int .i32 (m:M4).num) V (λρ h=>Yl.move (h _ _ V)) (Am (v:=CN m.w) V (λρ h=>IY am (h _ _ V) (h _ _ V)) ?_);refine C 3 V (Gm (p:=(m.w:Int)=1) V (λd2=>?_) (λd2=>?_))
         ·have hex:(!av || m.w==1)=true:=by rw [d1];simp;omega
          rw [hex];refine C 2 V (Am (v:= .int .i32 (-11)) V (λρ h=>Yl.to (Yl.sub (h _ _ V) (h _ _ V)) V) ?_);refine C 6 V (JL.uA V V ?_);refine C 1 V (Hl (kk:=kk) (p:= .Ee true) (dl:= -11) O ac V V V V V Hu V V λK a5 al=>⟨⟨true,K.k,false,K.w - 1⟩,some .len,?_,List.mem_singleton.2 V,?_⟩)
          ·obtain⟨a9,bb,be,w3⟩:=K;obtain⟨U,g2,Z,ap,bi,aq⟩:=al;simp only at U g2 Z ap;subst U g2 Z;have bn:w3<134217728:=aq;have e:(⟨false,false,true,w3⟩:M4).num+(-11)=((8*(w3 - 1)+1:Nat):Int):=by simp only [M4.num,Bool.toNat_true,Bool.toNat_false];omega
           rw [e,FA (by omega)];simp only [M4.num,Bool.toNat_true,Bool.toNat_false];omega
          exact C 2 V (a1 X O ay _ V)
         ·have hex:(!av || m.w==1)=false:=by rw [d1];simp;omega
          rw [hex];refine C 5 V (JL.uA V V ?_);refine C 1 V (Hl (kk:=kk) (p:= .Ee false) (dl:= -7) O ac V V V V V Hu V V λK a5 al=>⟨⟨true,K.k,true,K.w - 1⟩,some .len,?_,List.mem_singleton.2 V,?_⟩)
          ·obtain⟨a9,bb,be,w3⟩:=K;obtain⟨U,g2,Z,ap,bi,aq⟩:=al;simp only at U g2 Z ap;subst U g2 Z;have bn:w3<134217728:=aq;have e:(⟨false,false,true,w3⟩:M4).num+(-7)=((8*(w3 - 1)+5:Nat):Int):=by simp only [M4.num,Bool.toNat_true,Bool.toNat_false];omega
           rw [e,FA (by omega)];simp only [M4.num,Bool.toNat_true,Bool.toNat_false];omega
          exact C 2 V (a1 X O ay _ V)
       ·refine⟨some (.Ci av true 0 m),by simp [Fam.BW,ag],?_⟩;refine C 2 V ?_;have bo:m.s=false:=by simpa using ag
        refine C 4 V (Am (v:=CN (By m&&& 4)) V (λρ h=>Ex (c:=4) am (h _ _ V) (h _ _ V) (by decide)) ?_);refine Am (v:= .bool false) V (λρ h=>Yl.to (HT (h _ _ V) (h _ _ V)) (by rw [(H0 m).2 bo];rfl)) (C 11 V ?_);refine JL.again ?_;rw [← a6];exact Ec [(0,.pointer (some F.uA)),(2,iV v),(3,.bool av),(4,.bool true),(5,iV ((0:Nat):Int)),(6,.int .i32 (m:M4).num)] V (b5 (av,true,0,m,v) ⟨λ_=>a0.2.1 bo,Nat.zero_le _,a8⟩)
      ·rw [if_pos rfl];refine C 15 V (JL.uA V V ?_);refine Ho (kk:=kk) (p:= .EA true) O ac V V V V V Hi IE V ?_;intro m ci a0;have a8:C4 m:=a0.2.2;have am:Cj m:=a8.Cj;by_cases ag:m.s=true
       ·refine⟨some (.Ee (!true || m.w==1)),by simp [Fam.BW,ag],?_⟩;refine C 2 V ?_;obtain⟨bw,bx,bz⟩:=a0.1 ag;refine C 4 V (Am (v:=CN (By m&&& 4)) V (λρ h=>Ex (c:=4) am (h _ _ V) (h _ _ V) (by decide)) ?_);refine Am (v:= .bool true) V (λρ h=>Yl.to (HT (h _ _ V) (h _ _ V)) (by have b0:(((By m&&& 4:Nat):Int)≠0):=(λe=>by rw [(H0 m).1 e] at ag;cases ag);rw [decide_eq_true b0])) ?_;refine C 6 V (Am (v:=CN (By m&&& 3)) V (λρ h=>Ex (c:=3) am (h _ _ V) (h _ _ V) (by decide)) ?_);refine Am (v:= .bool false) V (λρ h=>Yl.to (HT (h _ _ V) (h _ _ V)) (by rw [(On m).2 ⟨bw,bx⟩];rfl)) (C 2 V ?_);refine Am (v:=CN m.w) V (λρ h=>IY am (h _ _ V) (h _ _ V)) (Am (v:= .bool false) V (λρ h=>Yl.to (Yl.eql (h _ _ V) (h _ _ V)) (by rw [decide_eq_false (λe=>bz (by omega))])) ?_);refine C 12 V (Am (v:= .bool (!true)) V (λρ h=>Yl.not (h _ _ V)) ?_);refine C 1 V (Kz (c:= !true) (i:=119) V (λd1=>?_) (λd1=>?_))
        ·refine Iz V V V (C 5 V ?_);have hex:(!true || m.w==1)=true:=by rw [d1];simp
         rw [hex];refine C 2 V (Am (v:= .int .i32 (-11)) V (λρ h=>Yl.to (Yl.sub (h _ _ V) (h _ _ V)) V) ?_);refine C 6 V (JL.uA V V ?_);refine C 1 V (Hl (kk:=kk) (p:= .Ee true) (dl:= -11) O ac V V V V V Hu V V λK a5 al=>⟨⟨true,K.k,false,K.w - 1⟩,some .len,?_,List.mem_singleton.2 V,?_⟩)
         ·obtain⟨a9,bb,be,w3⟩:=K;obtain⟨U,g2,Z,ap,bi,aq⟩:=al;simp only at U g2 Z ap;subst U g2 Z;have bn:w3<134217728:=aq;have e:(⟨false,false,true,w3⟩:M4).num+(-11)=((8*(w3 - 1)+1:Nat):Int):=by simp only [M4.num,Bool.toNat_true,Bool.toNat_false];omega
          rw [e,FA (by omega)];simp only [M4.num,Bool.toNat_true,Bool.toNat_false];omega
         exact C 2 V (a1 X O ay _ V)
        ·refine Am (v:= .int .i32 (m:M4).num) V (λρ h=>Yl.move (h _ _ V)) (Am (v:=CN m.w) V (λρ h=>IY am (h _ _ V) (h _ _ V)) ?_);refine C 3 V (Gm (p:=(m.w:Int)=1) V (λd2=>?_) (λd2=>?_))
         ·have hex:(!true || m.w==1)=true:=by rw [d1];simp;omega
          rw [hex];refine C 2 V (Am (v:= .int .i32 (-11)) V (λρ h=>Yl.to (Yl.sub (h _ _ V) (h _ _ V)) V) ?_);refine C 6 V (JL.uA V V ?_);refine C 1 V (Hl (kk:=kk) (p:= .Ee true) (dl:= -11) O ac V V V V V Hu V V λK a5 al=>⟨⟨true,K.k,false,K.w - 1⟩,some .len,?_,List.mem_singleton.2 V,?_⟩)
          ·obtain⟨a9,bb,be,w3⟩:=K;obtain⟨U,g2,Z,ap,bi,aq⟩:=al;simp only at U g2 Z ap;subst U g2 Z;have bn:w3<134217728:=aq;have e:(⟨false,false,true,w3⟩:M4).num+(-11)=((8*(w3 - 1)+1:Nat):Int):=by simp only [M4.num,Bool.toNat_true,Bool.toNat_false];omega
           rw [e,FA (by omega)];simp only [M4.num,Bool.toNat_true,Bool.toNat_false];omega
          exact C 2 V (a1 X O ay _ V)
         ·have hex:(!true || m.w==1)=false:=by rw [d1];simp;omega
          rw [hex];refine C 5 V (JL.uA V V ?_);refine C 1 V (Hl (kk:=kk) (p:= .Ee false) (dl:= -7) O ac V V V V V Hu V V λK a5 al=>⟨⟨true,K.k,true,K.w - 1⟩,some .len,?_,List.mem_singleton.2 V,?_⟩)
          ·obtain⟨a9,bb,be,w3⟩:=K;obtain⟨U,g2,Z,ap,bi,aq⟩:=al;simp only at U g2 Z ap;subst U g2 Z;have bn:w3<134217728:=aq;have e:(⟨false,false,true,w3⟩:M4).num+(-7)=((8*(w3 - 1)+5:Nat):Int):=by simp only [M4.num,Bool.toNat_true,Bool.toNat_false];omega
           rw [e,FA (by omega)];simp only [M4.num,Bool.toNat_true,Bool.toNat_false];omega
          exact C 2 V (a1 X O ay _ V)
       ·refine⟨some (.Ci true true 0 m),by simp [Fam.BW,ag],?_⟩;refine C 2 V ?_;have bo:m.s=false:=by simpa using ag
        refine C 4 V (Am (v:=CN (By m&&& 4)) V (λρ h=>Ex (c:=4) am (h _ _ V) (h _ _ V) (by decide)) ?_);refine Am (v:= .bool false) V (λρ h=>Yl.to (HT (h _ _ V) (h _ _ V)) (by rw [(H0 m).2 bo];rfl)) (C 11 V ?_);refine JL.again ?_;rw [← a6];exact Ec [(0,.pointer (some F.uA)),(2,iV v),(3,.bool true),(4,.bool true),(5,iV ((0:Nat):Int)),(6,.int .i32 (m:M4).num)] V (b5 (true,true,0,m,v) ⟨λ_=>a0.2.1 bo,Nat.zero_le _,a8⟩)
     ·refine⟨some ((.Cr sv)),R5 a3 _ (.inr V),?_⟩;refine C 6 V (Am (v:=CN (By old&&& 5)) V (λρ h=>Ex (c:=5) a2 (h _ _ V) (h _ _ V) (by decide)) ?_);refine Am (v:= .bool false) V (λρ h=>Yl.to (Yl.eql (h _ _ V) (h _ _ V)) (by rw [decide_eq_false (λe=>a3 ((My old).1 e))])) ?_;refine C 13 V (Am (v:= .bool false) V (λρ h=>Yl.to (Yl.eql (h _ _ V) (h _ _ V)) (by rw [decide_eq_false c6])) ?_);refine C 7 V (Am (v:= .pointer (some F.qA)) V (λρ h=>Fz (a:=F.uA) 0 1 Tryz.underlying140 M1 V V V (h _ _ V)) ?_);refine C 1 V (RH (kk:=kk) (sv:=sv) O ac V V V V Ue V V ?_);refine JL.done ?_;cases sv
      ·rw [if_neg (by decide)];refine C 4 V (Po (kk:=kk) (p:= .F9) O ac V V V V V Qf Qm λdt du v2 dv=>⟨some (.EA (decide (IntKind.i64.wrap (v2 - wt)>1000000))),by (cases decide (IntKind.i64.wrap (v2 - wt)>1000000) <;> simp [Fam.BW]),?_⟩);refine C 1 V (Am (v:= .int .i64 (IntKind.i64.wrap (v2 - wt))) V (λρ h=>Yl.sub (h _ _ V) (h _ _ V)) ?_);refine C 4 V ?_;generalize decide (IntKind.i64.wrap (v2 - wt)>1000000)=av;refine C 4 V (JL.uA V V ?_);refine Ho (kk:=kk) (p:= .EA av) O ac V V V V V Hi IE V ?_;intro m ci a0;have a8:C4 m:=a0.2.2;have am:Cj m:=a8.Cj;by_cases ag:m.s=true
       ·refine⟨some (.Ee (!av || m.w==1)),by simp [Fam.BW,ag],?_⟩;refine C 2 V ?_;obtain⟨bw,bx,bz⟩:=a0.1 ag;refine C 4 V (Am (v:=CN (By m&&& 4)) V (λρ h=>Ex (c:=4) am (h _ _ V) (h _ _ V) (by decide)) ?_);refine Am (v:= .bool true) V (λρ h=>Yl.to (HT (h _ _ V) (h _ _ V)) (by have b0:(((By m&&& 4:Nat):Int)≠0):=(λe=>by rw [(H0 m).1 e] at ag;cases ag);rw [decide_eq_true b0])) ?_;refine C 6 V (Am (v:=CN (By m&&& 3)) V (λρ h=>Ex (c:=3) am (h _ _ V) (h _ _ V) (by decide)) ?_);refine Am (v:= .bool false) V (λρ h=>Yl.to (HT (h _ _ V) (h _ _ V)) (by rw [(On m).2 ⟨bw,bx⟩];rfl)) (C 2 V ?_);refine Am (v:=CN m.w) V (λρ h=>IY am (h _ _ V) (h _ _ V)) (Am (v:= .bool false) V (λρ h=>Yl.to (Yl.eql (h _ _ V) (h _ _ V)) (by rw [decide_eq_false (λe=>bz (by omega))])) ?_);refine C 12 V (Am (v:= .bool (!av)) V (λρ h=>Yl.not (h _ _ V)) ?_);refine C 1 V (Kz (c:= !av) (i:=119) V (λd1=>?_) (λd1=>?_))
        ·refine Iz V V V (C 5 V ?_);have hex:(!av || m.w==1)=true:=by rw [d1];simp
         rw [hex];refine C 2 V (Am (v:= .int .i32 (-11)) V (λρ h=>Yl.to (Yl.sub (h _ _ V) (h _ _ V)) V) ?_);refine C 6 V (JL.uA V V ?_);refine C 1 V (Hl (kk:=kk) (p:= .Ee true) (dl:= -11) O ac V V V V V Hu V V λK a5 al=>⟨⟨true,K.k,false,K.w - 1⟩,some .len,?_,List.mem_singleton.2 V,?_⟩)
         ·obtain⟨a9,bb,be,w3⟩:=K;obtain⟨U,g2,Z,ap,bi,aq⟩:=al;simp only at U g2 Z ap;subst U g2 Z;have bn:w3<134217728:=aq;have e:(⟨false,false,true,w3⟩:M4).num+(-11)=((8*(w3 - 1)+1:Nat):Int):=by simp only [M4.num,Bool.toNat_true,Bool.toNat_false];omega
          rw [e,FA (by omega)];simp only [M4.num,Bool.toNat_true,Bool.toNat_false];omega
         exact C 2 V (a1 X O ay _ V)
        ·refine Am (v:= .int .i32 (m:M4).num) V (λρ h=>Yl.move (h _ _ V)) (Am (v:=CN m.w) V (λρ h=>IY am (h _ _ V) (h _ _ V)) ?_);refine C 3 V (Gm (p:=(m.w:Int)=1) V (λd2=>?_) (λd2=>?_))
         ·have hex:(!av || m.w==1)=true:=by rw [d1];simp;omega
          rw [hex];refine C 2 V (Am (v:= .int .i32 (-11)) V (λρ h=>Yl.to (Yl.sub (h _ _ V) (h _ _ V)) V) ?_);refine C 6 V (JL.uA V V ?_);refine C 1 V (Hl (kk:=kk) (p:= .Ee true) (dl:= -11) O ac V V V V V Hu V V λK a5 al=>⟨⟨true,K.k,false,K.w - 1⟩,some .len,?_,List.mem_singleton.2 V,?_⟩)
          ·obtain⟨a9,bb,be,w3⟩:=K;obtain⟨U,g2,Z,ap,bi,aq⟩:=al;simp only at U g2 Z ap;subst U g2 Z;have bn:w3<134217728:=aq;have e:(⟨false,false,true,w3⟩:M4).num+(-11)=((8*(w3 - 1)+1:Nat):Int):=by simp only [M4.num,Bool.toNat_true,Bool.toNat_false];omega
           rw [e,FA (by omega)];simp only [M4.num,Bool.toNat_true,Bool.toNat_false];omega
          exact C 2 V (a1 X O ay _ V)
         ·have hex:(!av || m.w==1)=false:=by rw [d1];simp;omega
          rw [hex];refine C 5 V (JL.uA V V ?_);refine C 1 V (Hl (kk:=kk) (p:= .Ee false) (dl:= -7) O ac V V V V V Hu V V λK a5 al=>⟨⟨true,K.k,true,K.w - 1⟩,some .len,?_,List.mem_singleton.2 V,?_⟩)
          ·obtain⟨a9,bb,be,w3⟩:=K;obtain⟨U,g2,Z,ap,bi,aq⟩:=al;simp only at U g2 Z ap;subst U g2 Z;have bn:w3<134217728:=aq;have e:(⟨false,false,true,w3⟩:M4).num+(-7)=((8*(w3 - 1)+5:Nat):Int):=by simp only [M4.num,Bool.toNat_true,Bool.toNat_false];omega
           rw [e,FA (by omega)];simp only [M4.num,Bool.toNat_true,Bool.toNat_false];omega
          exact C 2 V (a1 X O ay _ V)
       ·refine⟨some (.Ci av true 0 m),by simp [Fam.BW,ag],?_⟩;refine C 2 V ?_;have bo:m.s=false:=by simpa using ag
        refine C 4 V (Am (v:=CN (By m&&& 4)) V (λρ h=>Ex (c:=4) am (h _ _ V) (h _ _ V) (by decide)) ?_);refine Am (v:= .bool false) V (λρ h=>Yl.to (HT (h _ _ V) (h _ _ V)) (by rw [(H0 m).2 bo];rfl)) (C 11 V ?_);refine JL.again ?_;rw [← a6];exact Ec [(0,.pointer (some F.uA)),(2,iV wt),(3,.bool av),(4,.bool true),(5,iV ((0:Nat):Int)),(6,.int .i32 (m:M4).num)] V (b5 (av,true,0,m,wt) ⟨λ_=>a0.2.1 bo,Nat.zero_le _,a8⟩)
      ·rw [if_pos rfl];refine C 15 V (JL.uA V V ?_);refine Ho (kk:=kk) (p:= .EA true) O ac V V V V V Hi IE V ?_;intro m ci a0;have a8:C4 m:=a0.2.2;have am:Cj m:=a8.Cj;by_cases ag:m.s=true
       ·refine⟨some (.Ee (!true || m.w==1)),by simp [Fam.BW,ag],?_⟩;refine C 2 V ?_;obtain⟨bw,bx,bz⟩:=a0.1 ag;refine C 4 V (Am (v:=CN (By m&&& 4)) V (λρ h=>Ex (c:=4) am (h _ _ V) (h _ _ V) (by decide)) ?_);refine Am (v:= .bool true) V (λρ h=>Yl.to (HT (h _ _ V) (h _ _ V)) (by have b0:(((By m&&& 4:Nat):Int)≠0):=(λe=>by rw [(H0 m).1 e] at ag;cases ag);rw [decide_eq_true b0])) ?_;refine C 6 V (Am (v:=CN (By m&&& 3)) V (λρ h=>Ex (c:=3) am (h _ _ V) (h _ _ V) (by decide)) ?_);refine Am (v:= .bool false) V (λρ h=>Yl.to (HT (h _ _ V) (h _ _ V)) (by rw [(On m).2 ⟨bw,bx⟩];rfl)) (C 2 V ?_);refine Am (v:=CN m.w) V (λρ h=>IY am (h _ _ V) (h _ _ V)) (Am (v:= .bool false) V (λρ h=>Yl.to (Yl.eql (h _ _ V) (h _ _ V)) (by rw [decide_eq_false (λe=>bz (by omega))])) ?_);refine C 12 V (Am (v:= .bool (!true)) V (λρ h=>Yl.not (h _ _ V)) ?_);refine C 1 V (Kz (c:= !true) (i:=119) V (λd1=>?_) (λd1=>?_))
        ·refine Iz V V V (C 5 V ?_);have hex:(!true || m.w==1)=true:=by rw [d1];simp
         rw [hex];refine C 2 V (Am (v:= .int .i32 (-11)) V (λρ h=>Yl.to (Yl.sub (h _ _ V) (h _ _ V)) V) ?_);refine C 6 V (JL.uA V V ?_);refine C 1 V (Hl (kk:=kk) (p:= .Ee true) (dl:= -11) O ac V V V V V Hu V V λK a5 al=>⟨⟨true,K.k,false,K.w - 1⟩,some .len,?_,List.mem_singleton.2 V,?_⟩)
         ·obtain⟨a9,bb,be,w3⟩:=K;obtain⟨U,g2,Z,ap,bi,aq⟩:=al;simp only at U g2 Z ap;subst U g2 Z;have bn:w3<134217728:=aq;have e:(⟨false,false,true,w3⟩:M4).num+(-11)=((8*(w3 - 1)+1:Nat):Int):=by simp only [M4.num,Bool.toNat_true,Bool.toNat_false];omega
          rw [e,FA (by omega)];simp only [M4.num,Bool.toNat_true,Bool.toNat_false];omega
         exact C 2 V (a1 X O ay _ V)
        ·refine Am (v:= .int .i32 (m:M4).num) V (λρ h=>Yl.move (h _ _ V)) (Am (v:=CN m.w) V (λρ h=>IY am (h _ _ V) (h _ _ V)) ?_);refine C 3 V (Gm (p:=(m.w:Int)=1) V (λd2=>?_) (λd2=>?_))
         ·have hex:(!true || m.w==1)=true:=by rw [d1];simp;omega
          rw [hex];refine C 2 V (Am (v:= .int .i32 (-11)) V (λρ h=>Yl.to (Yl.sub (h _ _ V) (h _ _ V)) V) ?_);refine C 6 V (JL.uA V V ?_);refine C 1 V (Hl (kk:=kk) (p:= .Ee true) (dl:= -11) O ac V V V V V Hu V V λK a5 al=>⟨⟨true,K.k,false,K.w - 1⟩,some .len,?_,List.mem_singleton.2 V,?_⟩)
          ·obtain⟨a9,bb,be,w3⟩:=K;obtain⟨U,g2,Z,ap,bi,aq⟩:=al;simp only at U g2 Z ap;subst U g2 Z;have bn:w3<134217728:=aq;have e:(⟨false,false,true,w3⟩:M4).num+(-11)=((8*(w3 - 1)+1:Nat):Int):=by simp only [M4.num,Bool.toNat_true,Bool.toNat_false];omega
           rw [e,FA (by omega)];simp only [M4.num,Bool.toNat_true,Bool.toNat_false];omega
          exact C 2 V (a1 X O ay _ V)
         ·have hex:(!true || m.w==1)=false:=by rw [d1];simp;omega
          rw [hex];refine C 5 V (JL.uA V V ?_);refine C 1 V (Hl (kk:=kk) (p:= .Ee false) (dl:= -7) O ac V V V V V Hu V V λK a5 al=>⟨⟨true,K.k,true,K.w - 1⟩,some .len,?_,List.mem_singleton.2 V,?_⟩)
          ·obtain⟨a9,bb,be,w3⟩:=K;obtain⟨U,g2,Z,ap,bi,aq⟩:=al;simp only at U g2 Z ap;subst U g2 Z;have bn:w3<134217728:=aq;have e:(⟨false,false,true,w3⟩:M4).num+(-7)=((8*(w3 - 1)+5:Nat):Int):=by simp only [M4.num,Bool.toNat_true,Bool.toNat_false];omega
           rw [e,FA (by omega)];simp only [M4.num,Bool.toNat_true,Bool.toNat_false];omega
          exact C 2 V (a1 X O ay _ V)
       ·refine⟨some (.Ci true true 0 m),by simp [Fam.BW,ag],?_⟩;refine C 2 V ?_;have bo:m.s=false:=by simpa using ag
        refine C 4 V (Am (v:=CN (By m&&& 4)) V (λρ h=>Ex (c:=4) am (h _ _ V) (h _ _ V) (by decide)) ?_);refine Am (v:= .bool false) V (λρ h=>Yl.to (HT (h _ _ V) (h _ _ V)) (by rw [(H0 m).2 bo];rfl)) (C 11 V ?_);refine JL.again ?_;rw [← a6];exact Ec [(0,.pointer (some F.uA)),(2,iV wt),(3,.bool true),(4,.bool true),(5,iV ((0:Nat):Int)),(6,.int .i32 (m:M4).num)] V (b5 (true,true,0,m,wt) ⟨λ_=>a0.2.1 bo,Nat.zero_le _,a8⟩)
   ·refine JL.done (C 4 V ?_);refine JL.uA V V (Ho (kk:=kk) (p:= .Eg sv aw it) O ac V V V V V Hi IE V λa7 cy bv=>⟨some (.Ci sv aw it a7),List.mem_singleton.2 V,?_⟩);refine C 3 V (JL.again ?_);rw [← a6];exact Ec [(0,.pointer (some F.uA)),(2,iV wt),(3,.bool sv),(4,.bool aw),(5,iV (it:Int)),(6,.int .i32 (a7:M4).num)] V (b5 (sv,aw,it,a7,wt) ⟨bv.2.2.2,b1.2.1,bv.2.2.1⟩)
 exact λa co=>key 5 a (by omega) co
set_option maxHeartbeats 4000000 in
theorem VQ{F:Fam}{n:Nat}{L:Env}{ds:Ld_}{k:Li_}{cs:Lf_}{s:St}{b:Frame}{ops:Ao_}{i:Nat}{rest:List Nat}{d:Option Tmp}{x:Operand}{ats:Array TypeId}{ty:TypeId}{pp:String}{af:Ae_}{g:On_}{kk:Nat}(K:s.q=false)(O:ops[i]? =some ⟨d,.call ⟨.value (.func 162),#[x],ats⟩,ty,pp,af,g⟩)(hw:AK L ops ⟨d,.call ⟨.value (.func 162),#[x],ats⟩,ty,pp,af,g⟩=some true)(U:((b.kind != .early)&&Bd n d)=true)(Y:ev L x=some (.pointer (some F.uA)))
  (h:JL (AT Tryz.prog false) (Stop Tryz.prog F (.lk kk .Fc)) b n (As L d (.tuple #[])) ds (.inRegion ops rest::k) cs s):
  JL (AT Tryz.prog false) (Stop Tryz.prog F (.lk kk .Gb)) b n L ds (.inRegion ops (i::rest)::k) cs s:=by
 refine Hn (vs:= [.pointer (some F.uA)]) O hw U Tryz.func162 (by decide+kernel) V (by simp [evs,Y]) (Nat.le_of_ble_eq_true V) λac back=>C 2 V (Lr (kk:=kk) (p:= .Gb) CV.stop K V (λ_ _=>V) V V V V (by simp) UE ?_);refine C 6 V (JL.uA V V ?_);refine Su (kk:=kk) (p:= .Ht) (old:=M4.zero) (nw:=⟨true,false,false,0⟩) CV.stop K V V V V V Oc V V V (λq Z=>⟨some .len,by simp [Fam.BW],?_⟩) (λm q hm Z=>⟨some (.Eg false false 0),by simp [Fam.BW,hm],?_⟩)
 ·refine JL.done (C 5 V ?_);refine Lr (kk:=kk) (p:= .len) CV.stop K V (λ_ _=>V) V V V V (by simp) Ot (C 3 V ?_);refine Pg (kk:=kk) (p:= .K4) CV.stop K V (λ_ _=>V) V V V V Tryz.underlying229 Tryz.underlying185 PS V (PK (kk:=kk) (p:= .J9) (ad:=F.uA) CV.stop K V (λ_ _=>V) V V V V (by simp) UH V V ?_);exact JL.done (JL.ret V V (BA.none Tryz.func162 V) (back _ _ _ _ h))
 ·refine JL.done (C 4 V ?_);refine WJ (kk:=kk) K V V V V (JL.done ?_);exact JL.fin V V (BA.none Tryz.func162 V) (back _ _ _ _ h)
set_option maxHeartbeats 4000000 in
theorem Wi{F:Fam}{n:Nat}{L:Env}{ds:Ld_}{k:Li_}{cs:Lf_}{s:St}{b:Frame}{ops:Ao_}{i:Nat}{rest:List Nat}{d:Option Tmp}{x:Operand}{ats:Array TypeId}{ty:TypeId}{pp:String}{af:Ae_}{g:On_}{kk:Nat}(K:s.q=false)(O:ops[i]? =some ⟨d,.call ⟨.value (.func 121),#[x],ats⟩,ty,pp,af,g⟩)(hw:AK L ops ⟨d,.call ⟨.value (.func 121),#[x],ats⟩,ty,pp,af,g⟩=some true)(U:((b.kind != .early)&&Bd n d)=true)(Y:ev L x=some (.pointer (some F.uA)))
  (h:JL (AT Tryz.prog false) (Stop Tryz.prog F (.lk kk .Fc)) b n (As L d (.tuple #[])) ds (.inRegion ops rest::k) cs s):
  JL (AT Tryz.prog false) (Stop Tryz.prog F (.lk kk .Gb)) b n L ds (.inRegion ops (i::rest)::k) cs s:=by
 refine Hn (vs:= [.pointer (some F.uA)]) O hw U Tryz.func121 (by decide+kernel) V (by simp [evs,Y]) (Nat.le_of_ble_eq_true V) λZ back=>C 3 V (Am (v:= .pointer (some F.uA)) V (λρ h=>Fz (a:=F.uA) 1 0 Tryz.underlying142 (AV Tryz.type140) V V V (h _ _ V)) ?_);refine VQ (kk:=kk) K V V V V (JL.done ?_);exact JL.fin V V (BA.none Tryz.func121 V) (back _ _ _ _ h)
def IS(m:M4):LP:=if m.l=false/\m.k=false/\m.s=false/\m.w≠0 then .EM m else .Fe
def QN(m:M4):LP:=if m.s=true then .EZ true else if m.k=false/\m.w≠0 then .EM {m with l:=false} else .Fe
set_option maxHeartbeats 4000000 in
theorem VF{F:Fam}{n:Nat}{L:Env}{ds:Ld_}{k:Li_}{cs:Lf_}{s:St}{b:Frame}{ops:Ao_}{i:Nat}{rest:List Nat}{d:Option Tmp}{x Z:Operand}{nw:M4}{ats:Array TypeId}{ty:TypeId}{pp:String}{af:Ae_}{g:On_}{kk:Nat}(U:s.q=false)(a3:ops[i]? =some ⟨d,.call ⟨.value (.func 191),#[x,Z],ats⟩,ty,pp,af,g⟩)(hw:AK L ops ⟨d,.call ⟨.value (.func 191),#[x,Z],ats⟩,ty,pp,af,g⟩=some true)(a4:((b.kind != .early)&&Bd n d)=true)(a5:ev L x=some (.pointer (some F.uA)))(a6:ev L Z=some (.int .i32 nw.num))(al:nw.l=false)(a7:C4 nw)(ac:Cj nw)
  (h:JL (AT Tryz.prog false) (Stop Tryz.prog F (.lk kk .Fe)) b n (As L d (.tuple #[])) ds (.inRegion ops rest::k) cs s):
  JL (AT Tryz.prog false) (Stop Tryz.prog F (.lk kk (if nw.s=true then .EZ true else if nw.k=false/\nw.w≠0 then .EM nw else .Fe))) b n L ds (.inRegion ops (i::rest)::k) cs s:=by
 refine Hn (vs:= [.pointer (some F.uA),.int .i32 nw.num]) a3 hw a4 Tryz.func191 (by decide+kernel) V (by simp [evs,a5,a6]) (Nat.le_of_ble_eq_true V) λam back=>C 4 V (Am (v:= .int .i32 ({nw with l:=true}:M4).num) V (λρ h=>Ze ac al (h _ _ V) (h _ _ V)) ?_);refine Am (v:=CN (By ({nw with l:=true}:M4)&&& 1)) V (λρ h=>Ex (c:=1) (m:={nw with l:=true}) ac (h _ _ V) (h _ _ V) (by decide)) (Am (v:= .bool false) V (λρ h=>Yl.to (Yl.eql (h _ _ V) (h _ _ V)) (by rw [decide_eq_false (λe=>by have q:=(Qy _).1 e;cases q)])) ?_);refine C 6 V (Am (v:=CN (By nw&&& 4)) V (λρ h=>Ex (c:=4) ac (h _ _ V) (h _ _ V) (by decide)) ?_);refine C 2 V (Gm (p:=((By nw&&& 4:Nat):Int)=0) V (λc=>?_) (λc=>?_))
 ·have ap:=(H0 nw).1 c;rw [if_neg (by rw [ap];exact Bool.false_ne_true)];refine C 6 V ?_;refine IW ?_;refine Ec [(0,.pointer (some F.uA)),(4,.int .i32 nw.num)] V ?_;refine UD λaq av=>?_;have a8:(if nw.k=false/\nw.w≠0 then LP.EM nw else .Fe)=IS nw:=by unfold IS;rw [al,ap];simp
  rw [a8];refine Ub (P:=Tryz.prog) (F:=F) (s:=s) (kk:=kk) (ph:=λm=>LP.EM m) (ok:=C4) (head:=λ(X:Ph->GP) (a:M4)=>JL (AT Tryz.prog false) (X (.lk kk (IS a))) (base 191) Tryz.f191.ntmps ([(0,.pointer (some F.uA)),(4,.int .i32 (a:M4).num)]) [] aq (am::cs) s) ?_ nw a7;intro Y bx aw hC old ay;have K:Cj old:=ay.Cj;show JL (AT Tryz.prog false) (Y (.lk kk (IS old))) (base 191) Tryz.f191.ntmps [(0,.pointer (some F.uA)),(4,.int .i32 old.num)] [] aq (am::cs) s;rw [av];refine C 5 V (Am (v:=CN old.w) V (λρ h=>IY K (h _ _ V) (h _ _ V)) ?_);refine C 2 V (L5 (q:=(old.w:Int)=0) (i:=17) V (λc2=>?_) (λc2=>?_))
  ·have O:IS old= .Fe:=by unfold IS;rw [if_neg (λe=>e.2.2.2 (by omega))]
   refine C 6 V ?_;rw [O];exact JL.ret V V (BA.none Tryz.func191 V) (back _ _ _ _ (Nl (λg s=>aw _ g s) h))
  ·refine Am (v:= .int .i32 (old:M4).num) V (λρ h=>Yl.move (h _ _ V)) (Am (v:=CN (By old&&& 7)) V (λρ h=>Ex (c:=7) K (h _ _ V) (h _ _ V) (by decide)) ?_);refine C 3 V (Gm (p:=((By old&&& 7:Nat):Int)≠0) V (λc3=>?_) (λc3=>?_))
   ·have O:IS old= .Fe:=by unfold IS;rw [if_neg (λe=>c3 ((Ur old).2 ⟨e.1,e.2.1,e.2.2.1⟩))]
    rw [O];exact JL.ret V V (BA.none Tryz.func191 V) (back _ _ _ _ (Nl (λg s=>aw _ g s) h))
   ·have a9:=(Ur old).1 (Decidable.not_not.1 c3);obtain⟨l0,bz,b0,w0⟩:=old;obtain⟨z1,az,a0⟩:=a9;simp only at z1 az a0 c2;subst z1 az a0;have a1:w0≠0:=by omega
    have O:IS ⟨false,false,false,w0⟩= .EM ⟨false,false,false,w0⟩:=by unfold IS;rw [if_pos ⟨rfl,rfl,rfl,a1⟩]
    rw [O];refine C 4 V (Am (v:= .int .i32 (⟨false,false,false,w0 - 1⟩:M4).num) V (λρ h=>Ya (m:=⟨false,false,false,w0⟩) K a1 (h _ _ V) (h _ _ V)) ?_);refine Am (v:= .int .i32 (⟨false,true,false,w0 - 1⟩:M4).num) V (λρ h=>NY (c:=2) (m:=⟨false,false,false,w0 - 1⟩) (by unfold Cj at K ⊢;simp only at K ⊢;omega) (by decide) (QT _) V (h _ _ V) (h _ _ V)) (C 7 V ?_);refine JL.uA V V (C 2 V ?_);refine λT bb=>(AT Tryz.prog false).stop (hC ⟨false,false,false,w0⟩ _ ay λX b1 be a2 bi bn=>?_);refine Pq (kk:=kk) (p:= .EM ⟨false,false,false,w0⟩) (old:=⟨false,false,false,w0⟩) (nw:=⟨false,true,false,w0 - 1⟩) be U V V V V V Oc V V V (λq bo=>⟨some (.EZ false),by simp [Fam.BW],?_⟩) (λm q hm bo=>⟨some .Hx,by simp [Fam.BW,hm],?_⟩) T bb
    ·refine JL.done (C 5 V ?_);refine Am (v:= .pointer (some F.qA)) V (λρ h=>Fz (a:=F.uA) 0 1 Tryz.underlying140 M1 V V V (h _ _ V)) (RF (kk:=kk) (st:=false) a2 U V V V V TX V V ?_);exact JL.done (JL.ret V V (BA.none Tryz.func191 V) (back _ _ _ _ (Nl (λg s=>bi _ g s) h)))
    ·refine JL.done (C 5 V ?_);refine JL.uA V V (Ho (kk:=kk) (p:= .Hx) a2 U V V V V V Hi bp V λag b2 bv=>⟨some (IS ag),List.mem_singleton.2 V,?_⟩);refine C 3 V (JL.again ?_);rw [← av];exact Ec [(0,.pointer (some F.uA)),(4,.int .i32 ag.num)] V (bn ag bv)
 ·have bw:nw.s=true:=by rcases Bool.eq_false_or_eq_true nw.s with hh | hh;exact hh;exact absurd ((H0 nw).2 hh) c
  rw [if_pos bw];refine C 3 V (Am (v:= .pointer (some F.qA)) V (λρ h=>Fz (a:=F.uA) 0 1 Tryz.underlying140 M1 V V V (h _ _ V)) ?_);refine RF (kk:=kk) (st:=true) CV.stop U V V V V TX V V (JL.done ?_);exact JL.fin V V (BA.none Tryz.func191 V) (back _ _ _ _ h)
set_option maxHeartbeats 4000000 in
theorem Vl{F:Fam}{n:Nat}{L:Env}{ds:Ld_}{k:Li_}{cs:Lf_}{s:St}{b:Frame}{ops:Ao_}{i:Nat}{rest:List Nat}{d:Option Tmp}{x:Operand}{ats:Array TypeId}{ty:TypeId}{pp:String}{af:Ae_}{g:On_}{kk:Nat}(K:s.q=false)(al:ops[i]? =some ⟨d,.call ⟨.value (.func 163),#[x],ats⟩,ty,pp,af,g⟩)(hw:AK L ops ⟨d,.call ⟨.value (.func 163),#[x],ats⟩,ty,pp,af,g⟩=some true)(am:((b.kind != .early)&&Bd n d)=true)(ap:ev L x=some (.pointer (some F.uA)))
  (h:JL (AT Tryz.prog false) (Stop Tryz.prog F .Ia) b n (As L d (.tuple #[])) ds (.inRegion ops rest::k) cs s):
  JL (AT Tryz.prog false) (Stop Tryz.prog F (.lk kk .GK)) b n L ds (.inRegion ops (i::rest)::k) cs s:=by
 refine Hn (vs:= [.pointer (some F.uA)]) al hw am Tryz.func163 (by decide+kernel) V (by simp [evs,ap]) (Nat.le_of_ble_eq_true V) λa0 back=>C 6 V (JL.uA V V ?_);refine Ho (kk:=kk) (p:= .GK) CV.stop K V V V V V Hi bE V λa1 a2 a3=>⟨some .Kj,List.mem_singleton.2 V,?_⟩;refine C 4 V (Pg (kk:=kk) (p:= .Kj) CV.stop K V (λ_ _=>V) V V V V Tryz.underlying229 Tryz.underlying185 PS V ?_);refine PK (kk:=kk) (p:= .Ki) (ad:=F.uA) CV.stop K V (λ_ _=>V) V V V V (by simp) cV V V (C 2 V ?_);refine Lr (kk:=kk) (p:= .Kb) CV.stop K V (λ_ _=>V) V V V V (by simp) UE (C 5 V ?_);refine JL.uA V V (Hl (kk:=kk) (p:= .H5) (dl:= -1) CV.stop K V V V V V Hu V V λm q Y=>⟨{m with l:=false},some (QN m),?_,List.mem_singleton.2 V,?_⟩)
 ·obtain⟨aq,O,U,w3⟩:=m;obtain⟨Z,av⟩:=Y;simp only at Z;subst Z;have a4:w3<134217728:=av;have a5:=Bool.toNat_le O;have a6:=Bool.toNat_le U;have e:(⟨true,O,U,w3⟩:M4).num+(-1)=((2*O.toNat+4*U.toNat+8*w3:Nat):Int):=by simp only [M4.num,Bool.toNat_true];omega
  rw [e,FA (by omega)];simp only [M4.num,Bool.toNat_false];omega
 ·have ac:C4 m:=Y.2;have aw:Cj ({m with l:=false}:M4):=(show C4 ({m with l:=false}:M4) from ac).Cj;refine C 8 V ?_;refine Gm (p:=({m with l:=false}:M4).num≠0) V (λc=>?_) (λc=>?_)
  ·refine JL.region (C 2 V ?_);refine VF (kk:=kk) (nw:={m with l:=false}) K V V V V V V ac aw (C 2 V ?_);refine Lr (kk:=kk) (p:= .Fe) CV.stop K V (λ_ _=>V) V V V V (by simp) Ot (JL.done ?_);exact JL.fin V V (BA.none Tryz.func163 V) (back _ _ _ _ h)
  ·have ay:({m with l:=false}:M4).num=0:=Decidable.not_not.1 c;have ag:m.k=false/\m.s=false/\m.w=0:=by
    obtain⟨aq,O,U,w3⟩:=m;cases O <;> cases U <;> simp [M4.num] at ay ⊢ <;> omega
   have az:QN m= .Fe:=by unfold QN;rw [if_neg (by rw [ag.2.1];exact Bool.false_ne_true),if_neg (λe=>e.2 ag.2.2)]
   rw [az];refine C 2 V (Lr (kk:=kk) (p:= .Fe) CV.stop K V (λ_ _=>V) V V V V (by simp) Ot ?_);exact JL.done (JL.fin V V (BA.none Tryz.func163 V) (back _ _ _ _ h))
theorem JO.YE{F:Fam}{n:Nat}{M:Env}{ds:Ld_}{cs:Lf_}{s:St}{b:Frame}{kk:Nat}(K:b.roundOf=none)(O:s.q=false)(h:JO (AT Tryz.prog false) (Stop Tryz.prog F .Ia) b n M ds cs s):
  JO (AT Tryz.prog false) (Stop Tryz.prog F (.lk kk .GK)) b n M (dcall 122 #[.pointer (some F.uA)]::ds) cs s:=by
 refine JO.enter (vs:= [.pointer (some F.uA)]) K Tryz.func122 (by decide+kernel) V (Nat.le_of_ble_eq_true V) λT U todo=>C 3 V (Am (v:= .pointer (some F.uA)) V (λρ h=>Fz (a:=F.uA) 1 0 Tryz.underlying142 (AV Tryz.type140) V V V (h _ _ V)) ?_);refine Vl (kk:=kk) O V V V V (JL.done ?_);exact JL.out V (JO.leaveD V Tryz.func122 V (.inl V) (h T U todo))
end Pal
namespace Pal
open Go Go.Conc
open Go.ConcN (upd)
variable {ops:Ao_}{i:Nat}{rest:List Nat}{d:Option Tmp}{f:FuncId}{z:Operand}{ats:Array TypeId}{ty t u tw:TypeId}{pp:String}{af:Ae_}{g:On_}{kk:Nat}
section
variable {P:Program}{F:Fam}{n:Nat}{L L':Env}{ds:Ld_}{k:Li_}{cs:Lf_}{s s':St}{b:Frame}
variable {x y:Operand}
theorem Vo{m:Nat}(h:Bo P t=some m)(w:World):(Go.sizeOf t).run P w= .ok m w:=by
 unfold Bo at h;simp only [Go.sizeOf,typeInfo,bind,Sem.bind,program,Sem.run];cases hi:P.info? t with
 | none=>rw [hi] at h;cases h
 | some j=>rw [hi] at h;simp at h;subst h;rfl
theorem YB{w:World}{K:Nat->Value}(h:F.FD w K)(O:kk<F.n):w.cell? ⟨F.fd,kk,none⟩=some (K kk)/\w.frozen? ⟨F.fd,kk,none⟩=false:=by
 unfold Fam.FD Fam.IQ at h;constructor
 ·simp [World.cell?,h,O]
 ·simp [World.frozen?,h]
theorem VA{w:World}{O:Nat->Value}{v:Value}(h:F.FD w O)(ac:kk<F.n):w.setCell ⟨F.fd,kk,none⟩ v=F.Hy w (upd O kk v):=by
 unfold Fam.Hy World.setCell;congr 1;apply Array.ext_getElem?;intro i;unfold Fam.FD Fam.IQ at h;rw [Array.getElem?_modify];have U:F.fd<w.heap.size:=by
  rcases Nat.lt_or_ge F.fd w.heap.size with K | K
  ·exact K
  ·simp [Array.getElem?_eq_none K] at h
 by_cases e:F.fd=i
 ·subst e;rw [Array.getElem?_setIfInBounds_self_of_lt U,h];simp only [if_true,Option.map_some,Fam.IQ,Option.some.injEq,Obj.cells.injEq,and_true];apply Array.ext
  ·simp
  ·intro j ag Y;by_cases e2:kk=j
   ·subst e2;simp [upd]
   ·have Z:¬j=kk:=λe=>e2 e.symm;simp [upd,Z];rw [Array.getElem_setIfInBounds (by simpa using Y),if_neg e2];simp
 ·rw [Array.getElem?_setIfInBounds_ne e,if_neg e]
theorem VW{X:Ph->GP}(av:CV P F X){a:Option Addr}{l c:Nat}(aw:s.q=false)(Y:kk<F.n)
  (ay:ops[i]? =some ⟨d,.store t x y,ty,pp,af,g⟩) (Z:b.roundOf=none) (hw:AK L ops ⟨d,.store t x y,ty,pp,af,g⟩=some true) (U:((b.kind != .early)&&Bd n d)=true)
  (az:Bo P t=some 1) (a0:(P.funcs[b.fn]?).any (·.norace)=false) (a1:ev L x=some (.pointer (some ⟨F.fd,kk,none⟩))) (a2:ev L y=some (.slice a l c)) (hm:F.msg kk (.slice a l c) s.E)
  (h:JL (AT P false) (X (.lk kk .GK)) b n (As L d undef) ds (.inRegion ops rest::k) cs s):
  JL (AT P false) (X (.lk kk .Fc)) b n L ds (.inRegion ops (i::rest)::k) cs s:=λT K=>by
 simp only [Bool.and_eq_true] at U
 refine(AT P _).stop (av _ _ _ {
  run:=rfl,offers:=rfl,quiet:=(by simp [Fam.CL]),live:=λ_=>aw,act:=(by simp [Fam.act]),I7:=(by simp),Ff:=(by simp),go:=(by simp),lk:=λk' l e a3=>by cases e;exact absurd rfl a3
  Cr:=(by simp),store:=λk' e=>?_,fin:=(by simp)})
 cases e
 refine⟨_,hm,G (fr b (CI T d undef) ds (.inRegion ops rest::k)) cs,rfl,λw a4 ac=>?_,h _ (K.put U.2 _)⟩
 obtain⟨c1,c2⟩:=YB ac Y
 have ag:execOp (⟨T,ds⟩:Act).eval ⟨d,.store t x y,ty,pp,af,g⟩=(do Instr.storeAt t (.pointer (some ⟨F.fd,kk,none⟩)) (.slice a l c);pure Next.skip):=by
  rw [Lf];simp only [execOp,K.ev a1,K.ev a2]
 have al:(Value.slice a l c).cells= #[.slice a l c]:=rfl;have am:(Value.slice a l c).oneCell'=true:=rfl;have ap:(Addr.add ⟨F.fd,kk,none⟩ 0)=⟨F.fd,kk,none⟩:=by rw [Dr rfl];rfl
 have aq:=Vo (P:=P) az w;have O:=run_store P w ⟨F.fd,kk,none⟩ (.slice a l c) .plain am;rw [c1] at O;simp only [c2,Bool.false_eq_true,if_false] at O;rw [BK Z,BK Z,stepG_none (a:=⟨T,ds⟩) (w':=F.Hy w (upd a4 kk (.slice a l c))) ay (B5 K hw) (by simpa using U.1) (by
  rw [ag]
  simp [Instr.storeAt,Instr.sureAddr,storeVar,al,aq,storeCells,ap,O,VA ac Y,Result.andThen]),DY]
 have e2:listed P b.fn ⟨T,ds⟩ ⟨d,.store t x y,ty,pp,af,g⟩ w= #[⟨.cell ⟨F.fd,kk,none⟩,true,false⟩]:=by
  unfold listed;rw [ag];have a5:=events_store (P:=P) (w:=w) (es:= #[]) ⟨F.fd,kk,none⟩ (.slice a l c) .plain am;have a6:(do Instr.storeAt t (.pointer (some ⟨F.fd,kk,none⟩)) (.slice a l c);pure Next.skip:Sem Next).events P w #[]= #[⟨.cell ⟨F.fd,kk,none⟩,true,false⟩]:=by
   simp [Instr.storeAt,Instr.sureAddr,storeVar,al,aq,storeCells,ap,O,c1,c2,a5,Result.evThen]
  rw [a6,seen_def];simp [seenStep,a0]
 rw [e2]
end
end Pal
namespace Pal
open Go Go.Conc Go.Proofs
open Go.Proofs.Tryz
open Go.Conc.Lib Go.ConcR.Gen
theorem bB:(Tryz.prog.funcs[117]?).any (·.norace)=false:=by rw [func117];rfl
def KZ(fu_:Nat)(K:A1)(p:Ax)(j:Nat):Option (List Int):=
 (f120 fu_ K).bind λO=>
 (f119 fu_ ([O]:List (List (AH))) ((j:Nat):Int) p ([]:List ((Nat×A6)×Bool))).bind λU=>
 some U.1
set_option maxHeartbeats 1000000 in
theorem Zt{F:Fam}{j:Nat}{E:LH}{ap a1 aq:Ao}{Z c2 av ac op ag al am oi kf off:Nat}{p:Ax}{O:A1}(a3:At E ac op [.slice ap p.length Z])(a4:Al Az E ap Z p)(a5:At E ag al [sV a1 O.1 c2,sV aq O.2 av])(a6:Al (rL rI) E a1 c2 O.1)(a7:Al Az E aq av O.2)(hi:At E am oi [iV ((j:Nat):Int)])(a8:At E kf off [.slice (some ⟨F.fd,0,none⟩) F.n F.n]){fu_:Nat}{r:List Int}(az:KZ fu_ O p j=some r)(a0:j<F.n)(a9:∀E' a c,Le E E'->Al rI E' a c r->(r= []->a=none)->F.msg j (.slice a r.length c) E'):
  Way Tryz.prog false (Stop Tryz.prog F (F.start j)) (born Tryz.prog ⟨.fn (.func 117) [.pointer (some F.sA),Aj ac op,Aj ag al,Aj am oi,.pointer (some F.uA),Aj kf off].toArray,#[]⟩) ⟨E,λ_=>none,false⟩:=by
 refine Xa (fn:=Tryz.f117) (vs:= [.pointer (some F.sA),Aj ac op,Aj ag al,Aj am oi,.pointer (some F.uA),Aj kf off]) func117 (by decide+kernel) V (by simp) (Nat.le_of_ble_eq_true V) ?_;obtain⟨H,bb⟩:∃H:LH,H=λ_=>none:=⟨_,V⟩;rw [← bb];have be:Ap E H []:=trivial;refine(?_:JL (AT Tryz.prog false) (Stop Tryz.prog F (.lk j .Gb)) (baseD 117) Tryz.f117.ntmps (Gn 0 [.pointer (some F.sA),Aj ac op,Aj ag al,Aj am oi,.pointer (some F.uA),Aj kf off]) [] [.code _] [Ly Tryz.prog] (Ak E H []));unfold KZ at az;refine C 2 V (JL.defer (vs:= [.pointer (some F.sA)]) V V V V V ?_);refine C 3 V (Da 0 a3 BC V V V ?_);refine JS.makeMap V V V be λr1 bi=>Am (v:= .agg #[sV ap p Z,.map (some r1)]) V (λρ h=>Dd [(0,1),(1,1)] h (Dp type153) underlying153 ⟨V,AV type80,V,AV type151,trivial⟩ V V) (JS.box (v:= .agg #[sV ap p Z,.map (some r1)]) V V V bi V λct bn=>?_);refine C 3 V (DF 1 bn V λcw K bo bv=>?_);refine Fl 5 λaw=>DU 0 aw V V (J2 1 aw (a5.Ah K) F1 DD V V V ?_);refine Ez 4 aw 0 (hi.Ah K) Bc V V V V ?_;obtain⟨a2,bw,bx⟩:=bs az;refine JG.call (i:=2) (vs:= [.agg #[sV a1 O.1 c2,sV aq O.2 av]]) (Zl (a6.Ah K) (a7.Ah K) bw) (by decide+kernel) V V V (A8 func120 V) V bv ?_;rintro _ cy _ U ⟨bz,b0,rfl,rfl,b1⟩ b2;refine JG.one (i:=3) V (by decide+kernel) (Take.Fb (pp:=(rL (rM rI false rI false))) [sV bz a2 b0] ([a2]:List (List AH)) b2 V V V underlying158 JN MY (by decide) V V V ⟨⟨_,_,V,b1⟩,trivial⟩ λc0 c1 b3 b4=>?_);refine Dm [5,6] (Ca 3 b3 b4 V λc3 Y b5 b6=>?_);obtain⟨ca,cc,ce⟩:=bs bx;refine Co 0 (Zx b5 (bo.Ah (U.Ad Y)) (a4.Ah ((K.Ad U).Ad Y)) BF.nil cc) V V (A8 func119 V) b6 V ?_;rintro _ c4 _ ay ⟨c5,c6,c7,rfl,rfl,ci,co,c8⟩ c9;refine C 3 V ?_;have cp:r=ca.1:=(Option.some.inj ce).symm;subst cp;refine JL.region (Wi (kk:=j) V V V V V ?_);refine C 3 V (JL.defer (vs:= [.pointer (some F.uA)]) V V V V V ?_);refine C 2 V (Da 0 (a8.Ah (((K.Ad U).Ad Y).Ad ay)) Fx V V V ?_);refine Da 0 (hi.Ah (((K.Ad U).Ad Y).Ad ay)) Bc V V V (C 1 V ?_);refine Am (v:= Aj F.fd j) V (λρ h=>Yl.to (Fy (xs:=List.replicate F.n ()) (m:=((j:Nat):Int)) (xv:=()) (List.length_replicate) (by simp [ix,a0]) underlying22 EX (h _ _ V) (h _ _ V)) (by show Aj F.fd (j*1)=_;rw [Nat.mul_one])) (VW (kk:=j) CV.stop V a0 V V V V EX bB V V (a9 _ _ _ (((K.Ad U).Ad Y).Ad ay) ci co) ?_);exact JL.done (JL.out V (JO.YE (kk:=j) V V (JO.bI Tryz.KJ V V (JO.leaveD V func117 V (.inr V) VG))))
theorem OL.ZU{e:TypeId}{E:LH}{r c:Nat}{seg:Seg}{xs:Lv_}(h:OL e rV E (AP r) c seg xs)(Y:c=xs.length):seg= [(r,.cells xs.toArray e (0,0))]:=by
 obtain⟨wss,ag,K,Z⟩:=h;rcases ag with⟨al,_⟩ | ⟨bk,f,am,e2,ac,ap,O⟩
 ·cases al
 cases am;have hw:wss=xs.map λx=> [x]:=by
  apply List.ext_getElem?;intro i;rw [List.getElem?_map];cases U:xs[i]? with
  | none=>rw [List.getElem?_eq_none (by rw [K];exact List.getElem?_eq_none_iff.1 U)];rfl
  | some x=>
   have hi:i<wss.length:=by rw [K];exact(List.getElem?_eq_some_iff.1 U).1
   have:=(Z i x wss[i] U (List.getElem?_eq_getElem hi)).1;rw [List.getElem?_eq_getElem hi,this];rfl
 have aq:wss.flatten=xs:=by
  rw [hw];clear hw O Z K ac ap Y
  induction xs with
  | nil=>rfl
  | cons x xs av=>simp [av]
 rw [aq] at O;have ay:rV.n=1:=V;have aw:f.toList=xs:=by
  rw [O];rw [List.take_of_length_le (by rw [Array.length_toList,ac,Y];exact Nat.le_refl _)]
 rw [e2,← aw]
noncomputable def KR:Code:=match(Tryz.f77.body).bind (Jy 0) with | some (.loop c)=>c | _=> .skip
noncomputable def UO:Code:=match(Tryz.f77.body).bind (Jy 2) with | some (.loop c)=>c | _=> .skip
set_option maxHeartbeats 1000000 in
theorem YZ{F:Fam}{n:Nat}(aw:F.n=n)(bx:0<n)(bz:n<=1000){E:LH}{ap a1 al:Ao}{am c2 aq:Nat}{p:Ax}{O:A1}(ay:Al Az E ap am p)(az:Al (rL rI) E a1 c2 O.1)(a0:Al Az E al aq O.2)(hlen:p.length=n){Y Z kf:Nat}(a2:At E Y 0 [.slice ap p.length am])(a3:At E Z 0 [sV a1 O.1 c2,sV al O.2 aq])(a4:At E kf 0 [.slice (some ⟨F.fd,0,none⟩) F.n F.n]){fu_:Nat}{xs:Nat->List Int}(a5:∀j,j<n->KZ fu_ O p j=some (xs j))(a6:∀j,j<n->∀E' a c,Al rI E' a c (xs j)->(xs j= []->a=none)->F.msg j (.slice a (xs j).length c) E'){j:Nat}(ac:j<n){ag H:LH}(hle:Le E ag)(a7:Ap ag H []){k:Li_}{cs:Lf_}
  (h:∀U,Le E U->Ap U H []->JL (AT Tryz.prog true) (Stop Tryz.prog F (F.EC j)) (base 77) Tryz.f77.ntmps [(2,Aj Z 0),(3,Aj Y 0),(6,.pointer (some F.uA)),(7,.pointer (some F.sA)),(8,Aj kf 0),(19,iV (p.length:Int)),(20,iV ((j+1:Nat):Int))] [] (.inLoop KR::k) cs (Ak U H [])):
  JL (AT Tryz.prog true) (Stop Tryz.prog F (.Gp j)) (base 77) Tryz.f77.ntmps [(2,Aj Z 0),(3,Aj Y 0),(6,.pointer (some F.uA)),(7,.pointer (some F.sA)),(8,Aj kf 0),(19,iV (p.length:Int)),(20,iV ((j:Nat):Int))] [] (.code KR:: .inLoop KR::k) cs (Ak ag H []):=by
 refine C 2 V (Am (v:= .bool true) V (λρ h=>Yl.to (Yl.lss (h _ _ V) (h _ _ V)) (by rw [decide_eq_true (show((j:Nat):Int)<(p.length:Int) by omega)])) ?_);refine C 9 V (BT a7 CE λrn a8=>?_);refine BL 0 a8 AG λa9=>?_;refine DF 0 a9 V λU bb be bi=>Is (S':= []) (by simp) bi λbn=>?_;have K:=hle.trans bb;refine C 3 V (Wu Tryz.KJ V V V V V V ?_);refine C 2 V (Am (v:= .func (.func 117) #[] ([.pointer (some F.sA),Aj Y 0,Aj Z 0,Aj rn 0,.pointer (some F.uA),Aj kf 0]:Lv_).toArray) V (λρ h=>Lb (by simp) (by simp [h (.tmp 7) _ rfl,h (.tmp 3) _ rfl,h (.tmp 2) _ rfl,h (.tmp 9) _ rfl,h (.tmp 6) _ rfl,h (.tmp 8) _ rfl])) ?_);have av:=Zt (F:=F) (j:=j) (a2.Ah K) (ay.Ah K) (a3.Ah K) (az.Ah K) (a0.Ah K) be (a4.Ah K) (a5 j ac) (by rw [aw];exact ac) (λE' a c _ bo bv=>a6 j ac E' a c bo bv);refine ZI (fi:= #[]) V V V V V V V (by first | exact av | (simp only [List.append_toArray,List.nil_append,Array.append_empty,Array.empty_append];exact av)) ?_
 refine C 3 V ?_;have bw:Av (((j:Nat):Int)+1)=some (((j+1:Nat)):Int):=by unfold Av;rw [if_pos (by omega)];simp
 refine Br bw V V V (C 2 V ?_);exact AB (h U K bn) V
theorem VT{F:Fam}{n:Nat}(Y:F.n=n)(aw:0<n)(ay:n<=1000){E:LH}{ap a1 ag:Ao}{al c2 am:Nat}{p:Ax}{O:A1}(az:Al Az E ap al p)(a0:Al (rL rI) E a1 c2 O.1)(a2:Al Az E ag am O.2)(hlen:p.length=n){Z ac kf:Nat}(a3:At E Z 0 [.slice ap p.length al])(a4:At E ac 0 [sV a1 O.1 c2,sV ag O.2 am])(a5:At E kf 0 [.slice (some ⟨F.fd,0,none⟩) F.n F.n]){fu_:Nat}{xs:Nat->List Int}(a6:∀j,j<n->KZ fu_ O p j=some (xs j))(a7:∀j,j<n->∀E' a c,Al rI E' a c (xs j)->(xs j= []->a=none)->F.msg j (.slice a (xs j).length c) E'){H:LH}{k:Li_}{cs:Lf_}
  (h:∀K,Le E K->Ap K H []->JL (AT Tryz.prog true) (Stop Tryz.prog F .Df) (base 77) Tryz.f77.ntmps [(2,Aj ac 0),(3,Aj Z 0),(6,.pointer (some F.uA)),(7,.pointer (some F.sA)),(8,Aj kf 0),(19,iV (p.length:Int)),(20,iV (p.length:Int))] [] (.code KR:: .inLoop KR::k) cs (Ak K H [])):
  ∀(m j:Nat),j+m=n->0<m->∀U,Le E U->Ap U H []->JL (AT Tryz.prog true) (Stop Tryz.prog F (.Gp j)) (base 77) Tryz.f77.ntmps [(2,Aj ac 0),(3,Aj Z 0),(6,.pointer (some F.uA)),(7,.pointer (some F.sA)),(8,Aj kf 0),(19,iV (p.length:Int)),(20,iV ((j:Nat):Int))] [] (.code KR:: .inLoop KR::k) cs (Ak U H []):=by
 intro m
 induction m with
 | zero=>intro j _ a8;cases a8
 | succ m a9=>
  intro j bi _ U hle bb;refine YZ Y aw ay az a0 a2 hlen a3 a4 a5 a6 a7 (by omega) hle bb λK aq av=>JL.again ?_;by_cases hm:m=0
  ·subst hm;have be:j+1=F.n:=by rw [Y];omega
   have e:F.EC j= .Df:=by unfold Fam.EC;rw [if_pos be]
   rw [e];have e2:((j+1:Nat):Int)=(p.length:Int):=by rw [hlen];omega
   rw [e2];exact h K aq av
  ·have e:F.EC j= .Gp (j+1):=by unfold Fam.EC;rw [if_neg (by rw [Y];omega)]
   rw [e];exact a9 (j+1) (by omega) (by omega) K aq av
def Ov(fu_:Nat)(K:A1)(p:Ax)(j:Nat):List Int:=(KZ fu_ K p j).getD []
def Mi(n:Nat)(xs:Nat->List Int):(List Int)×Bool:=match(List.range n).find? (λj=> !(xs j).isEmpty) with | some j=>(xs j,true) | none=>([],false)
def f77(fu_:Nat)(K:A1)(p:Ax):Option ((List Int)×Bool):= if p.length=0 then some ([],true) else if p.length<=1000/\(List.range p.length).all (λj=>(KZ fu_ K p j).isSome)=true then some (Mi p.length (Ov fu_ K p)) else none
theorem Wg{n:Nat}{xs:Nat->List Int}{i:Nat}(hi:i<n)(K:xs i≠ [])(O:∀k,k<i->xs k= []):Mi n xs=(xs i,true):=by
 unfold Mi;have:(List.range n).find? (λj=> !(xs j).isEmpty)=some i:=by
  rw [List.find?_range_eq_some];refine⟨by simp [K],by simpa using hi,λj U=>by simp [O j U]⟩
 rw [this]
theorem Wv{n:Nat}{xs:Nat->List Int}(K:∀k,k<n->xs k= []):Mi n xs=([],false):=by
 unfold Mi;have:(List.range n).find? (λj=> !(xs j).isEmpty)=none:=by
  rw [List.find?_eq_none];intro j O;simp [K j (List.mem_range.1 O)]
 rw [this]
theorem Y3{E:LH}{a:Ao}{c:Nat}{xs:List Int}(h:Al rI E a c xs)(K:xs≠ []):a.isNone=false:=by
 rcases h.2 with⟨e,_⟩ | ⟨bk,off,e,_⟩
 ·exact absurd e K
 ·rw [e];rfl
set_option maxHeartbeats 1000000 in
theorem aA{J:Judge Tryz.prog}{Q:Gs_}{Y:Frame}{cs:Lf_}{fd n:Nat}{f:Nat->Value}{xs:Nat->List Int}(ay:n<=1000){E H:LH}{k:Li_}(ag:Ap E H [[(fd,.cells (Array.ofFn λi:Fin n=>f i) 28 (0,0))]])(hm:∀k,k<n->∃a c,f k= .slice a (xs k).length c/\Al rI E a c (xs k)/\(xs k= []->a=none))
  (al:∀i a c L',i<n->xs i≠ []->(∀k,k<i->xs k= [])->Al rI E a c (xs i)->look L' 4=some (.slice a (xs i).length c)->look L' 5=some (.bool true)->∀k',JL J Q (base 77) Tryz.f77.ntmps L' [] (.code .ret::k') (Y::cs) (Ak E H [[(fd,.cells (Array.ofFn λi:Fin n=>f i) 28 (0,0))]]))
  (am:(∀k,k<n->xs k= [])->JL J Q (base 77) Tryz.f77.ntmps [] [] k (Y::cs) (Ak E H [[(fd,.cells (Array.ofFn λi:Fin n=>f i) 28 (0,0))]])):
  ∀m i,i+m=n->(∀k,k<i->xs k= [])->JL J Q (base 77) Tryz.f77.ntmps [(27,.slice (AP fd) n n),(28,iV (n:Int)),(29,iV (i:Int))] [] (.code UO:: .inLoop UO:: .inBlock 2::k) (Y::cs) (Ak E H [[(fd,.cells (Array.ofFn λi:Fin n=>f i) 28 (0,0))]]):=by
 intro m
 induction m with
 | zero=>
  intro i hi K;refine C 2 V (Am (v:= .bool false) V (λρ h=>Yl.to (Yl.lss (h _ _ V) (h _ _ V)) (by rw [decide_eq_false (show ¬((i:Int)<(n:Int)) by omega)])) ?_);refine C 4 V (Ec [] V ?_);exact am λk az=>K k (by omega)
 | succ m ap=>
  intro i hi K;have O:i<n:=by omega
  obtain⟨a,c,aq,ac,av⟩:=hm i O;refine C 2 V (Am (v:= .bool true) V (λρ h=>Yl.to (Yl.lss (h _ _ V) (h _ _ V)) (by rw [decide_eq_true (show(i:Int)<(n:Int) by omega)])) ?_);refine C 8 V (Am (v:= Aj fd i) V (λρ h=>Yl.to (Fy (xs:=List.replicate n ()) (m:=((i:Nat):Int)) (xv:=()) (List.length_replicate) (by simp [ix,O]) underlying22 EX (h _ _ V) (h _ _ V)) (by show Aj fd (i*1)=_;rw [Nat.mul_one])) ?_);refine Am (v:= .slice a (xs i).length c) V (λρ h=>Yl.load Je (h _ _ V) (BY (j:=0) (off:=i) ag V (by simp [O,aq]))) (C 5 V ?_);refine Am (v:= .bool (!a.isNone)) V (λρ h=>V5 underlying28 (h _ _ V) (h _ _ V)) (JL.done ?_);by_cases U:xs i= []
  ·have Z:(!a.isNone)=false:=by rw [av U];rfl
   rw [Z];refine C 4 V ?_;have aw:Av (((i:Nat):Int)+1)=some (((i+1:Nat)):Int):=by unfold Av;rw [if_pos (by omega)];simp
   refine Br aw V V V ?_;refine C 2 V ?_;refine JL.again ?_;refine ES ?_ (ap (i+1) (by omega) (λk a0=>by
    by_cases e:k=i
    ·subst e;exact U
    ·exact K k (by omega)))
   exact⟨V,V,V,trivial⟩
  ·have Z:(!a.isNone)=true:=by rw [Y3 ac U];rfl
   rw [Z];exact C 7 V (al i a c _ O U K ac V V _)
set_option maxHeartbeats 2000000 in
theorem cn{E:LH}{a1:Ao}{c2:Nat}{a8:Ao}{a9:Nat}{ap:Ao}{bb:Nat}{O:A1}{p:Ax}(cc:Al (rL rI) E a1 c2 O.1)(ce:Al Az E a8 a9 O.2)(ci:Al Az E ap bb p){fu_:Nat}{r:(List Int)×Bool}(U:f77 fu_ O p=some r):
  AO (GX Tryz.prog) 77 [.agg #[sV a1 O.1 c2,sV a8 O.2 a9],sV ap p bb] E [] (λw E' B'=>∃(be:Ao) (bi:Nat),w= .tuple #[sV be r.1 bi,.bool r.2]/\B'= []/\Al rI E' be bi r.1):=by
 refine Qc func77 V V λQ dD cs H co Y=>?_;unfold f77 at U;refine C 2 V (DJ co λcp dE ct cw cy=>?_);refine DJ cy λc0 dF bn am c1=>?_;refine Is (S':= []) (by simp) c1 λbo=>?_;have bv:=ct.Ad bn;refine C 6 V (Da 0 am BC V V V ?_);refine JL.ln underlying80 V V V (C 2 V ?_);refine Gm (p:=(p.length:Int)=0) V (λc3=>?_) (λc3=>?_)
 ·rw [if_pos (by omega)] at U;have Z:=(Option.some.inj U).symm;subst Z;refine C 5 V (AY func77 V V ?_);exact Y _ _ _ _ bv V ⟨none,0,V,V,Al.nil⟩ bo
 rw [if_neg (by omega)] at U;split at U
 rotate_left
 ·cases U
 rename_i hb;obtain⟨bw,c4⟩:=hb;have Z:=(Option.some.inj U).symm;have ag:∀j,j<p.length->KZ fu_ O p j=some (Ov fu_ O p j):=λj az=>by
  have aq:=List.all_eq_true.1 c4 j (List.mem_range.2 az);obtain⟨x,a0⟩:=Option.isSome_iff_exists.1 aq;unfold Ov;rw [a0];rfl
 generalize dG:Ov fu_ O p=xs at ag Z;have bx:0<p.length:=by omega
 refine C 3 V (BT bo (Dp type142) λmu c5=>?_);refine C 3 V (BT c5 (Dp type148) λwg c6=>?_);refine JL.done (Is (S':= [[(mu,.cells #[.int .i32 0,.int .u32 0] 142 (0,0))],[(wg,.cells #[.int .u64 0,.int .u32 0] 148 (0,0))]]) (by simp [Value.cells]) c6 λc7=>?_);refine C 2 V (Da 0 am BC V V V ?_);refine JL.ln underlying80 V V V ?_;have c8:Jz (p.length:Int) (Value.slice none 0 0)=some (List.replicate p.length nS):=by unfold Jz;rw [if_pos (by omega)];simp
 refine JS.make (pp:=rV) c8 V V V V V underlying22 EX (Ds type28) (by decide) K8 (by decide) ⟨V,V⟩ c7 λfd dH c9 bz=>?_;have dd:=OL.ZU c9 V;subst dd;obtain⟨K,b0⟩:∃K,K=List.replicate p.length (Value.slice none 0 0):=⟨_,V⟩;have b1:(List.replicate p.length (Value.slice none 0 0)).length=p.length:=by simp
 rw [← b0] at bz b1 ⊢;rw [b1];refine BT bz (Dp type22) λkf di=>?_;refine BL 3 di Fh λdj=>?_;refine DF 3 dj V λac av b2 dk=>Is (S':= [[(mu,.cells #[.int .i32 0,.int .u32 0] 142 (0,0))],[(wg,.cells #[.int .u64 0,.int .u32 0] 148 (0,0))],[(fd,.cells K.toArray 28 (0,0))]]) (by simp) dk λal=>?_;have aw:=bv.Ad av;refine C 4 V (Da 0 (am.Ah av) BC V V V ?_);refine JL.ln underlying80 V V V (C 3 V ?_);refine IW (Ec [(2,Aj cp 0),(3,Aj c0 0),(6,.pointer (some (⟨mu,0,none⟩:Addr))),(7,.pointer (some (⟨wg,0,none⟩:Addr))),(8,Aj kf 0),(19,iV (p.length:Int)),(20,iV ((0:Nat):Int))] V ?_);have b3:=Nd.iff.1 al;intro T dn;let F:Fam:=⟨wg,mu,fd,148,142,28,p.length,λkk v E=>kk<p.length/\∃a c,v= .slice a (xs kk).length c/\Al rI E a c (xs kk)/\(xs kk= []->a=none),λg s=>(GX Tryz.prog).ok Q g s⟩;have ay:=b3.1;simp only [List.flatten_cons,List.flatten_nil,List.append_nil,List.cons_append,List.nil_append,List.map_cons,List.map_nil,List.nodup_cons,List.mem_cons,List.not_mem_nil,not_or,or_false,not_false_eq_true,and_true,List.nodup_nil] at ay;have dp:(Ak ac H [[(mu,.cells #[.int .i32 0,.int .u32 0] 142 (0,0))],[(wg,.cells #[.int .u64 0,.int .u32 0] 148 (0,0))],[(fd,.cells K.toArray 28 (0,0))]]).H fd=some (F.IQ λ_=> nS):=by
  rw [Ka (j:=2) al rfl];have:(Array.ofFn λ_:Fin p.length=>Value.slice none 0 0)=K.toArray:=by
   rw [b0];apply Array.ext
   ·simp
   ·intro i aq b4;simp
  show some (Obj.cells K.toArray 28 (0,0))=some (Obj.cells (Array.ofFn λ_:Fin p.length=>Value.slice none 0 0) 28 (0,0));rw [this]
 refine Yd F (f₀:=λ_=> .slice none 0 0) (show 1<=p.length by omega) (show p.length<134217728 by omega) ?_ ay.1.1 (λe=>ay.2 e.symm) (λe=>ay.1.2 e.symm) (Ka (j:=1) al V) (Ka (j:=0) al V) dp ?_ (λg s h=>h)
 ·rintro kk v dI dJ dq ⟨aq,a,c,b4,a2,a3⟩;exact⟨aq,a,c,b4,a2.Ah dq,a3⟩
 have dr:=VZ al;show Way Tryz.prog true (Stop Tryz.prog F (.Gp 0)) _ (⟨(Ak ac H [[(mu,.cells #[.int .i32 0,.int .u32 0] 142 (0,0))],[(wg,.cells #[.int .u64 0,.int .u32 0] 148 (0,0))],[(fd,.cells K.toArray 28 (0,0))]]).E,JZ (Ak ac H [[(mu,.cells #[.int .i32 0,.int .u32 0] 142 (0,0))],[(wg,.cells #[.int .u64 0,.int .u32 0] 148 (0,0))],[(fd,.cells K.toArray 28 (0,0))]]).H wg mu fd,false⟩:St);rw [show(Ak ac H [[(mu,.cells #[.int .i32 0,.int .u32 0] 142 (0,0))],[(wg,.cells #[.int .u64 0,.int .u32 0] 148 (0,0))],[(fd,.cells K.toArray 28 (0,0))]]).E=ac from rfl,dr];have dt:Ap ac H []:=trivial;have du:H fd=none:=(b3.2 (fd,.cells K.toArray 28 (0,0)) (by simp)).2;refine VT (F:=F) (n:=p.length) V bx bw (ci.Ah aw) (cc.Ah aw) (ce.Ah aw) V (am.Ah av) (cw.Ah (bn.Ad av)) b2 ag (λj az E' a c dv dw=>⟨az,a,c,V,dv,dw⟩) (λdx b5 dK=>?_) p.length 0 (by omega) bx ac Aw dt T dn;refine C 2 V ?_;refine Am (v:= .bool false) V (λρ h=>Yl.to (Yl.lss (h _ _ V) (h _ _ V)) (by rw [decide_eq_false (show ¬((p.length:Int)<(p.length:Int)) by omega)])) ?_;refine C 6 V ?_;refine JL.wait Tryz.KJ (F:=F) (show p.length<2147483648 by omega) V V V V V (Q:=Q) (λg s h=>h) λa4 f b6 dy dL dz=>?_;have a5:Ap a4 H [[(fd,F.IQ f)]]:=Nd.iff.2 ⟨by simp,λq ag=>by
  simp at ag;subst ag;exact⟨dy,du⟩⟩
 have es:(⟨a4,F.J3 (Ak dx H []).H f,false⟩:St)=Ak a4 H [[(fd,F.IQ f)]]:=by
  unfold Ak mk;congr 1
 rw [es];have ca:=(aw.Ad b5).Ad b6;refine C 4 V (Da 0 (b2.Ah (b5.Ad b6)) Fx V V V ?_);refine JL.ln underlying22 V V V (C 3 V ?_);refine IW (Ec [(27,.slice (AP fd) p.length p.length),(28,iV (p.length:Int)),(29,iV ((0:Nat):Int))] V ?_);refine aA (n:=p.length) (f:=f) (xs:=xs) bw a5 (λk Y=>?_) (λi a c L' hi a0 a6 dA a2 a3 k'=>?_) (λa6=>?_) p.length 0 (by omega) (λk Y=>absurd Y (Nat.not_lt_zero _))
 ·obtain⟨_,a,c,dB,e2,dC⟩:=dz k Y;exact⟨a,c,dB,e2,dC⟩
 ·rw [Wg hi a0 a6] at Z;subst Z;exact JL.ret (v:= .tuple #[.slice a (xs i).length c,.bool true]) V V (BA.list func77 V (vs:= [.slice a (xs i).length c,.bool true]) ⟨a2,a3,trivial⟩) (Rs a5 λa7=>Y _ _ _ _ ca V ⟨a,c,V,V,dA⟩ a7)
 ·rw [Wv a6] at Z;subst Z;refine C 5 V (AY func77 V V ?_);exact Rs a5 λa7=>Y _ _ _ _ ca V ⟨none,0,V,V,Al.nil⟩ a7
end Pal
namespace Pal
open Go Go.Conc Go.Proofs
open Go.Proofs.Tryz
def Ul(fu_:Nat)(Z:A1×Int)(O:AW)(K:Int):Option (Bl Int ((Ax×(List Int)×Int)⊕(Unit))):= if K<(O.length:Int) then((ix O K).bind λU=> (f77 fu_ Z.1 U).bind λY=> if Y.2=true then(some (.done (Sum.inl (U,Y.1,0)))) else((Av (K+1)).bind λac=> some (.more ac))) else(some (.done (Sum.inr ())))
def f27(fu_:Nat)(p0:A1):Option (Ax×(List Int)×Int):= (f70 fu_ p0 ([])).bind λK=> if K.2≠0 then(some ([],[],K.2)) else((f71 fu_ K.1 0).bind λO=> (f76 fu_ O).bind λU=> Option.bind (iter (Ul fu_ K U) fu_ 0) λY=> Sum.elim (λr=>some r) (λZ=> some ([],[],11)) Y)
theorem bY{E:LH}{a1:Ao}{c2:Nat}{al:Ao}{am:Nat}{p0:A1}(ce:Al (rL rI) E a1 c2 p0.1)(ci:Al Az E al am p0.2){fu_:Nat}{r:Ax×(List Int)×Int}(a8:f27 fu_ p0=some r):AO (GX Tryz.prog) 27 [.agg #[sV a1 p0.1 c2,sV al p0.2 am]] E [] (λw E' B'=>∃(a9:Ao) (bb:Nat) (be:Ao) (bi:Nat),w= .tuple #[sV a9 r.1 bb,sV be r.2.1 bi,iV r.2.2]/\B'= []/\Al Az E' a9 bb r.1/\Al rI E' be bi r.2.1):=by
 refine Bj func27 λQ dY cs H co a2=>?_;unfold f27 at a8;refine C 2 V (DJ co λcp dZ Y ct cw=>?_);refine C 6 V (Cq ct EF Cv V V ?_);obtain⟨K,cy,c0⟩:=bs a8;refine BZ (KM (ce.Ah Y) (ci.Ah Y) Al.nil cy) V V Kr cw ?_;rintro _ ea _ a3 ⟨ap,aq,av,aw,rfl,rfl,bn,bo⟩ c1;refine C 3 V (BT c1 HK λbv c3=>?_);refine BL 3 c3 DD λc4=>?_;refine DF 3 c4 V λeb O bw bx=>C 8 V (AU c0 (λc5 c6=>?_) (λc5 c7=>?_))
 ·refine C 7 V ?_;obtain rfl:=oi c6;exact AY func27 V V (a2 ((Y.Ad a3).Ad O) V ⟨none,0,none,0,V,V,Al.nil,Al.nil⟩ bx)
 ·refine C 3 V (Cq bw F1 DD V V ?_);obtain⟨ec,c8,c9⟩:=bs c7;refine BZ (N9 (bn.Ah O) (bo.Ah O) c8) V V MX bx ?_;rintro _ ed ee Z ⟨ay,az,_,rfl,rfl,dd⟩ di;obtain⟨ac,dj,dk⟩:=bs c9;refine C 5 V (Co 4 (aM dd dj) V V (A8 func76 V) di V ?_);rintro _ dn dp ag ⟨rfl,dq,a4⟩ dr;refine ES (L':= [(23,.tuple #[]),(0,.agg #[.slice a1 p0.1.length c2,.slice al p0.2.length am]),(1,Aj cp 0),(2,.slice none 0 0),(3,.slice none 0 0),(4,iV 0),(13,.agg #[.slice a1 p0.1.length c2,.slice al p0.2.length am]),(14,.tuple #[.agg #[.slice ap K.1.1.length aq,.slice av K.1.2.length aw],iV K.2]),(12,.tuple #[.agg #[.slice ap K.1.1.length aq,.slice av K.1.2.length aw],iV K.2]),(15,.agg #[.slice ap K.1.1.length aq,.slice av K.1.2.length aw]),(16,iV K.2),(5,Aj bv 0),(6,iV K.2),(17,iV K.2),(18,.bool (decide (K.2≠0))),(20,.agg #[.slice ap K.1.1.length aq,.slice av K.1.2.length aw]),(21,.slice ay ac.length az),(7,.slice ay ac.length az),(22,.slice ay ac.length az)]) ⟨V,V,V,V,V,V,V,V,V,V,V,V,V,V,V,V,by rw [a4];rfl,by rw [a4];rfl,by rw [a4];rfl,trivial⟩ ?_;refine C 5 V (JL.ln underlying83 V V V ?_);obtain⟨bz,dt,b0⟩:=bs dk;refine C 2 V (Bt (λL s=>∃(b1:Unit) (b2:LH),bz=Sum.inr b1/\Jm dn H b2 [] [] L s) ?_ ?_)
  ·rintro _ _ ⟨b1,b2,rfl,rfl,rfl,du,dv⟩;have dw:=elim_inr b0;refine C 6 V ?_;obtain rfl:=oi dw;exact AY func27 V V (a2 (((((Y.Ad a3).Ad O).Ad Z).Ad ag).Ad du) V ⟨none,0,none,0,V,V,Al.nil,Al.nil⟩ dv)
  ·intro dx;refine JL.block (Dv dt (λa5=> [dp]) (λa5=> [(5,Aj bv 0),(24,sV ay ac az),(25,iV (ac.length:Int)),(26,iV a5)]) Aw dr ?_);rintro a5 dy U a6 b3 ⟨ef,a0⟩ dz;have b4:=a0;unfold Ul at b4;refine C 5 V (AU b4 (λdA dB=>?_) (λdA dC=>?_))
   ·obtain⟨dD,dE,dF⟩:=bs dB;refine C 5 V (J1 0 (dq.Ah U) dE V V V V V V underlying83 Bf ?_);rintro eg eh f93 _ dG ⟨b5,b6,rfl,ca⟩ dH ei ej ek el;refine Am (v:= sV b5 dD b6) V (λρ h=>Yl.load BC (h _ _ V) (BY (j:=0) a6 dG (dH 0 _ V))) (C 4 V ?_);refine Cq (bw.Ah ((Z.Ad ag).Ad U)) F1 DD V V ?_;obtain⟨em,dI,dJ⟩:=bs dF;refine C 1 V (BZ (cn (bn.Ah (((O.Ad Z).Ad ag).Ad U)) (bo.Ah (((O.Ad Z).Ad ag).Ad U)) ca dI) V V (A8 func77 V) a6 ?_);rintro _ en _ a7 ⟨dK,dL,rfl,rfl,dM⟩ cc;refine C 10 V (CF dJ (λdN dO=>?_) (λdN dQ=>?_))
    ·refine C 8 V (JS.drop 0 cc V λdR=>?_);obtain rfl:=oi dO;obtain rfl:=b3 _ a0;have dS:=elim_inl b0;obtain rfl:=oi dS;exact AY func27 V V (a2 ((((((Y.Ad a3).Ad O).Ad Z).Ad ag).Ad U).Ad a7) V ⟨b5,b6,dK,dL,V,V,(ca.Ah a7),dM⟩ dR)
    ·obtain⟨dT,dU,dV⟩:=bs dQ;refine C 3 V (Br dU V V V ?_);refine C 2 V ?_;obtain rfl:=oi dV;exact dz dT (U.Ad a7) cc V a0
   ·refine JL.exit V (JS.drop 0 a6 V λdW=>?_);obtain rfl:=oi dC;have dX:bz=(Sum.inr ()):=(b3 _ a0).symm;exact AB (dx _ _ ⟨(),dy,dX,V,V,U,dW⟩) V
variable {J:Judge Tryz.prog}{E:LH}
def TM(fu_:Nat)(p0:List Int)(K:Ax×Int):Option (Bl (Ax×Int) (Ax)):= (Av (K.2+2)).bind λO=> if O<(p0.length:Int) then((ix p0 K.2).bind λU=> (Av (K.2+1)).bind λY=> (ix p0 Y).bind λZ=> (Av (K.2+2)).bind λac=> (ix p0 ac).bind λag=> (C9 K.1 ([(U,Z,ag)]:Ax)).bind λal=> (Av (K.2+3)).bind λam=> some (.more (al,am))) else(some (.done K.1))
def f67(fu_:Nat)(p0:List Int):Option (Ax):= Option.bind (iter (TM fu_ p0) fu_ ([],0)) λK=> some K
theorem Oh{a1:Ao}{c2:Nat}{p0:List Int}(aq:Al rI E a1 c2 p0){fu_:Nat}{r:Ax}(a2:f67 fu_ p0=some r):AO J 67 [sV a1 p0 c2] E [] (λw E' B'=>∃(a3:Ao) (a4:Nat) (g0:Seg),w= sV a3 r a4/\B'=g0/\OL 27 Az E' a3 a4 g0 r):=by
 refine Bj func67 λQ dy cs H be bi=>?_;unfold f67 at a2;obtain⟨a5,bn,bo⟩:=bs a2;refine C 13 V (Bt (λL s=>∃(av:LH) (Y:Ao) (Z:Nat) (ac:Seg),Jn E H av [ac] [(3,sV Y a5 Z)] L s (OL 27 Az av Y Z ac a5)) ?_ ?_)
 ·rintro _ _ ⟨av,Y,Z,ac,rfl,rfl,bv,bw,bx⟩;refine C 5 V ?_;obtain rfl:=oi bo;exact AY func67 V V (bi bv V ⟨Y,Z,ac,V,(by first | rfl | simp | (simp [Value.cells])),bx⟩ bw)
 ·intro bz;refine JL.block (CG bn (λL s ag=>∃(al:LH) (am:Ao) (ap:Nat) (O:Seg),Jn E H al [O] [(0,sV a1 p0 c2),(3,sV am ag.1 ap),(4,iV ag.2)] L s (OL 27 Az al am ap O ag.1)) ⟨E,none,0,[],V,V,Aw,be,OL.nil⟩ ?_);rintro _ _ ag ⟨al,am,ap,O,rfl,rfl,U,a6,a7⟩ b0 ⟨dz,aw⟩ b1;have a8:=aw;unfold TM at a8;obtain⟨dA,b2,b3⟩:=bs a8;refine C 4 V (Br b2 V V V ?_);refine C 1 V (JL.ln underlying28 V V V ?_);refine C 2 V (AU b3 (λb4 b5=>?_) (λb4 b6=>?_))
  ·refine C 3 V (Fl 17 λK=>?_);refine Ba K V [0,1,2] V ?_;obtain⟨ay,ca,cc⟩:=bs b5;refine Fo 3 (aq.Ah U) ca K underlying28 AG ?_;rintro dB dC _ rfl ce;refine Ez 4 K 0 ce Bc V V V V (Ba K V [5,6] V ?_);obtain⟨dD,ci,co⟩:=bs cc;refine AS 7 K V V (λρ h s' a9=>Gj (h _ _ V) (h _ _ V) ci) ?_;obtain⟨az,cp,ct⟩:=bs co;refine Fo 8 (aq.Ah U) cp K underlying28 AG ?_;rintro dE dF _ rfl cw;refine Ez 9 K 0 cw Bc V V V V (Ba K V [10,11] V ?_);obtain⟨dG,cy,c0⟩:=bs ct;refine AS 12 K V V (λρ h s' a9=>Gj (h _ _ V) (h _ _ V) cy) ?_;obtain⟨a0,c1,c3⟩:=bs c0;refine Fo 13 (aq.Ah U) c1 K underlying28 AG ?_;rintro dH dI _ rfl c4;refine Ez 14 K 0 c4 Bc V V V V (AS (v:= .agg #[iV ay,iV az,iV a0]) 15 K V V (λρ h s' a9=>Dd [(0,1),(1,1),(2,1)] h BQ underlying27 ⟨V,AV type3,V,AV type3,V,AV type3,trivial⟩ V V) ?_);refine JG.one (i:=16) V (by decide+kernel) (Take.Fb (pp:=Az) [.agg #[iV ay,iV az,iV a0]] ([(ay,az,a0)]:Ax) a6 V V V underlying23 Bp BQ (by decide) V V V ⟨⟨_,_,V,V,⟨_,_,V,V,V⟩⟩,trivial⟩ λdJ c5 c6 c7=>?_);refine Dm [17,18] (BE (S':= [O,c5]) V c7 λc8=>?_);refine Ca 1 c6 c8 V λc9 bb dd di=>?_;obtain⟨dj,dk,dn⟩:=bs c3;refine I0 (pp:=Az) 0 dk V V V V V V V underlying23 underlying23 Bp (Ds type27) BQ V (by decide) (by decide) (a7.Ah bb) dd di V λdp dq dr dt du=>?_;obtain⟨dv,dw,dx⟩:=bs dn;refine C 5 V (Br dw V V V ?_);refine C 2 V ?_;obtain rfl:=oi dx;exact AB (b1 _ _ (dj,dv) ⟨c9,dp,dq,dr,V,V,(U.Ad bb),du,dt⟩ aw) V
  ·refine JL.exit V ?_;obtain rfl:=oi b6;obtain rfl:=b0 _ aw;exact AB (bz _ _ ⟨al,am,ap,O,V,V,U,a6,a7⟩) V
def f110(fu_:Nat)(p0:List Int)(K:List Int):Option (A1):= (f67 fu_ ([0,1,5,1,2,5,2,3,2,0,3,1,3,1,1]:List Int)).bind λO=> (f67 fu_ K).bind λU=> (C9 O U).bind λY=> some (([p0,[],([3]:List Int),([1]:List Int)]:A6),Y)
theorem PZ{a1:Ao}{c2:Nat}{ay:Ao}{az:Nat}{p0:List Int}{al:List Int}(a9:Al rI E a1 c2 p0)(bb:Al rI E ay az al){fu_:Nat}{r:A1}(a0:f110 fu_ p0 al=some r):AO J 110 [sV a1 p0 c2,sV ay al az] E [] (λw E' B'=>∃(a2:Ao) (a3:Nat) (a4:Ao) (a5:Nat),w= .agg #[sV a2 r.1 a3,sV a4 r.2 a5]/\B'= []/\Al (rL rI) E' a2 a3 r.1/\Al Az E' a4 a5 r.2):=by
 refine Bj func110 λQ dz cs H be bi=>?_;unfold f110 at a0;refine C 2 V (BT be Il λY bn=>?_);refine C 4 V (FL (pp:=rI) [iV 3] [3] V V V underlying28 AG CE (by decide) V V V ⟨V,trivial⟩ bn λbo bv bw bx=>?_);refine FL (pp:=rI) [iV 1] [1] V V V underlying28 AG CE (by decide) V V V ⟨V,trivial⟩ bx λbz b0 b1 b2=>BE (S':= [[],[(Y,.cells #[nS,nS] 25 (0,0))],bv,b0]) V b2 λb3=>Ca 2 bw b3 V λdA ac b4 b5=>Ca 3 (b1.Ah ac) b5 V λdB ag b6 ca=>FL (pp:=(rL rI)) [sV a1 p0 c2,nS,.slice (AP bo) (([3]:List Int)).length 1,.slice (AP bz) (([1]:List Int)).length 1] [p0,[],([3]:List Int),([1]:List Int)] V V V underlying22 EX K8 (by decide) V V V ⟨⟨_,_,V,(a9.Ah (ac.Ad ag))⟩,⟨_,_,V,Al.nil⟩,⟨_,_,V,(b4.Ah ag)⟩,⟨_,_,V,b6⟩,trivial⟩ ca λK am cc ce=>BE (S':= [[],[(Y,.cells #[nS,nS] 25 (0,0))],[],[],am]) V ce λci=>FL (pp:=rI) [iV 0,iV 1,iV 5,iV 1,iV 2,iV 5,iV 2,iV 3,iV 2,iV 0,iV 3,iV 1,iV 3,iV 1,iV 1] [0,1,5,1,2,5,2,3,2,0,3,1,3,1,1] V V V underlying28 AG CE (by decide) V V V ⟨V,V,V,V,V,V,V,V,V,V,V,V,V,V,V,trivial⟩ ci λdC dD co cp=>Ca 5 co cp V λdE ap ct cw=>?_;obtain⟨dF,cy,c0⟩:=bs a0;refine BZ (Oh ct cy) V V MT cw ?_;rintro _ dG c1 aq ⟨dH,dI,_,rfl,rfl,c3⟩ c4;refine BE (S':= [[],[(Y,.cells #[nS,nS] 25 (0,0))],[],[],am,[],c1]) V c4 λc5=>?_;obtain⟨dJ,c6,c7⟩:=bs c0;refine C 1 V (BZ (Oh (bb.Ah (((ac.Ad ag).Ad ap).Ad aq)) c6) V V MT c5 ?_);rintro _ dK dL av ⟨dM,dN,_,rfl,rfl,c8⟩ c9;refine Ca 7 c8 c9 V λdO aw dd di=>?_;obtain⟨Z,dj,dk⟩:=bs c7;refine I0 (pp:=Az) 6 dj V V V V V V V underlying23 underlying23 Bp (Ds type27) BQ V (by decide) (by decide) (c3.Ah (av.Ad aw)) dd di V λO U dn dp dq=>BE (S':= [[],[(Y,.cells #[nS,nS] 25 (0,0))],[],[],am,[],dn,[]]) V dq λdr=>Am (v:= .agg #[.slice (AP K) (([p0,[],([3]:List Int),([1]:List Int)]:A6)).length 4,sV O Z U]) V (λρ h=>Dd [(0,1),(1,1)] h Il underlying25 ⟨V,AV type22,V,AV type23,trivial⟩ V V) (BL 1 dr Cv λdt=>?_);refine JL.done (Ca 4 (cc.Ah (((ap.Ad aq).Ad av).Ad aw)) dt V λdQ a6 du dv=>?_);refine Ca 6 (dp.Ah a6) dv V λdR a7 dw dx=>BE (S':= [[],[(Y,.cells #[.slice (AP K) (([p0,[],([3]:List Int),([1]:List Int)]:A6)).length 4,sV O Z U] 25 (0,0))],[],[],[],[],[],[]]) V dx λa8=>?_;obtain rfl:=oi dk;refine JL.ret (v:= .agg #[.slice (AP K) (([p0,[],([3]:List Int),([1]:List Int)]:A6)).length 4,sV O Z U]) V V (BA.list func110 V (vs:= [.agg #[.slice (AP K) (([p0,[],([3]:List Int),([1]:List Int)]:A6)).length 4,sV O Z U]]) ⟨⟨_,V,Ld.many (vs:= [.slice (AP K) (([p0,[],([3]:List Int),([1]:List Int)]:A6)).length 4,sV O Z U]) EF Cv (Gi (off:=0) 1 a8 V V)⟩,trivial⟩) (Eo 1 a8 V λdy=>?_);exact bi (((((((ac.Ad ag).Ad ap).Ad aq).Ad av).Ad aw).Ad a6).Ad a7) V ⟨(AP K),4,O,U,V,V,(du.Ah a7),dw⟩ dy
def f63(fu_:Nat):Option (A1):= (f110 fu_ ([1,2,3]:List Int) ([])).bind λK=> some K
theorem Od{fu_:Nat}{r:A1}(ac:f63 fu_=some r):AO J 63 [] E [] (λw E' B'=>∃(ag:Ao) (al:Nat) (am:Ao) (ap:Nat),w= .agg #[sV ag r.1 al,sV am r.2 ap]/\B'= []/\Al (rL rI) E' ag al r.1/\Al Az E' am ap r.2):=by
 refine Bj func63 λQ be cs H av aw=>?_;unfold f63 at ac;refine C 2 V (BT av Il λr1 ay=>?_);refine C 3 V (FL (pp:=rI) [iV 1,iV 2,iV 3] [1,2,3] V V V underlying28 AG CE (by decide) V V V ⟨V,V,V,trivial⟩ ay λbi bn az a0=>?_);refine Ca 2 az a0 V λbo a1 a2 a3=>?_;obtain⟨K,a4,a5⟩:=bs ac;refine BZ (PZ a2 Al.nil a4) V V OP a3 ?_;rintro _ bv _ a6 ⟨O,U,Y,Z,rfl,rfl,a7,a8⟩ a9;refine BL 1 a9 Cv λaq=>?_;refine JL.done ?_;obtain rfl:=oi a5;refine JL.ret (v:= .agg #[sV O K.1 U,sV Y K.2 Z]) V V (BA.list func63 V (vs:= [.agg #[sV O K.1 U,sV Y K.2 Z]]) ⟨⟨_,V,Ld.many (vs:= [sV O K.1 U,sV Y K.2 Z]) EF Cv (Gi (off:=0) 1 aq V V)⟩,trivial⟩) (Eo 1 aq V λbb=>?_);exact aw (a1.Ad a6) V ⟨O,U,Y,Z,V,V,a7,a8⟩ bb
def f64(fu_:Nat):Option (A1):= (f110 fu_ ([]) ([])).bind λK=> some K
theorem cD{fu_:Nat}{r:A1}(ac:f64 fu_=some r):AO J 64 [] E [] (λw E' B'=>∃(ag:Ao) (al:Nat) (am:Ao) (ap:Nat),w= .agg #[sV ag r.1 al,sV am r.2 ap]/\B'= []/\Al (rL rI) E' ag al r.1/\Al Az E' am ap r.2):=by
 refine Bj func64 λQ a6 cs H av aw=>?_;unfold f64 at ac;refine C 2 V (BT av Il λr1 ay=>?_);obtain⟨K,az,a0⟩:=bs ac;refine C 3 V (BZ (PZ Al.nil Al.nil az) V V OP ay ?_);rintro _ a7 _ a1 ⟨O,U,Y,Z,rfl,rfl,a2,a3⟩ a4;refine BL 1 a4 Cv λaq=>?_;refine JL.done ?_;obtain rfl:=oi a0;refine JL.ret (v:= .agg #[sV O K.1 U,sV Y K.2 Z]) V V (BA.list func64 V (vs:= [.agg #[sV O K.1 U,sV Y K.2 Z]]) ⟨⟨_,V,Ld.many (vs:= [sV O K.1 U,sV Y K.2 Z]) EF Cv (Gi (off:=0) 1 aq V V)⟩,trivial⟩) (Eo 1 aq V λa5=>?_);exact aw a1 V ⟨O,U,Y,Z,V,V,a2,a3⟩ a5
def f65(fu_:Nat):Option (A1):= (f110 fu_ ([5,1]:List Int) ([])).bind λK=> some K
theorem bu{fu_:Nat}{r:A1}(ac:f65 fu_=some r):AO J 65 [] E [] (λw E' B'=>∃(ag:Ao) (al:Nat) (am:Ao) (ap:Nat),w= .agg #[sV ag r.1 al,sV am r.2 ap]/\B'= []/\Al (rL rI) E' ag al r.1/\Al Az E' am ap r.2):=by
 refine Bj func65 λQ be cs H av aw=>?_;unfold f65 at ac;refine C 2 V (BT av Il λr1 ay=>?_);refine C 3 V (FL (pp:=rI) [iV 5,iV 1] [5,1] V V V underlying28 AG CE (by decide) V V V ⟨V,V,trivial⟩ ay λbi bn az a0=>?_);refine Ca 2 az a0 V λbo a1 a2 a3=>?_;obtain⟨K,a4,a5⟩:=bs ac;refine BZ (PZ a2 Al.nil a4) V V OP a3 ?_;rintro _ bv _ a6 ⟨O,U,Y,Z,rfl,rfl,a7,a8⟩ a9;refine BL 1 a9 Cv λaq=>?_;refine JL.done ?_;obtain rfl:=oi a5;refine JL.ret (v:= .agg #[sV O K.1 U,sV Y K.2 Z]) V V (BA.list func65 V (vs:= [.agg #[sV O K.1 U,sV Y K.2 Z]]) ⟨⟨_,V,Ld.many (vs:= [sV O K.1 U,sV Y K.2 Z]) EF Cv (Gi (off:=0) 1 aq V V)⟩,trivial⟩) (Eo 1 aq V λbb=>?_);exact aw (a1.Ad a6) V ⟨O,U,Y,Z,V,V,a7,a8⟩ bb
def f66(fu_:Nat):Option (Ax):= (f67 fu_ ([0,1,1,0,2,3,0,3,2]:List Int)).bind λK=> some K
theorem bF{fu_:Nat}{r:Ax}(K:f66 fu_=some r):AO J 66 [] E [] (λw E' B'=>∃(O:Ao) (U:Nat),w= sV O r U/\B'= []/\Al Az E' O U r):=by
 refine Bj func66 λQ a5 cs H Y Z=>?_;unfold f66 at K;refine C 6 V (FL (pp:=rI) [iV 0,iV 1,iV 1,iV 0,iV 2,iV 3,iV 0,iV 3,iV 2] [0,1,1,0,2,3,0,3,2] V V V underlying28 AG CE (by decide) V V V ⟨V,V,V,V,V,V,V,V,V,trivial⟩ Y λr1 g2 ac ag=>?_);refine Ca 1 ac ag V λa6 al am ap=>?_;obtain⟨a7,aq,av⟩:=bs K;refine BZ (Oh am aq) V V MT ap ?_;rintro _ a8 a9 aw ⟨ay,az,_,rfl,rfl,a0⟩ a1;refine C 2 V (Ca 2 a0 a1 V λbb a2 a3 a4=>?_);obtain rfl:=oi av;exact AY func66 V V (Z ((al.Ad aw).Ad a2) V ⟨ay,az,V,V,a3⟩ a4)
def TR(fu_:Nat)(p0:List Int)(O:List Int)(K:Int):Option (Bl Int ((Bool)⊕(Unit))):= Option.bind (if K<(p0.length:Int) then(some (decide (K<(O.length:Int)))) else(some false)) λU=> if U=true then((ix p0 K).bind λY=> (ix O K).bind λZ=> if Y≠Z then(some (.done (Sum.inl false))) else((Av (K+1)).bind λac=> some (.more ac))) else(some (.done (Sum.inr ())))
def f29(fu_:Nat)(p0:List Int)(K:List Int):Option Bool:= Option.bind (iter (TR fu_ p0 K) fu_ 0) λO=> Sum.elim (λr=>some r) (λU=> some (decide ((p0.length:Int)=(K.length:Int)))) O
theorem Of{a1:Ao}{c2:Nat}{U:Ao}{Y:Nat}{p0:List Int}{K:List Int}(a7:Al rI E a1 c2 p0)(a8:Al rI E U Y K){fu_:Nat}{r:Bool}(av:f29 fu_ p0 K=some r):AO J 29 [sV a1 p0 c2,sV U K Y] E [] (λw E' B'=>w= .bool r/\B'= []):=by
 refine Bj func29 λQ c5 cs H a9 aw=>?_;unfold f29 at av;obtain⟨ay,bb,az⟩:=bs av;refine C 9 V (Bt (λL s=>∃(a0:Unit) (a2:LH),ay=Sum.inr a0/\Jm E H a2 [] [(0,sV a1 p0 c2),(1,sV U K Y)] L s) ?_ ?_)
 ·rintro _ _ ⟨a0,a2,rfl,rfl,rfl,be,bi⟩;have bn:=elim_inr az;refine C 3 V (JL.ln underlying28 V V V ?_);refine C 1 V (JL.ln underlying28 V V V ?_);refine C 3 V ?_;obtain rfl:=oi bn;exact AY func29 V V (aw be V ⟨V,V⟩ bi)
 ·intro bo;refine JL.block (Dv bb (λag=> []) (λag=> [(0,sV a1 p0 c2),(1,sV U K Y),(5,iV ag)]) Aw a9 ?_);rintro ag am Z a3 a4 ⟨c6,al⟩ bv;have a5:=al;unfold TR at a5;refine C 5 V (JL.ln underlying28 V V V ?_);obtain⟨bw,bx,bz⟩:=bs a5;refine C 2 V (Hk [] (λL s=>∃(ap:LH),Jm am H ap [] [(0,sV a1 p0 c2),(1,sV U K Y),(5,iV ag),(15,.bool bw)] L s) ?_ ?_)
  ·rintro _ _ ⟨ap,rfl,rfl,ac,aq⟩;refine JL.done (CF bz (λb0 b1=>?_) (λb0 b2=>?_))
   ·refine C 4 V (Fl 8 λO=>?_);refine Ba O V [0,1] V ?_;obtain⟨c7,b3,b4⟩:=bs b1;refine Fo 2 (a7.Ah (Z.Ad ac)) b3 O underlying28 AG ?_;rintro c8 c9 _ rfl b5;refine Ez 3 O 0 b5 Bc V V V V (Ba O V [4,5] V ?_);obtain⟨dd,b6,ca⟩:=bs b4;refine Fo 6 (a8.Ah (Z.Ad ac)) b6 O underlying28 AG ?_;rintro di dj _ rfl cc;refine Ez 7 O 0 cc Bc V V V V (Dm [8] ?_);refine C 2 V (AU ca (λce ci=>?_) (λce co=>?_))
    ·refine C 4 V ?_;obtain rfl:=oi ci;obtain rfl:=a4 _ al;have cp:=elim_inl az;obtain rfl:=oi cp;exact AY func29 V V (aw (Z.Ad ac) V ⟨V,V⟩ aq)
    ·obtain⟨ct,cw,cy⟩:=bs co;refine C 4 V (Br cw V V V ?_);refine C 2 V ?_;obtain rfl:=oi cy;exact bv ct (Z.Ad ac) aq V al
   ·refine JL.exit V ?_;obtain rfl:=oi b2;have c0:ay=(Sum.inr ()):=(a4 _ al).symm;exact AB (bo _ _ ⟨(),ap,c0,V,V,(Z.Ad ac),aq⟩) V
  ·intro a6;refine ID 10 bx (λc1 c3=>?_) (λc1 c4=>?_)
   ·refine C 2 V (JL.ln underlying28 V V V ?_);refine C 2 V ?_;obtain rfl:=oi c3;exact AB (a6 _ _ ⟨am,V,V,Aw,a3⟩) V
   ·refine C 5 V ?_;obtain rfl:=oi c4;exact AB (a6 _ _ ⟨am,V,V,Aw,a3⟩) V
def TI(fu_:Nat)(p0:Ax)(O:Ax)(K:Int):Option (Bl Int ((Bool)⊕(Unit))):= Option.bind (if K<(p0.length:Int) then(some (decide (K<(O.length:Int)))) else(some false)) λU=> if U=true then((ix p0 K).bind λY=> (ix O K).bind λZ=> if Y≠Z then(some (.done (Sum.inl false))) else((Av (K+1)).bind λac=> some (.more ac))) else(some (.done (Sum.inr ())))
def f26(fu_:Nat)(p0:Ax)(K:Ax):Option Bool:= Option.bind (iter (TI fu_ p0 K) fu_ 0) λO=> Sum.elim (λr=>some r) (λU=> some (decide ((p0.length:Int)=(K.length:Int)))) O
theorem Ut{a1:Ao}{c2:Nat}{U:Ao}{Y:Nat}{p0:Ax}{K:Ax}(a9:Al Az E a1 c2 p0)(bb:Al Az E U Y K){fu_:Nat}{r:Bool}(ay:f26 fu_ p0 K=some r):AO J 26 [sV a1 p0 c2,sV U K Y] E [] (λw E' B'=>w= .bool r/\B'= []):=by
 refine Bj func26 λQ c7 cs H be az=>?_;unfold f26 at ay;obtain⟨a0,bi,a2⟩:=bs ay;refine C 9 V (Bt (λL s=>∃(a3:Unit) (a4:LH),a0=Sum.inr a3/\Jm E H a4 [] [(0,sV a1 p0 c2),(1,sV U K Y)] L s) ?_ ?_)
 ·rintro _ _ ⟨a3,a4,rfl,rfl,rfl,bn,bo⟩;have bv:=elim_inr a2;refine C 3 V (JL.ln underlying23 V V V ?_);refine C 1 V (JL.ln underlying23 V V V ?_);refine C 3 V ?_;obtain rfl:=oi bv;exact AY func26 V V (az bn V ⟨V,V⟩ bo)
 ·intro bw;refine JL.block (Dv bi (λap=> []) (λap=> [(0,sV a1 p0 c2),(1,sV U K Y),(5,iV ap)]) Aw be ?_);rintro ap av Z a5 a6 ⟨c8,aq⟩ bx;have a7:=aq;unfold TI at a7;refine C 5 V (JL.ln underlying23 V V V ?_);obtain⟨bz,b0,b1⟩:=bs a7;refine C 2 V (Hk [] (λL s=>∃(ac:LH),Jm av H ac [] [(0,sV a1 p0 c2),(1,sV U K Y),(5,iV ap),(15,.bool bz)] L s) ?_ ?_)
  ·rintro _ _ ⟨ac,rfl,rfl,ag,aw⟩;refine JL.done (CF b1 (λb2 b3=>?_) (λb2 b4=>?_))
   ·refine C 4 V (Fl 8 λO=>?_);refine Ba O V [0,1] V ?_;obtain⟨al,b5,b6⟩:=bs b3;refine Fo 2 (a9.Ah (Z.Ad ag)) b5 O underlying23 Bp ?_;rintro c9 dd _ ⟨_,_,rfl,rfl,⟨_,_,rfl,rfl,rfl⟩⟩ ca;refine J2 3 O ca Ek Bp V V V (Ba O V [4,5] V ?_);obtain⟨am,cc,ce⟩:=bs b6;refine Fo 6 (bb.Ah (Z.Ad ag)) cc O underlying23 Bp ?_;rintro di dj _ ⟨_,_,rfl,rfl,⟨_,_,rfl,rfl,rfl⟩⟩ ci;refine J2 7 O ci Ek Bp V V V (Dm [8] ?_);refine Am (v:= .bool (decide (al≠am))) V (λρ h=>SP (E:=ac) (E':=ac) (ws:= [iV al.1,iV al.2.1,iV al.2.2]) (ws':= [iV am.1,iV am.2.1,iV am.2.2]) (a:=al) (b:=am) bH (by decide) (by decide+kernel) ⟨_,_,V,V,⟨_,_,V,V,V⟩⟩ ⟨_,_,V,V,⟨_,_,V,V,V⟩⟩ (h _ _ V) (h _ _ V)) (JL.done ?_);refine AU ce (λco cp=>?_) (λco ct=>?_)
    ·refine C 4 V ?_;obtain rfl:=oi cp;obtain rfl:=a6 _ aq;have cw:=elim_inl a2;obtain rfl:=oi cw;exact AY func26 V V (az (Z.Ad ag) V ⟨V,V⟩ aw)
    ·obtain⟨cy,c0,c1⟩:=bs ct;refine C 4 V (Br c0 V V V ?_);refine C 2 V ?_;obtain rfl:=oi c1;exact bx cy (Z.Ad ag) aw V aq
   ·refine JL.exit V ?_;obtain rfl:=oi b4;have c3:a0=(Sum.inr ()):=(a6 _ aq).symm;exact AB (bw _ _ ⟨(),ac,c3,V,V,(Z.Ad ag),aw⟩) V
  ·intro a8;refine ID 10 b0 (λc4 c5=>?_) (λc4 c6=>?_)
   ·refine C 2 V (JL.ln underlying23 V V V ?_);refine C 2 V ?_;obtain rfl:=oi c5;exact AB (a8 _ _ ⟨av,V,V,Aw,a5⟩) V
   ·refine C 5 V ?_;obtain rfl:=oi c6;exact AB (a8 _ _ ⟨av,V,V,Aw,a5⟩) V
def f18(fu_:Nat):Option Bool:= (f63 fu_).bind λag=> (f43 fu_ ag).bind λO=> (f63 fu_).bind λal=> (f33 fu_ al).bind λU=> (f63 fu_).bind λam=> (f22 fu_ am).bind λY=> (f63 fu_).bind λap=> (f24 fu_ ap).bind λZ=> (f64 fu_).bind λaq=> (f39 fu_ aq).bind λac=> (f65 fu_).bind λav=> (f27 fu_ av).bind λK=> Option.bind (if O.2=0 then(some (decide (U.2=0))) else(some false)) λaw=> Option.bind (if aw=true then(some (decide (Y.2=0))) else(some false)) λay=> Option.bind (if ay=true then(some (decide (Z.2=0))) else(some false)) λaz=> Option.bind (if az=true then(some (decide (ac.2=0))) else(some false)) λa0=> Option.bind (if a0=true then(some (decide (K.2.2=0))) else(some false)) λa1=> Option.bind (if a1=true then(some (decide (Z.1=16))) else(some false)) λa2=> Option.bind (if a2=true then((f29 fu_ O.1 ([(-6),1,3,2]:List Int)).bind λa3=> some a3) else(some false)) λa4=> Option.bind (if a4=true then((f29 fu_ U.1 ([1,2,3]:List Int)).bind λa5=> some a5) else(some false)) λa6=> Option.bind (if a6=true then((f66 fu_).bind λa7=> (f26 fu_ Y.1 a7).bind λa8=> some a8) else(some false)) λa9=> Option.bind (if a9=true then((f29 fu_ ac.1 ([0]:List Int)).bind λbb=> some bb) else(some false)) λbe=> Option.bind (if be=true then((f67 fu_ ([0,2,6,2,3,3,3,1,1]:List Int)).bind λbi=> (f26 fu_ K.1 bi).bind λbn=> some bn) else(some false)) λbo=> Option.bind (if bo=true then((f29 fu_ K.2.1 ([0,1,2]:List Int)).bind λbv=> some bv) else(some false)) λbw=> some bw
theorem bP{E:LH}{fu_:Nat}{r:Bool}(b2:f18 fu_=some r):AO (GX Tryz.prog) 18 [] E [] (λw E' B'=>w= .bool r/\B'= []):=by
 refine Bj func18 λQ hf cs H dx dy=>?_;unfold f18 at b2;obtain⟨hg,dz,dA⟩:=bs b2;refine C 6 V (BZ (Od dz) V V MV dx ?_);rintro _ hj _ dB ⟨hk,hl,hm,hn,rfl,rfl,dC,dD⟩ dE;obtain⟨a6,dF,dG⟩:=bs dA;refine BZ (cr dC dD dF) V V (A8 func43 V) dE ?_;rintro _ ho _ dH ⟨a7,a8,rfl,rfl,dI⟩ dJ;obtain⟨hp,dK,dL⟩:=bs dG;refine C 8 V (BZ (Od dK) V V MV dJ ?_);rintro _ hq _ b3 ⟨hr,hs,ht,hu,rfl,rfl,dM,dN⟩ dO;refine BE (S':= [[],[],[],[]]) V dO λdQ=>?_;obtain⟨av,dR,dS⟩:=bs dL;refine BZ (cH dM dN dR) V V (A8 func33 V) dQ ?_;rintro _ hv _ b4 ⟨aw,ay,rfl,rfl,dT⟩ dU;obtain⟨hw,dV,dW⟩:=bs dS;refine C 8 V (BZ (Od dV) V V MV dU ?_);rintro _ hx _ bz ⟨hy,hz,hA,hB,rfl,rfl,dX,dY⟩ dZ;obtain⟨ag,ea,eb⟩:=bs dW;refine BZ (Qr dX dY ea) V V OU dZ ?_;rintro _ hC _ b0 ⟨ap,aq,rfl,rfl,ec⟩ ed;refine BE (S':= [[],[],[],[],[],[],[]]) V ed λee=>?_;obtain⟨hD,ef,eg⟩:=bs eb;refine C 8 V (BZ (Od ef) V V MV ee ?_);rintro _ hE _ bn ⟨hF,hG,hH,hI,rfl,rfl,eh,ei⟩ ej;obtain⟨az,ek,el⟩:=bs eg;refine CW (Qq eh ei ek) V V OT ej λhJ bo em=>?_;obtain⟨hK,en,eo⟩:=bs el;refine C 8 V (BZ (cD en) V V (A8 func64 V) em ?_);rintro _ hL _ bv ⟨hM,hN,hO,hP,rfl,rfl,ep,er⟩ et;refine BE (S':= [[],[],[],[],[],[],[],[],[],[]]) V et λeu=>?_;obtain⟨O,ew,ex⟩:=bs eo;refine BZ (bK ep er ew) V V (A8 func39 V) eu ?_;rintro _ hQ _ bw ⟨al,am,rfl,rfl,ey⟩ ez;obtain⟨hR,eA,eB⟩:=bs ex;refine C 8 V (BZ (bu eA) V V (A8 func65 V) ez ?_);rintro _ hS _ bb ⟨hT,hU,hV,hW,rfl,rfl,eC,eD⟩ eE;obtain⟨K,eF,eG⟩:=bs eB;refine BZ (bY eC eD eF) V V (A8 func27 V) eE ?_;rintro _ hX _ be ⟨Z,ac,U,Y,rfl,rfl,eH,eI⟩ eJ;refine BE (S':= [[],[],[],[],[],[],[],[],[],[],[],[],[]]) V eJ λb5=>?_;obtain⟨eK,eL,eM⟩:=bs eG;refine C 13 V (Fj 6 52 [] [(1,sV a7 a6.1 a8),(3,sV aw av.1 ay),(5,sV ap ag.1 aq),(6,iV ag.2),(7,iV az.1),(8,iV az.2),(9,sV al O.1 am),(10,iV O.2),(11,sV Z K.1 ac),(12,sV U K.2.1 Y),(13,iV K.2.2),(50,.bool eK)] (λhY a0 b6=>?_) (λca=>?_))
 ·obtain⟨eN,eO,eP⟩:=bs eM;refine C 1 V (Fj 10 48 [] [(1,sV a7 a6.1 a8),(3,sV aw av.1 ay),(5,sV ap ag.1 aq),(7,iV az.1),(8,iV az.2),(9,sV al O.1 am),(10,iV O.2),(11,sV Z K.1 ac),(12,sV U K.2.1 Y),(13,iV K.2.2),(54,.bool eN)] (λhZ a1 cc=>?_) (λce=>?_))
  ·obtain⟨eQ,eR,eS⟩:=bs eP;refine C 1 V (Fj 14 44 [] [(1,sV a7 a6.1 a8),(3,sV aw av.1 ay),(5,sV ap ag.1 aq),(7,iV az.1),(9,sV al O.1 am),(10,iV O.2),(11,sV Z K.1 ac),(12,sV U K.2.1 Y),(13,iV K.2.2),(58,.bool eQ)] (λh0 a2 ci=>?_) (λco=>?_))
   ·obtain⟨eT,eU,eV⟩:=bs eS;refine C 1 V (Fj 18 40 [] [(1,sV a7 a6.1 a8),(3,sV aw av.1 ay),(5,sV ap ag.1 aq),(7,iV az.1),(9,sV al O.1 am),(11,sV Z K.1 ac),(12,sV U K.2.1 Y),(13,iV K.2.2),(62,.bool eT)] (λh1 a3 cp=>?_) (λct=>?_))
    ·obtain⟨eW,eX,eY⟩:=bs eV;refine C 1 V (Fj 22 36 [] [(1,sV a7 a6.1 a8),(3,sV aw av.1 ay),(5,sV ap ag.1 aq),(7,iV az.1),(9,sV al O.1 am),(11,sV Z K.1 ac),(12,sV U K.2.1 Y),(66,.bool eW)] (λh2 a4 cw=>?_) (λcy=>?_))
     ·obtain⟨eZ,e0,e1⟩:=bs eY;refine C 1 V (Fj 26 32 [] [(1,sV a7 a6.1 a8),(3,sV aw av.1 ay),(5,sV ap ag.1 aq),(9,sV al O.1 am),(11,sV Z K.1 ac),(12,sV U K.2.1 Y),(70,.bool eZ)] (λh3 a5 c0=>?_) (λc1=>?_))
      ·obtain⟨e3,e4,e5⟩:=bs e1;refine C 1 V (Fj 31 27 [] [(3,sV aw av.1 ay),(5,sV ap ag.1 aq),(9,sV al O.1 am),(11,sV Z K.1 ac),(12,sV U K.2.1 Y),(75,.bool e3)] (λh4 a9 c2=>?_) (λc3=>?_))
       ·obtain⟨e6,e7,e8⟩:=bs e5;refine C 1 V (Fj 36 22 [] [(5,sV ap ag.1 aq),(9,sV al O.1 am),(11,sV Z K.1 ac),(12,sV U K.2.1 Y),(80,.bool e6)] (λh5 bi c4=>?_) (λc5=>?_))
        ·obtain⟨e9,fa,fb⟩:=bs e8;refine C 1 V (Fj 41 17 [] [(9,sV al O.1 am),(11,sV Z K.1 ac),(12,sV U K.2.1 Y),(85,.bool e9)] (λh6 bx c6=>?_) (λc7=>?_))
         ·obtain⟨fc,fe,ff⟩:=bs fb;refine C 1 V (Fj 46 12 [] [(11,sV Z K.1 ac),(12,sV U K.2.1 Y),(90,.bool fc)] (λh7 b1 c8=>?_) (λc9=>?_))
          ·obtain⟨fg,fh,fj⟩:=bs ff;refine C 1 V (Fj 52 6 [] [(12,sV U K.2.1 Y),(96,.bool fg)] (λh8 dd di=>?_) (λdj=>?_))
           ·obtain⟨fk,fl,fm⟩:=bs fj;refine C 1 V (Fj 57 1 [] [(101,.bool fk)] (λh9 fo fp=>?_) (λdk=>?_))
            ·refine C 2 V ?_;obtain rfl:=oi fm;exact AY func18 V V (dy (((((((((((((((((((((((dB.Ad dH).Ad b3).Ad b4).Ad bz).Ad b0).Ad bn).Ad bo).Ad bv).Ad bw).Ad bb).Ad be).Ad a0).Ad a1).Ad a2).Ad a3).Ad a4).Ad a5).Ad a9).Ad bi).Ad bx).Ad b1).Ad dd).Ad fo) V ⟨V,V⟩ fp)
            ·refine EI 97 fl (λfq fs=>?_) (λfq fu=>?_)
             ·refine C 1 V (FL (pp:=rI) [iV 0,iV 1,iV 2] [0,1,2] V V V underlying28 AG CE (by decide) V V V ⟨V,V,V,trivial⟩ di λia ic fv fw=>?_);refine Ca 0 fv fw V λie dn fx fy=>?_;obtain⟨ig,fz,fA⟩:=bs fs;refine CW (Of (eI.Ah (((((((((((a0.Ad a1).Ad a2).Ad a3).Ad a4).Ad a5).Ad a9).Ad bi).Ad bx).Ad b1).Ad dd).Ad dn)) fx fz) V V MW fy λih fB fC=>BE (S':= [[],[]]) V fC λfD=>C 1 V ?_;obtain rfl:=oi fA;exact dk (dn.Ad fB) fD V
             ·refine C 4 V ?_;obtain rfl:=oi fu;exact dk Aw di V
           ·refine EI 91 fh (λfE fF=>?_) (λfE fG=>?_)
            ·refine C 1 V (FL (pp:=rI) [iV 0,iV 2,iV 6,iV 2,iV 3,iV 3,iV 3,iV 1,iV 1] [0,2,6,2,3,3,3,1,1] V V V underlying28 AG CE (by decide) V V V ⟨V,V,V,V,V,V,V,V,V,trivial⟩ c8 λii ij fH fI=>?_);refine Ca 0 fH fI V λik dp fJ fK=>?_;obtain⟨il,fL,fM⟩:=bs fF;refine BZ (Oh fJ fL) V V MT fK ?_;rintro _ io fN dq ⟨iq,ir,_,rfl,rfl,fO⟩ fP;refine BE (S':= [[],fN]) V fP λfQ=>Ca 1 fO fQ V λiu dr fR fS=>?_;obtain⟨iv,fT,fU⟩:=bs fM;refine CW (Ut (eH.Ah ((((((((((((a0.Ad a1).Ad a2).Ad a3).Ad a4).Ad a5).Ad a9).Ad bi).Ad bx).Ad b1).Ad dp).Ad dq).Ad dr)) fR fT) V V (A8 func26 V) fS λiw fW fX=>C 1 V ?_;obtain rfl:=oi fU;exact dj (((dp.Ad dq).Ad dr).Ad fW) fX V
            ·refine C 5 V ?_;obtain rfl:=oi fG;exact dj Aw c8 V
          ·refine EI 86 fe (λfY fZ=>?_) (λfY ga=>?_)
           ·refine C 1 V (FL (pp:=rI) [iV 0] [0] V V V underlying28 AG CE (by decide) V V V ⟨V,trivial⟩ c6 λiy iz gb gc=>?_);refine Ca 0 gb gc V λiA dt gd ge=>?_;obtain⟨iB,gf,gg⟩:=bs fZ;refine CW (Of (ey.Ah (((((((((((bb.Ad be).Ad a0).Ad a1).Ad a2).Ad a3).Ad a4).Ad a5).Ad a9).Ad bi).Ad bx).Ad dt)) gd gf) V V MW ge λiC gh gi=>BE (S':= [[],[]]) V gi λgj=>C 1 V ?_;obtain rfl:=oi gg;exact c9 (dt.Ad gh) gj V
           ·refine C 4 V ?_;obtain rfl:=oi ga;exact c9 Aw c6 V
         ·refine EI 81 fa (λgk gl=>?_) (λgk gm=>?_)
          ·obtain⟨iD,gn,gp⟩:=bs gl;refine C 1 V (BZ (bF gn) V V (A8 func66 V) c4 ?_);rintro _ iE _ du ⟨iF,iG,rfl,rfl,gq⟩ gr;obtain⟨iH,gt,gu⟩:=bs gp;refine CW (Ut (ec.Ah ((((((((((((((bn.Ad bo).Ad bv).Ad bw).Ad bb).Ad be).Ad a0).Ad a1).Ad a2).Ad a3).Ad a4).Ad a5).Ad a9).Ad bi).Ad du)) gq gt) V V (A8 func26 V) gr λiI gv gw=>C 1 V ?_;obtain rfl:=oi gu;exact c7 (du.Ad gv) gw V
          ·refine C 4 V ?_;obtain rfl:=oi gm;exact c7 Aw c4 V
        ·refine EI 76 e7 (λgx gy=>?_) (λgx gz=>?_)
         ·refine C 1 V (FL (pp:=rI) [iV 1,iV 2,iV 3] [1,2,3] V V V underlying28 AG CE (by decide) V V V ⟨V,V,V,trivial⟩ c2 λiJ iK gA gB=>?_);refine Ca 0 gA gB V λiL dv gC gD=>?_;obtain⟨iM,gE,gF⟩:=bs gy;refine CW (Of (dT.Ah (((((((((((((((bz.Ad b0).Ad bn).Ad bo).Ad bv).Ad bw).Ad bb).Ad be).Ad a0).Ad a1).Ad a2).Ad a3).Ad a4).Ad a5).Ad a9).Ad dv)) gC gE) V V MW gD λiN gG gH=>BE (S':= [[],[]]) V gH λgI=>C 1 V ?_;obtain rfl:=oi gF;exact c5 (dv.Ad gG) gI V
         ·refine C 4 V ?_;obtain rfl:=oi gz;exact c5 Aw c2 V
       ·refine EI 71 e4 (λgJ gK=>?_) (λgJ gL=>?_)
        ·refine C 1 V (FL (pp:=rI) [iV (-6),iV 1,iV 3,iV 2] [(-6),1,3,2] V V V underlying28 AG CE (by decide) V V V ⟨V,V,V,V,trivial⟩ c0 λiO iP gM gO=>?_);refine Ca 0 gM gO V λiQ dw gP gQ=>?_;obtain⟨iR,gR,gS⟩:=bs gK;refine CW (Of (dI.Ah ((((((((((((((((b3.Ad b4).Ad bz).Ad b0).Ad bn).Ad bo).Ad bv).Ad bw).Ad bb).Ad be).Ad a0).Ad a1).Ad a2).Ad a3).Ad a4).Ad a5).Ad dw)) gP gR) V V MW gQ λiS gT gU=>BE (S':= [[],[]]) V gU λgV=>C 1 V ?_;obtain rfl:=oi gS;exact c3 (dw.Ad gT) gV V
        ·refine C 4 V ?_;obtain rfl:=oi gL;exact c3 Aw c0 V
      ·refine EI 67 e0 (λgW gX=>?_) (λgW gY=>?_)
       ·refine C 3 V ?_;obtain rfl:=oi gX;exact c1 Aw cw V
       ·refine C 3 V ?_;obtain rfl:=oi gY;exact c1 Aw cw V
     ·refine EI 63 eX (λgZ g0=>?_) (λgZ g1=>?_)
      ·refine C 3 V ?_;obtain rfl:=oi g0;exact cy Aw cp V
      ·refine C 3 V ?_;obtain rfl:=oi g1;exact cy Aw cp V
    ·refine EI 59 eU (λg3 g4=>?_) (λg3 g5=>?_)
     ·refine C 3 V ?_;obtain rfl:=oi g4;exact ct Aw ci V
     ·refine C 3 V ?_;obtain rfl:=oi g5;exact ct Aw ci V
   ·refine EI 55 eR (λg6 g7=>?_) (λg6 g8=>?_)
    ·refine C 3 V ?_;obtain rfl:=oi g7;exact co Aw cc V
    ·refine C 3 V ?_;obtain rfl:=oi g8;exact co Aw cc V
  ·refine EI 51 eO (λg9 ha=>?_) (λg9 hb=>?_)
   ·refine C 3 V ?_;obtain rfl:=oi ha;exact ce Aw b6 V
   ·refine C 3 V ?_;obtain rfl:=oi hb;exact ce Aw b6 V
 ·refine ID 47 eL (λhc hd=>?_) (λhc he=>?_)
  ·refine C 3 V ?_;obtain rfl:=oi hd;exact ca Aw b5 V
  ·refine C 3 V ?_;obtain rfl:=oi he;exact ca Aw b5 V
def f104(fu_:Nat)(p0:List Int):Option ((List Int)):= (C9 ([]:List Int) p0).bind λK=> some K
theorem Zi{a1:Ao}{c2:Nat}{p0:List Int}(Y:Al rI E a1 c2 p0){fu_:Nat}{r:(List Int)}(K:f104 fu_ p0=some r):AO J 104 [sV a1 p0 c2] E [] (λw E' B'=>∃(O:Ao) (U:Nat),w= sV O r U/\B'= []/\Al rI E' O U r):=by
 refine Bj func104 λQ a3 cs H Z ac=>?_;unfold f104 at K;refine C 6 V (Np (pp:=rI) V V V underlying28 AG Z λa4 a5 ag al=>?_);obtain⟨a6,am,ap⟩:=bs K;refine C 1 V (I0 (pp:=rI) 1 am V V V V V V V underlying28 underlying28 AG (Ds type3) CE V (by decide) (by decide) ag Y al V λaq av a7 aw ay=>?_);refine C 2 V (Ca 1 aw ay V λa8 az a0 a2=>?_);obtain rfl:=oi ap;exact AY func104 V V (ac az V ⟨aq,av,V,V,a0⟩ a2)
def P9(fu_:Nat)(p0:A6)(K:A6×Int):Option (Bl (A6×Int) (A6)):= if K.2<(p0.length:Int) then((ix p0 K.2).bind λO=> (f104 fu_ O).bind λU=> (ix K.1 K.2).bind λZ=> (Av (K.2+1)).bind λY=> some (.more ((K.1.set (Int.toNat K.2) U),Y))) else(some (.done K.1))
def f68(fu_:Nat)(p0:A6):Option (A6):= (Jz (p0.length:Int) ([]:List Int)).bind λK=> Option.bind (iter (P9 fu_ p0) fu_ (K,0)) λO=> some O
def f69(fu_:Nat)(p0:Ax):Option (Ax):= (C9 ([]:Ax) p0).bind λK=> some K
def f21(fu_:Nat)(p0:A1):Option (A1):= (f68 fu_ p0.1).bind λK=> (f69 fu_ p0.2).bind λO=> some (K,O)
def f20(fu_:Nat)(p0:List Int):Option ((B3)):= some (p0,0,2685821657736338717)
theorem bJ{a1:Ao}{c2:Nat}{p0:List Int}(Z:Al rI E a1 c2 p0){fu_:Nat}{r:(B3)}(K:f20 fu_ p0=some r):AO J 20 [sV a1 p0 c2] E [] (λw E' B'=>∃(O:Nat) (U:Ao) (Y:Nat),w= Aj O 0/\B'= [(O,.cells #[sV U r.1 Y,iV r.2.1,.int .u64 ((r.2.2:Nat):Int)] 74 (0,0))]/\Al rI E' U Y r.1):=by
 refine Bj func20 λQ ap cs H ac ag=>?_;unfold f20 at K;refine C 7 V (Am (v:= .agg #[sV a1 p0 c2,iV 0,.int .u64 ((2685821657736338717:Nat):Int)]) V (λρ h=>Dd [(0,1),(1,1),(2,1)] h (Dp type74) underlying74 ⟨V,AV type28,V,AV type3,V,AV type72,trivial⟩ V V) ?_);refine JS.box (v:= .agg #[sV a1 p0 c2,iV 0,.int .u64 ((2685821657736338717:Nat):Int)]) V V V ac V λal am=>C 2 V ?_;obtain rfl:=oi K;exact AY func20 V V (ag Aw V ⟨al,a1,c2,V,(by first | rfl | simp | (simp [Value.cells])),Z⟩ am)
def f92(fu_:Nat)(p0:Int)(K:Int)(p2:Int):Option Bool:= Option.bind (if K<=p0 then(some (decide (p0<=p2))) else(some false)) λO=> some O
def f88(fu_:Nat)(p0:Int)(K:Int×Int×Int)(p2:Int):Option Int:= (Av (p0 - 1)).bind λO=> (f92 fu_ K.1 0 O).bind λU=> Option.bind (if(!U)=true then(some true) else((Av (p0 - 1)).bind λY=> (f92 fu_ K.2.1 0 Y).bind λZ=> some (!Z))) λac=> if ac=true then(some 3) else(if K.1=K.2.1 then(some 8) else((f92 fu_ K.2.2 1 p2).bind λag=> if(!ag)=true then(some 1) else(some 0)))
def Ms(fu_:Nat)(p0:A1)(O:Int)(K:Int):Option (Bl Int ((Int)⊕(Unit))):= (ix p0.1 O).bind λU=> if K<(U.length:Int) then((ix p0.1 O).bind λY=> (ix Y K).bind λZ=> (f92 fu_ Z 1 9).bind λac=> if(!ac)=true then(some (.done (Sum.inl 1))) else((Av (K+1)).bind λag=> some (.more ag))) else(some (.done (Sum.inr ())))
def Mr(fu_:Nat)(p0:A1)(K:Int):Option (Bl Int ((Int)⊕(Unit))):= if K<(p0.1.length:Int) then((ix p0.1 K).bind λO=> if 3<(O.length:Int) then(some (.done (Sum.inl 6))) else(Option.bind (iter (Ms fu_ p0 K) fu_ 0) λU=> Sum.elim (λr=>some (.done (Sum.inl r))) (λZ=> (Av (K+1)).bind λY=> some (.more Y)) U)) else(some (.done (Sum.inr ())))
def Qh(fu_:Nat)(p0:A1)(K:Int):Option (Bl Int ((Int)⊕(Unit))):= if K<(p0.2.length:Int) then((ix p0.2 K).bind λU=> (f88 fu_ (p0.1.length:Int) U 9).bind λO=> if O≠0 then(some (.done (Sum.inl O))) else((Av (K+1)).bind λY=> some (.more Y))) else(some (.done (Sum.inr ())))
def f48(fu_:Nat)(p0:A1):Option Int:= if(p0.1.length:Int)<2 then(some 7) else(if 5<(p0.1.length:Int) then(some 6) else(Option.bind (iter (Mr fu_ p0) fu_ 0) λK=> Sum.elim (λr=>some r) (λU=> if 8<(p0.2.length:Int) then(some 6) else(Option.bind (iter (Qh fu_ p0) fu_ 0) λO=> Sum.elim (λr=>some r) (λY=> some 0) O)) K))
def f83(fu_:Nat)(p0:B3):Option (Nat×(B3)):= (Av (p0.2.1+1)).bind λO=> Option.bind (if O<=(p0.1.length:Int) then((Av (O - 1)).bind λU=> (ix p0.1 U).bind λY=> some (((((CY O)*11400714819323198485) % 2 ^ 64) ^^^ (((CY Y)*14029467366897019727) % 2 ^ 64)) % 2 ^ 64)) else(some (((CY O)*11400714819323198485) % 2 ^ 64))) λK=> some (((((((((((p0.2.2 ^^^ K) % 2 ^ 64)*18397679294719823053) % 2 ^ 64) ^^^ (((((p0.2.2 ^^^ K) % 2 ^ 64)*18397679294719823053) % 2 ^ 64)>>>33)) % 2 ^ 64)*14181476777654086739) % 2 ^ 64) ^^^ (((((((((p0.2.2 ^^^ K) % 2 ^ 64)*18397679294719823053) % 2 ^ 64) ^^^ (((((p0.2.2 ^^^ K) % 2 ^ 64)*18397679294719823053) % 2 ^ 64)>>>33)) % 2 ^ 64)*14181476777654086739) % 2 ^ 64)>>>29)) % 2 ^ 64)>>>11,(p0.1,O,(((((p0.2.2 ^^^ K) % 2 ^ 64)*18397679294719823053) % 2 ^ 64) ^^^ (((((p0.2.2 ^^^ K) % 2 ^ 64)*18397679294719823053) % 2 ^ 64)>>>33)) % 2 ^ 64))
theorem cK{bk:Nat}{a1:Ao}{c2:Nat}{p0:B3}(al:Al rI E a1 c2 p0.1){fu_:Nat}{r:Nat×(B3)}(am:f83 fu_ p0=some r):AO J 83 [Aj bk 0] E [(bk,.cells #[sV a1 p0.1 c2,iV p0.2.1,.int .u64 ((p0.2.2:Nat):Int)] 74 (0,0))] (λw E' B'=>∃(ap:Ao) (aq:Nat),w= .int .u64 ((r.1:Nat):Int)/\B'= [(bk,.cells #[sV ap r.2.1 aq,iV r.2.2.1,.int .u64 ((r.2.2.2:Nat):Int)] 74 (0,0))]/\Al rI E' ap aq r.2.1):=by
 refine Bj func83 λQ bv cs H av a2=>?_;unfold f83 at am;refine C 8 V (JL.fd underlying74 AG V V V ?_);refine Am (v:=iV p0.2.1) V (λρ h=>Yl.load Bc (h _ _ V) (BY (j:=0) (off:=1) av V V)) ?_;obtain⟨Y,a3,a4⟩:=bs am;refine Br a3 V V V (C 1 V ?_);refine JL.fd underlying74 AG V V V (BL 0 av AG λU=>?_);refine C 5 V (JL.fd underlying74 AG V V V ?_);refine Am (v:=iV Y) V (λρ h=>Yl.load Bc (h _ _ V) (BY (j:=0) (off:=1) U V V)) (Am (v:= .int .u64 ((CY Y:Nat):Int)) V (λρ h=>Yl.CY underlying3 underlying72 (h _ _ V)) ?_);refine Am (v:= .int .u64 ((((CY Y)*11400714819323198485) % 2 ^ 64:Nat):Int)) V (λρ h=>NH (h _ _ V) (h _ _ V)) (C 4 V ?_);refine Fp 9 [bk] ⟨⟨0,_,V⟩,trivial⟩ U λK=>Ba K V [0,1] V (JG.fd 2 K underlying74 AG V V V V ?_);refine KQ 3 K 1 0 U Bc ?_;refine Ba K V [4,5] V (JG.fd 6 K underlying74 EX V V V V ?_);refine KQ 7 K 0 0 U Je ?_;refine AS 8 K V V (λρ h s' Z=>Yl.len V underlying28 (h _ _ V)) (Dm [9] ?_);obtain⟨O,a5,a6⟩:=bs a4;refine C 2 V (DZ [bX bk #[sV a1 p0.1 c2,iV Y,.int .u64 ((p0.2.2:Nat):Int)] 74] [(0,Aj bk 0),(3,.int .u64 ((O:Nat):Int))] (λbw aw ay=>?_) (λaz=>?_))
 ·refine C 5 V (JL.fd underlying74 JR V V V ?_);refine Am (v:= .int .u64 ((p0.2.2:Nat):Int)) V (λρ h=>Yl.load MQ (h _ _ V) (BY (j:=0) (off:=2) ay V V)) (C 1 V ?_);refine Am (v:= .int .u64 (((p0.2.2 ^^^ O) % 2 ^ 64:Nat):Int)) V (λρ h=>Ns (h _ _ V) (h _ _ V)) (Am (v:= .int .u64 (((((p0.2.2 ^^^ O) % 2 ^ 64)*18397679294719823053) % 2 ^ 64:Nat):Int)) V (λρ h=>NH (h _ _ V) (h _ _ V)) ?_);refine C 1 V (JL.fd underlying74 JR V V V ?_);refine BL 0 ay JR λac=>?_;refine C 2 V (Fp 11 [bk] ⟨⟨0,_,V⟩,trivial⟩ ac λK=>?_);refine Ba K V [0,1,2] V (JG.fd 3 K underlying74 JR V V V V ?_);refine KQ 4 K 2 0 ac MQ ?_;refine Ba K V [5,6] V (JG.fd 7 K underlying74 JR V V V V ?_);refine KQ 8 K 2 0 ac MQ ?_;refine AS (v:= .int .u64 ((((((p0.2.2 ^^^ O) % 2 ^ 64)*18397679294719823053) % 2 ^ 64)>>>33:Nat):Int)) 9 K V V (λρ h s' Z=>Lq 33 (h _ _ V) (h _ _ V) (by decide)) (AS (v:= .int .u64 (((((((p0.2.2 ^^^ O) % 2 ^ 64)*18397679294719823053) % 2 ^ 64) ^^^ (((((p0.2.2 ^^^ O) % 2 ^ 64)*18397679294719823053) % 2 ^ 64)>>>33)) % 2 ^ 64:Nat):Int)) 10 K V V (λρ h s' Z=>Ns (h _ _ V) (h _ _ V)) ?_);refine Dm [11,12,13] (C 1 V ?_);refine JL.fd underlying74 JR V V V (BL 0 ac JR λa0=>?_);refine C 5 V (JL.fd underlying74 JR V V V ?_);refine Am (v:= .int .u64 (((((((p0.2.2 ^^^ O) % 2 ^ 64)*18397679294719823053) % 2 ^ 64) ^^^ (((((p0.2.2 ^^^ O) % 2 ^ 64)*18397679294719823053) % 2 ^ 64)>>>33)) % 2 ^ 64:Nat):Int)) V (λρ h=>Yl.load MQ (h _ _ V) (BY (j:=0) (off:=2) a0 V V)) (Am (v:= .int .u64 (((((((((p0.2.2 ^^^ O) % 2 ^ 64)*18397679294719823053) % 2 ^ 64) ^^^ (((((p0.2.2 ^^^ O) % 2 ^ 64)*18397679294719823053) % 2 ^ 64)>>>33)) % 2 ^ 64)*14181476777654086739) % 2 ^ 64:Nat):Int)) V (λρ h=>NH (h _ _ V) (h _ _ V)) ?_);refine C 6 V (Am (v:= .int .u64 ((((((((((p0.2.2 ^^^ O) % 2 ^ 64)*18397679294719823053) % 2 ^ 64) ^^^ (((((p0.2.2 ^^^ O) % 2 ^ 64)*18397679294719823053) % 2 ^ 64)>>>33)) % 2 ^ 64)*14181476777654086739) % 2 ^ 64)>>>29:Nat):Int)) V (λρ h=>Lq 29 (h _ _ V) (h _ _ V) (by decide)) ?_);refine Am (v:= .int .u64 (((((((((((p0.2.2 ^^^ O) % 2 ^ 64)*18397679294719823053) % 2 ^ 64) ^^^ (((((p0.2.2 ^^^ O) % 2 ^ 64)*18397679294719823053) % 2 ^ 64)>>>33)) % 2 ^ 64)*14181476777654086739) % 2 ^ 64) ^^^ (((((((((p0.2.2 ^^^ O) % 2 ^ 64)*18397679294719823053) % 2 ^ 64) ^^^ (((((p0.2.2 ^^^ O) % 2 ^ 64)*18397679294719823053) % 2 ^ 64)>>>33)) % 2 ^ 64)*14181476777654086739) % 2 ^ 64)>>>29)) % 2 ^ 64:Nat):Int)) V (λρ h=>Ns (h _ _ V) (h _ _ V)) (Am (v:= .int .u64 ((((((((((((p0.2.2 ^^^ O) % 2 ^ 64)*18397679294719823053) % 2 ^ 64) ^^^ (((((p0.2.2 ^^^ O) % 2 ^ 64)*18397679294719823053) % 2 ^ 64)>>>33)) % 2 ^ 64)*14181476777654086739) % 2 ^ 64) ^^^ (((((((((p0.2.2 ^^^ O) % 2 ^ 64)*18397679294719823053) % 2 ^ 64) ^^^ (((((p0.2.2 ^^^ O) % 2 ^ 64)*18397679294719823053) % 2 ^ 64)>>>33)) % 2 ^ 64)*14181476777654086739) % 2 ^ 64)>>>29)) % 2 ^ 64)>>>11:Nat):Int)) V (λρ h=>Lq 11 (h _ _ V) (h _ _ V) (by decide)) ?_);refine C 2 V ?_;obtain rfl:=oi a6;exact AY func83 V V (a2 aw V ⟨a1,c2,V,V,(al.Ah aw)⟩ a0)
 ·refine AU a5 (λa7 a8=>?_) (λa7 a9=>?_)
  ·refine Fp 14 [bk] ⟨⟨0,_,V⟩,trivial⟩ U λK=>Ba K V [0,1,2] V (JG.fd 3 K underlying74 EX V V V V ?_);refine KQ 4 K 0 0 U Je ?_;refine Ba K V [5,6] V (JG.fd 7 K underlying74 AG V V V V ?_);refine KQ 8 K 1 0 U Bc ?_;obtain⟨bx,bb,be⟩:=bs a8;refine AS 9 K V V (λρ h s' Z=>Ep (h _ _ V) (h _ _ V) bb) ?_;obtain⟨ag,bi,bn⟩:=bs be;refine Fo 10 al bi K underlying28 AG ?_;rintro bz b0 _ rfl bo;refine JG.lp 11 K 0 bo U ⟨⟨0,_,V⟩,trivial⟩ Bc ?_;refine AS (v:= .int .u64 ((CY ag:Nat):Int)) 12 K V V (λρ h s' Z=>Yl.CY underlying3 underlying72 (h _ _ V)) (AS (v:= .int .u64 ((((CY ag)*14029467366897019727) % 2 ^ 64:Nat):Int)) 13 K V V (λρ h s' Z=>NH (h _ _ V) (h _ _ V)) ?_);refine Dm [14,15] (Am (v:= .int .u64 ((((((CY Y)*11400714819323198485) % 2 ^ 64) ^^^ (((CY ag)*14029467366897019727) % 2 ^ 64)) % 2 ^ 64:Nat):Int)) V (λρ h=>Ns (h _ _ V) (h _ _ V)) ?_);refine C 2 V ?_;obtain rfl:=oi bn;exact az Aw U V
  ·refine JL.skip ?_;obtain rfl:=oi a9;exact az Aw U V
def f36(fu_:Nat)(p0:B3)(O:Int):Option (Int×(B3)):= (f83 fu_ p0).bind λK=> if O<1 then(some (0,K.2)) else((Oa K.1 ((CY O+1) % 2 ^ 64)).bind λU=> some (MF U,K.2))
theorem KO{bk:Nat}{a1:Ao}{c2:Nat}{p0:B3}{K:Int}(av:Al rI E a1 c2 p0.1){fu_:Nat}{r:Int×(B3)}(O:f36 fu_ p0 K=some r):AO J 36 [Aj bk 0,iV K] E [(bk,.cells #[sV a1 p0.1 c2,iV p0.2.1,.int .u64 ((p0.2.2:Nat):Int)] 74 (0,0))] (λw E' B'=>∃(U:Ao) (Y:Nat),w=iV r.1/\B'= [(bk,.cells #[sV U r.2.1 Y,iV r.2.2.1,.int .u64 ((r.2.2.2:Nat):Int)] 74 (0,0))]/\Al rI E' U Y r.2.1):=by
 refine Bj func36 λQ a6 cs H aw Z=>?_;unfold f36 at O;obtain⟨a7,ay,az⟩:=bs O;refine C 7 V (Co 0 (cK av ay) V V (A8 func83 V) aw V ?_);rintro _ a8 _ ac ⟨ag,al,rfl,rfl,am⟩ ap;refine C 8 V (AU az (λa0 a2=>?_) (λa0 a3=>?_))
 ·refine C 4 V ?_;obtain rfl:=oi a2;exact AY func36 V V (Z ac V ⟨ag,al,V,V,am⟩ ap)
 ·refine C 5 V (Am (v:= .int .u64 ((CY K:Nat):Int)) V (λρ h=>Yl.CY underlying3 underlying72 (h _ _ V)) ?_);refine Am (v:= .int .u64 (((CY K+1) % 2 ^ 64:Nat):Int)) V (λρ h=>YO (h _ _ V) (h _ _ V)) ?_;obtain⟨aq,a4,a5⟩:=bs a3;refine Am (v:= .int .u64 ((aq:Nat):Int)) V (λρ h=>XT (h _ _ V) (h _ _ V) a4) (Am (v:=iV (MF aq)) V (λρ h=>aG underlying72 underlying3 (h _ _ V)) ?_);refine C 2 V ?_;obtain rfl:=oi a5;exact AY func36 V V (Z ac V ⟨ag,al,V,V,am⟩ ap)
def f37(fu_:Nat)(p0:B3)(K:Int)(p2:Int):Option (Int×(B3)):= (Av (p2 - K)).bind λU=> (f36 fu_ p0 U).bind λO=> (Av (K+O.1)).bind λY=> some (Y,O.2)
theorem Qz{bk:Nat}{a1:Ao}{c2:Nat}{p0:B3}{K:Int}{p2:Int}(Z:Al rI E a1 c2 p0.1){fu_:Nat}{r:Int×(B3)}(O:f37 fu_ p0 K p2=some r):AO J 37 [Aj bk 0,iV K,iV p2] E [(bk,.cells #[sV a1 p0.1 c2,iV p0.2.1,.int .u64 ((p0.2.2:Nat):Int)] 74 (0,0))] (λw E' B'=>∃(U:Ao) (Y:Nat),w=iV r.1/\B'= [(bk,.cells #[sV U r.2.1 Y,iV r.2.2.1,.int .u64 ((r.2.2.2:Nat):Int)] 74 (0,0))]/\Al rI E' U Y r.2.1):=by
 refine Bj func37 λQ a4 cs H ac ag=>?_;unfold f37 at O;obtain⟨a5,al,am⟩:=bs O;refine C 10 V (Cp al V V V ?_);obtain⟨a6,ap,aq⟩:=bs am;refine Co 0 (KO Z ap) V V Kq ac V ?_;rintro _ a7 _ av ⟨aw,ay,rfl,rfl,az⟩ a0;obtain⟨a8,a2,a3⟩:=bs aq;refine Br a2 V V V (C 2 V ?_);obtain rfl:=oi a3;exact AY func37 V V (ag av V ⟨aw,ay,V,V,az⟩ a0)
def f32(fu_:Nat)(p0:B3)(O:Int):Option (Bool×(B3)):= (Av (O - 1)).bind λU=> (f36 fu_ p0 U).bind λK=> some (decide (K.1=0),K.2)
theorem cF{bk:Nat}{a1:Ao}{c2:Nat}{p0:B3}{K:Int}(Z:Al rI E a1 c2 p0.1){fu_:Nat}{r:Bool×(B3)}(O:f32 fu_ p0 K=some r):AO J 32 [Aj bk 0,iV K] E [(bk,.cells #[sV a1 p0.1 c2,iV p0.2.1,.int .u64 ((p0.2.2:Nat):Int)] 74 (0,0))] (λw E' B'=>∃(U:Ao) (Y:Nat),w= .bool r.1/\B'= [(bk,.cells #[sV U r.2.1 Y,iV r.2.2.1,.int .u64 ((r.2.2.2:Nat):Int)] 74 (0,0))]/\Al rI E' U Y r.2.1):=by
 refine Bj func32 λQ a2 cs H ac ag=>?_;unfold f32 at O;obtain⟨a3,al,am⟩:=bs O;refine C 8 V (Cp al V V V ?_);obtain⟨a4,ap,aq⟩:=bs am;refine Co 0 (KO Z ap) V V Kq ac V ?_;rintro _ a5 _ av ⟨aw,ay,rfl,rfl,az⟩ a0;refine C 3 V ?_;obtain rfl:=oi aq;exact AY func32 V V (ag av V ⟨aw,ay,V,V,az⟩ a0)
def f81(fu_:Nat)(p0:B3)(K:List Int):Option (Int×(B3)):= (Av ((K.length:Int) - 1)).bind λU=> (f36 fu_ p0 U).bind λO=> (ix K O.1).bind λY=> some (Y,O.2)
theorem UG{bk:Nat}{a1:Ao}{c2:Nat}{O:Ao}{U:Nat}{p0:B3}{K:List Int}(al:Al rI E a1 c2 p0.1)(am:Al rI E O U K){fu_:Nat}{r:Int×(B3)}(Y:f81 fu_ p0 K=some r):AO J 81 [Aj bk 0,sV O K U] E [(bk,.cells #[sV a1 p0.1 c2,iV p0.2.1,.int .u64 ((p0.2.2:Nat):Int)] 74 (0,0))] (λw E' B'=>∃(Z:Ao) (ac:Nat),w=iV r.1/\B'= [(bk,.cells #[sV Z r.2.1 ac,iV r.2.2.1,.int .u64 ((r.2.2.2:Nat):Int)] 74 (0,0))]/\Al rI E' Z ac r.2.1):=by
 refine Bj func81 λQ a8 cs H ap aq=>?_;unfold f81 at Y;refine C 9 V (JL.ln underlying28 V V V ?_);obtain⟨a9,av,aw⟩:=bs Y;refine Cp av V V V ?_;obtain⟨bb,ay,az⟩:=bs aw;refine Co 0 (KO al ay) V V Kq ap V ?_;rintro _ be _ ag ⟨a0,a2,rfl,rfl,a3⟩ a4;obtain⟨bi,a5,a6⟩:=bs az;refine JS.ix (am.Ah ag) a5 underlying28 AG ?_;rintro bn bo _ rfl a7;refine Da 0 a7 Bc V V V (C 2 V ?_);obtain rfl:=oi a6;exact AY func81 V V (aq ag V ⟨a0,a2,V,V,a3⟩ a4)
def f40(fu_:Nat)(p0:B3)(K:Int):Option (Dq×(B3)):= (Av (K - 1)).bind λac=> (f36 fu_ p0 ac).bind λO=> (f37 fu_ O.2 1 9).bind λU=> (f81 fu_ U.2 ([1,2,2,3,U.1]:List Int)).bind λY=> (Av (K - 1)).bind λag=> (f37 fu_ Y.2 1 ag).bind λZ=> (Av (O.1+Z.1)).bind λal=> (Oo al K).bind λam=> some ((O.1,am,Y.1),Z.2)
theorem UK{bk:Nat}{a1:Ao}{c2:Nat}{p0:B3}{ac:Int}(az:Al rI E a1 c2 p0.1){fu_:Nat}{r:Dq×(B3)}(ag:f40 fu_ p0 ac=some r):AO J 40 [Aj bk 0,iV ac] E [(bk,.cells #[sV a1 p0.1 c2,iV p0.2.1,.int .u64 ((p0.2.2:Nat):Int)] 74 (0,0))] (λw E' B'=>∃(al:Ao) (am:Nat),w= .agg #[iV r.1.1,iV r.1.2.1,iV r.1.2.2]/\B'= [(bk,.cells #[sV al r.2.1 am,iV r.2.2.1,.int .u64 ((r.2.2.2:Nat):Int)] 74 (0,0))]/\Al rI E' al am r.2.1):=by
 refine Bj func40 λQ dd cs H a0 a2=>?_;unfold f40 at ag;refine C 2 V (BT a0 BQ λdi a3=>?_);obtain⟨dj,a4,a5⟩:=bs ag;refine C 5 V (Cp a4 V V V ?_);obtain⟨O,a6,a7⟩:=bs a5;refine Co 0 (KO az a6) V V Kq a3 V ?_;rintro _ dk _ a8 ⟨dn,dp,rfl,rfl,a9⟩ bb;obtain⟨ap,be,bi⟩:=bs a7;refine C 2 V (Co 0 (Qz a9 be) V V OR bb V ?_);rintro _ dq _ bn ⟨dr,dt,rfl,rfl,bo⟩ bv;refine FL (pp:=rI) [iV 1,iV 2,iV 2,iV 3,iV ap.1] [1,2,2,3,ap.1] V V V underlying28 AG CE (by decide) V V V ⟨V,V,V,V,V,trivial⟩ bv λdu dv bw bx=>Ca 2 bw bx V λdw aq bz b0=>?_;obtain⟨U,b1,b2⟩:=bs bi;refine Co 0 (UG (bo.Ah aq) bz b1) V V (A8 func81 V) b0 V ?_;rintro _ dx _ b3 ⟨dy,dz,rfl,rfl,b4⟩ b5;refine Am (v:= .agg #[iV O.1,iV 0,iV U.1]) V (λρ h=>Dd [(0,1),(1,1),(2,1)] h BQ underlying27 ⟨V,AV type3,V,AV type3,V,AV type3,trivial⟩ V V) (BT b5 BQ λav b6=>?_);refine BL 3 b6 Bp λZ=>?_;refine C 2 V (Fp 8 [av] ⟨⟨3,_,V⟩,trivial⟩ Z λK=>?_);refine JG.fd 0 K underlying27 AG V V V V (KQ 1 K 0 3 Z Bc ?_);refine Ba K V [2,3] V ?_;obtain⟨ca,cc,ce⟩:=bs b2;refine AS 4 K V V (λρ h s' ci=>Ep (h _ _ V) (h _ _ V) cc) (DU 7 K V V ?_);obtain⟨dA,co,cp⟩:=bs ce;refine RQ (i:=5) (vs:= [Aj bk 0,iV 1,iV ca]) 0 (by exact λx ct=>Hv.mem (bks:= [av]) (by exact⟨⟨3,_,rfl⟩,trivial⟩) x (by simpa [AA] using ct)) (Qz b4 co) (by decide+kernel) V V V OR V Z V ?_;rintro _ dB _ cw ⟨cy,c0,rfl,rfl,c1⟩ c3;obtain⟨dC,c4,c5⟩:=bs cp;refine AS 6 K V V (λρ h s' ci=>Gj (h _ _ V) (h _ _ V) c4) (Dm [8,9,10] ?_);obtain⟨Y,c6,c7⟩:=bs c5;refine Am (v:=iV Y) V (λρ h=>Y6 (h _ _ V) (h _ _ V) c6) (JL.fd underlying27 AG V V V ?_);refine BL 3 c3 AG λaw=>?_;refine C 3 V (Am V (λρ h=>HQ (vs:= [iV O.1,iV Y,iV U.1]) Ek Bp (h _ _ V) (Gi (off:=0) 3 aw V V)) ?_);refine BL 1 aw Bp λc8=>?_;refine JL.done (JS.drop 3 c8 V λay=>?_);obtain rfl:=oi c7;refine JL.ret (v:= .agg #[iV O.1,iV Y,iV U.1]) V V (BA.list func40 V (vs:= [.agg #[iV O.1,iV Y,iV U.1]]) ⟨⟨_,V,Ld.many (vs:= [iV O.1,iV Y,iV U.1]) Ek Bp (Gi (off:=0) 1 ay V V)⟩,trivial⟩) (Eo 1 ay V λc9=>?_);exact a2 ((((a8.Ad bn).Ad aq).Ad b3).Ad cw) V ⟨cy,c0,V,V,c1⟩ c9
end Pal
namespace Pal
open Go Go.Conc
variable {P:Program}{J:Judge P}{Q:Gs_}{b:Frame}{n:Nat}{ds:Ld_}{ops:Ao_}{cs:Lf_}{fuel:Nat}{D:Nat->Bool}{listed:Array Bool}{L:Env}{s:St}{E E' H:LH}{S:List Seg}
variable {d:Option Tmp}{t u ty e:TypeId}{p:String}{af:Ae_}{g:On_}{v:Value}{i:Nat}{kd:IntKind}
section
variable {k:Li_}{m:Nat}
variable {x y:Operand}
theorem Take.Uk{f:FuncId}{args:Array Operand}{ats:Array TypeId}{vs:Lv_}{seg:Seg}{R:Value->LH->Seg->Prop}(j:Nat)(O:Ap E H S)(ap:AO J f vs E seg R)
  (aq:ops[i]? =some ⟨d,.call ⟨.value (.func f),args,ats⟩,ty,p,af,g⟩) (hw:AK L ops ⟨d,.call ⟨.value (.func f),args,ats⟩,ty,p,af,g⟩=some true) (av:Bd n d=true) (hb:Dt P f=true) (aw:evs L args.toList=some vs) (U:S[j]? =some seg)
  (ay:∀v E' seg',Le E E'->R v E' seg'->Ap E' H (S.set j seg')->AM J Q b n ds ops k cs m Dj fuel (A5 listed i) (As L d v) (Ak E' H (S.set j seg'))):
  Take J Q b n ds ops k cs m Dj fuel listed L (Ak E H S) i:=by
 have Y:S.flatten.Perm (seg++(S.set j []).flatten):=(Em (seg':=seg) U).1.trans List.perm_append_comm;have Z:Nd E H (seg++(S.set j []).flatten):=Nd.perm O Y;have az:Ak E H S=mk E (Bb (S.set j []).flatten H) seg:=by
  rw [show Ak E H S=mk E H S.flatten from rfl,EY O Y];unfold mk;rw [FI]
 have ac:=ED.KU (ap (Bb (S.set j []).flatten H) (Nd.front Z)) (by rintro v s' ⟨E',B',_,_,_,rfl⟩;rfl);rw [← az] at ac;refine⟨_,aq,by simp [Ed],av,hw,λρ ag=>?_⟩;have a0:args.map ρ=vs.toArray:=by
  rw [← GA ag aw];apply Array.ext';simp
 have a1:ρ (.func f)= .func (.func f) #[] #[]:=ag _ _ V;simp only [execOp,resolve,bind,Sem.bind,Deferred.ofValue,a1,pure,invoke];have e: #[]++args.map ρ++ #[]=vs.toArray:=by rw [a0];simp
 rw [e];refine Jh hb ?_;rw [K9];refine⟨_,ac,?_⟩;rintro v be ⟨⟨E',B',hle,a2,a3,rfl⟩,w,a4⟩;have e2:mk E' (Bb (S.set j []).flatten H) B'=mk E' H (B'++(S.set j []).flatten):=by unfold mk;rw [FI]
 have a5:Nd E H (S.set j []).flatten:=by
  have:=Z;rw [Nd.iff] at this ⊢;rw [List.map_append,List.nodup_append] at this;exact⟨this.1.2.1,λq a6=>this.2 q (List.mem_append_right _ a6)⟩
 have a7:Nd E' H (S.set j []).flatten:=a5.grow λx K=>by
  have a8:=a4.d x K;have a9:Bb B' (Bb (S.set j []).flatten H) x=none:=a8;exact(HM a9).1
 have al:Nd E' H (B'++(S.set j []).flatten):=Nd.glue a3 a7;have am:(B'++(S.set j []).flatten).Perm (S.set j B').flatten:=List.perm_append_comm.trans (Em U).2.symm;have bb:Ap E' H (S.set j B'):=Nd.perm al am;rw [e2,EY al am];exact⟨V,λx o K=>hle _ _ K,ay v E' B' hle a2 bb⟩
end
open Go.Proofs Go.Proofs.Tryz
variable {J:Judge Tryz.prog}
def NQ(fu_:Nat)(Y:Bool×(B3))(K:(List Int)×Int×Nat×(List Int)×Int):Option (Bl ((List Int)×Int×Nat×(List Int)×Int) ((List Int)×B3)):= if 0<K.2.2.2.2 then(Option.bind (if Y.1=true then((room K.2.2.2.1 1).bind λZ=> some (Z,K.1,K.2.1,K.2.2.1)) else((f81 fu_ (K.1,K.2.1,K.2.2.1) ([1,1,2,2,3,5]:List Int)).bind λO=> (room K.2.2.2.1 O.1).bind λac=> some (ac,O.2.1,O.2.2.1,O.2.2.2))) λU=> (Av (K.2.2.2.2 - 1)).bind λag=> some (.more (U.2.1,U.2.2.1,U.2.2.2,U.1,ag))) else(some (.done (K.2.2.2.1,K.1,K.2.1,K.2.2.1)))
def N3(fu_:Nat)(Y:Int×(B3))(Z:Bool×(B3))(K:A6×(List Int)×Int×Nat×Int):Option (Bl (A6×(List Int)×Int×Nat×Int) ((List Int)×Int×Nat×A6)):= if K.2.2.2.2<Y.1 then((f36 fu_ (K.2.1,K.2.2.1,K.2.2.2.1) 3).bind λO=> Option.bind (iter (NQ fu_ Z) fu_ (O.2.1,O.2.2.1,O.2.2.2,[],O.1)) λU=> (room K.1 U.1).bind λac=> (Av (K.2.2.2.2+1)).bind λag=> some (.more (ac,U.2.1,U.2.2.1,U.2.2.2,ag))) else(some (.done (K.2.1,K.2.2.1,K.2.2.2.1,K.1)))
def N6(fu_:Nat)(U:Int×(B3))(K:Ax×(List Int)×Int×Nat×Int):Option (Bl (Ax×(List Int)×Int×Nat×Int) ((List Int)×Int×Nat×Ax)):= if 0<K.2.2.2.2 then((f40 fu_ (K.2.1,K.2.2.1,K.2.2.2.1) U.1).bind λO=> (C9 K.1 ([O.1]:Ax)).bind λY=> (Av (K.2.2.2.2 - 1)).bind λZ=> some (.more (Y,O.2.1,O.2.2.1,O.2.2.2,Z))) else(some (.done (K.2.1,K.2.2.1,K.2.2.2.1,K.1)))
def f31(fu_:Nat)(p0:B3)(ac:Int)(p2:Int):Option (A1×(B3)):= (f37 fu_ p0 2 ac).bind λZ=> (f32 fu_ Z.2 3).bind λK=> Option.bind (iter (N3 fu_ Z K) fu_ ([],K.2.1,K.2.2.1,K.2.2.2,0)) λO=> (f36 fu_ (O.1,O.2.1,O.2.2.1) p2).bind λU=> Option.bind (iter (N6 fu_ Z) fu_ ([],U.2.1,U.2.2.1,U.2.2.2,U.1)) λY=> some ((O.2.2.2,Y.2.2.2),(Y.1,Y.2.1,Y.2.2.1))
theorem cI{bk:Nat}{a1:Ao}{c2:Nat}{p0:B3}{dK:Int}{p2:Int}(eI:Al rI E a1 c2 p0.1){fu_:Nat}{r:A1×(B3)}(dL:f31 fu_ p0 dK p2=some r):AO J 31 [Aj bk 0,iV dK,iV p2] E [(bk,.cells #[sV a1 p0.1 c2,iV p0.2.1,.int .u64 ((p0.2.2:Nat):Int)] 74 (0,0))] (λw E' B'=>∃(dM:Ao) (dN:Nat) (dO:Ao) (dQ:Nat) (dR:Ao) (dS:Nat),w= .agg #[sV dM r.1.1 dN,sV dO r.1.2 dQ]/\B'= [(bk,.cells #[sV dR r.2.1 dS,iV r.2.2.1,.int .u64 ((r.2.2.2:Nat):Int)] 74 (0,0))]/\Al (rL rI) E' dM dN r.1.1/\Al Az E' dO dQ r.1.2/\Al rI E' dR dS r.2.1):=by
 refine Bj func31 λQ hR cs H eJ eK=>?_;unfold f31 at dL;refine C 2 V (BT eJ Il λO eL=>?_);refine C 3 V (BT eL Il λU eM=>?_);obtain⟨az,eN,eO⟩:=bs dL;refine C 5 V (Co 0 (Qz eI eN) V V OR eM V ?_);rintro _ hS _ eP ⟨eQ,eR,rfl,rfl,eS⟩ eT;refine BE (S':= [[(bk,.cells #[sV eQ az.2.1 eR,iV az.2.2.1,.int .u64 ((az.2.2.2:Nat):Int)] 74 (0,0))],[(O,.cells #[nS,nS] 25 (0,0))],[(U,.cells #[nS,nS] 25 (0,0))]]) V eT λeU=>?_;obtain⟨b5,eV,eW⟩:=bs eO;refine C 5 V (Co 0 (cF eS eV) V V (A8 func32 V) eU V ?_);rintro _ di _ eX ⟨eY,eZ,rfl,rfl,e0⟩ e1;obtain⟨Y,e3,e4⟩:=bs eW;refine C 7 V (Bt (λL s=>∃(b6:LH) (dj:Ao) (dk:Nat) (ac:Ao) (ag:Nat) (ay:Seg),Jn di H b6 [bX bk #[sV dj Y.1 dk,iV Y.2.1,.int .u64 ((Y.2.2.1:Nat):Int)] 74,bX O #[nS,nS] 25,bX U #[sV ac Y.2.2.2 ag,nS] 25,ay] [(0,Aj bk 0),(2,iV p2),(6,Aj O 0),(7,Aj U 0),(8,iV az.1)] L s (Al rI b6 dj dk Y.1/\OL 28 (rL rI) b6 ac ag ay Y.2.2.2)) ?_ ?_)
 ·rintro _ _ ⟨b6,dj,dk,ac,ag,ay,rfl,rfl,e5,e6,e7,e8⟩;obtain⟨hT,e9,fa⟩:=bs e4;refine C 5 V (Co 0 (KO e7 e9) V V Kq e6 V ?_);rintro _ dn _ dT ⟨fb,fc,rfl,rfl,fe⟩ ff;obtain⟨al,fg,fh⟩:=bs fa;refine C 2 V (Bt (λL s=>∃(ca:LH) (bv:Ao) (bw:Nat) (a2:Ao) (a3:Nat) (cc:Seg),Jn dn H ca [bX bk #[sV bv al.1 bw,iV al.2.1,.int .u64 ((al.2.2.1:Nat):Int)] 74,bX O #[nS,nS] 25,bX U #[sV ac Y.2.2.2 ag,sV a2 al.2.2.2 a3] 25,ay,cc] [(6,Aj O 0),(7,Aj U 0)] L s (Al rI ca bv bw al.1/\OL 27 Az ca a2 a3 cc al.2.2.2)) ?_ ?_)
  ·rintro _ _ ⟨ca,bv,bw,a2,a3,cc,rfl,rfl,dU,dV,fj,fk⟩;refine C 2 V (Am V (λρ h=>HQ (vs:= [sV ac Y.2.2.2 ag,sV a2 al.2.2.2 a3]) EF Cv (h _ _ V) (Gi (off:=0) 2 dV V V)) ?_);refine BL 1 dV Cv λfl=>?_;refine BE (S':= [[(bk,.cells #[sV bv al.1 bw,iV al.2.1,.int .u64 ((al.2.2.1:Nat):Int)] 74 (0,0))],[(O,.cells #[sV ac Y.2.2.2 ag,sV a2 al.2.2.2 a3] 25 (0,0))],[(U,.cells #[sV ac Y.2.2.2 ag,sV a2 al.2.2.2 a3] 25 (0,0))],ay,cc]) V fl λfm=>JL.done (Ca 3 (e8.Ah (dT.Ad dU)) fm V λhU dp fo fp=>?_);refine Ca 4 (fk.Ah dp) fp V λhV dq fq fs=>JS.drop 2 fs V λdW=>?_;obtain rfl:=oi fh;refine JL.ret (v:= .agg #[sV ac Y.2.2.2 ag,sV a2 al.2.2.2 a3]) V V (BA.list func31 V (vs:= [.agg #[sV ac Y.2.2.2 ag,sV a2 al.2.2.2 a3]]) ⟨⟨_,V,Ld.many (vs:= [sV ac Y.2.2.2 ag,sV a2 al.2.2.2 a3]) EF Cv (Gi (off:=0) 1 dW V V)⟩,trivial⟩) (Eo 1 dW V λfu=>?_);exact eK ((((((eP.Ad eX).Ad e5).Ad dT).Ad dU).Ad dp).Ad dq) V ⟨ac,ag,a2,a3,bv,bw,V,V,(fo.Ah dq),fq,(fj.Ah (dp.Ad dq))⟩ fu
  ·intro fv;refine JL.block (CG fg (λL s ap=>∃(bx:LH) (a4:Ao) (a5:Nat) (a7:Seg) (ce:Ao) (ci:Nat),Jn dn H bx [bX bk #[sV ce ap.2.1 ci,iV ap.2.2.1,.int .u64 ((ap.2.2.2.1:Nat):Int)] 74,bX O #[nS,nS] 25,bX U #[sV ac Y.2.2.2 ag,sV a4 ap.1 a5] 25,ay,a7] [(0,Aj bk 0),(6,Aj O 0),(7,Aj U 0),(8,iV az.1),(13,iV ap.2.2.2.2)] L s (OL 27 Az bx a4 a5 a7 ap.1/\Al rI bx ce ci ap.2.1)) ⟨dn,none,0,[],fb,fc,V,V,Aw,ff,OL.nil,fe⟩ ?_);rintro _ _ ap ⟨bx,a4,a5,a7,ce,ci,rfl,rfl,co,cp,ct,dr⟩ fw ⟨hW,bz⟩ dt;have dX:=bz;unfold N6 at dX;refine C 6 V (AU dX (λfx fy=>?_) (λfx fz=>?_))
   ·refine C 3 V (Fl 6 λdY=>?_);refine JG.fd 0 dY underlying25 F3 V V V V (Ba dY V [2,3] V ?_);obtain⟨K,dZ,du⟩:=bs fy;refine Gl (i:=1) (j:=4) V (by decide+kernel) ?_ ?_
    ·refine Take.y0 (v:= sV a4 ap.1 a5) V V V (λρ h=>Yl.load Hh (h _ _ V) (BY (j:=2) cp V V)) (JG.one (i:=4) V (by decide+kernel) ?_);refine Take.Uk (vs:= [Aj bk 0,iV az.1]) 0 cp (UK dr dZ) V V V (A8 func40 V) V V ?_;rintro _ hX _ ea ⟨dv,dw,rfl,rfl,fA⟩ fB;refine JG.one (i:=5) V (by decide+kernel) (Take.Fb (pp:=Az) [.agg #[iV K.1.1,iV K.1.2.1,iV K.1.2.2]] ([K.1]:Ax) fB V V V underlying23 Bp BQ (by decide) V V V ⟨⟨_,_,V,V,⟨_,_,V,V,V⟩⟩,trivial⟩ λhY fC fD fE=>?_);refine Dm [6,7,8] (BE (S':= [[(bk,.cells #[sV dv K.2.1 dw,iV K.2.2.1,.int .u64 ((K.2.2.2:Nat):Int)] 74 (0,0))],[(O,.cells #[nS,nS] 25 (0,0))],[(U,.cells #[sV ac Y.2.2.2 ag,sV a4 ap.1 a5] 25 (0,0))],ay,a7,fC]) V fE λfF=>?_);refine Ca 5 fD fF V λfG dx fH fI=>?_;obtain⟨eb,fJ,fK⟩:=bs du;refine I0 (pp:=Az) 4 fJ V V V V V V V underlying23 underlying23 Bp (Ds type27) BQ V (by decide) (by decide) (ct.Ah (ea.Ad dx)) fH fI V λec ed ee fL fM=>JL.fd underlying25 F3 V V V (BL 2 fM F3 λfN=>?_);refine BE (S':= [[(bk,.cells #[sV dv K.2.1 dw,iV K.2.2.1,.int .u64 ((K.2.2.2:Nat):Int)] 74 (0,0))],[(O,.cells #[nS,nS] 25 (0,0))],[(U,.cells #[sV ac Y.2.2.2 ag,sV ec eb ed] 25 (0,0))],ay,ee,[]]) V fN λfO=>?_;obtain⟨fP,fQ,fR⟩:=bs fK;refine C 4 V (Cp fQ V V V ?_);refine C 2 V ?_;obtain rfl:=oi fR;exact AB (dt _ _ (eb,K.2.1,K.2.2.1,K.2.2.2,fP) ⟨fG,ec,ed,ee,dv,dw,V,V,((co.Ad ea).Ad dx),fO,fL,(fA.Ah dx)⟩ bz) V
    ·refine Take.Uk (vs:= [Aj bk 0,iV az.1]) 0 cp (UK dr dZ) V V V (A8 func40 V) V V ?_;rintro _ hZ _ cw ⟨be,bi,rfl,rfl,ef⟩ dy;refine Gl (i:=1) (j:=5) V (by decide+kernel) ?_ ?_
     ·refine Take.y0 (v:= sV a4 ap.1 a5) V V V (λρ h=>Yl.load Hh (h _ _ V) (BY (j:=2) dy V V)) (JG.one (i:=5) V (by decide+kernel) ?_);refine Take.Fb (pp:=Az) [.agg #[iV K.1.1,iV K.1.2.1,iV K.1.2.2]] ([K.1]:Ax) dy V V V underlying23 Bp BQ (by decide) V V V ⟨⟨_,_,V,V,⟨_,_,V,V,V⟩⟩,trivial⟩ λh0 fS fT fU=>Dm [6,7,8] (BE (S':= [[(bk,.cells #[sV be K.2.1 bi,iV K.2.2.1,.int .u64 ((K.2.2.2:Nat):Int)] 74 (0,0))],[(O,.cells #[nS,nS] 25 (0,0))],[(U,.cells #[sV ac Y.2.2.2 ag,sV a4 ap.1 a5] 25 (0,0))],ay,a7,fS]) V fU λfW=>?_);refine Ca 5 fT fW V λfX dz fY fZ=>?_;obtain⟨eg,ga,gb⟩:=bs du;refine I0 (pp:=Az) 4 ga V V V V V V V underlying23 underlying23 Bp (Ds type27) BQ V (by decide) (by decide) (ct.Ah (cw.Ad dz)) fY fZ V λeh ei ej gc gd=>JL.fd underlying25 F3 V V V (BL 2 gd F3 λge=>?_);refine BE (S':= [[(bk,.cells #[sV be K.2.1 bi,iV K.2.2.1,.int .u64 ((K.2.2.2:Nat):Int)] 74 (0,0))],[(O,.cells #[nS,nS] 25 (0,0))],[(U,.cells #[sV ac Y.2.2.2 ag,sV eh eg ei] 25 (0,0))],ay,ej,[]]) V ge λgf=>?_;obtain⟨gg,gh,gi⟩:=bs gb;refine C 4 V (Cp gh V V V ?_);refine C 2 V ?_;obtain rfl:=oi gi;exact AB (dt _ _ (eg,K.2.1,K.2.2.1,K.2.2.2,gg) ⟨fX,eh,ei,ej,be,bi,V,V,((co.Ad cw).Ad dz),gf,gc,(ef.Ah dz)⟩ bz) V
     ·refine Take.Fb (pp:=Az) [.agg #[iV K.1.1,iV K.1.2.1,iV K.1.2.2]] ([K.1]:Ax) dy V V V underlying23 Bp BQ (by decide) V V V ⟨⟨_,_,V,V,⟨_,_,V,V,V⟩⟩,trivial⟩ λh1 gj gk ek=>JG.one (i:=1) V (by decide+kernel) (Take.y0 (v:= sV a4 ap.1 a5) V V V (λρ h=>Yl.load Hh (h _ _ V) (BY (j:=2) ek V V)) ?_);refine Dm [6,7,8] (BE (S':= [[(bk,.cells #[sV be K.2.1 bi,iV K.2.2.1,.int .u64 ((K.2.2.2:Nat):Int)] 74 (0,0))],[(O,.cells #[nS,nS] 25 (0,0))],[(U,.cells #[sV ac Y.2.2.2 ag,sV a4 ap.1 a5] 25 (0,0))],ay,a7,gj]) V ek λgl=>?_);refine Ca 5 gk gl V λgm dA gn gp=>?_;obtain⟨el,gq,gr⟩:=bs du;refine I0 (pp:=Az) 4 gq V V V V V V V underlying23 underlying23 Bp (Ds type27) BQ V (by decide) (by decide) (ct.Ah (cw.Ad dA)) gn gp V λem en eo gt gu=>JL.fd underlying25 F3 V V V (BL 2 gu F3 λgv=>?_);refine BE (S':= [[(bk,.cells #[sV be K.2.1 bi,iV K.2.2.1,.int .u64 ((K.2.2.2:Nat):Int)] 74 (0,0))],[(O,.cells #[nS,nS] 25 (0,0))],[(U,.cells #[sV ac Y.2.2.2 ag,sV em el en] 25 (0,0))],ay,eo,[]]) V gv λgw=>?_;obtain⟨gx,gy,gz⟩:=bs gr;refine C 4 V (Cp gy V V V ?_);refine C 2 V ?_;obtain rfl:=oi gz;exact AB (dt _ _ (el,K.2.1,K.2.2.1,K.2.2.2,gx) ⟨gm,em,en,eo,be,bi,V,V,((co.Ad cw).Ad dA),gw,gt,(ef.Ah dA)⟩ bz) V
   ·refine JL.exit V ?_;obtain rfl:=oi fz;obtain rfl:=fw _ bz;exact AB (fv _ _ ⟨bx,ce,ci,a4,a5,a7,V,V,co,cp,dr,ct⟩) V
 ·intro gA;refine JL.block (CG e3 (λL s Z=>∃(b0:LH) (aq:Ao) (av:Nat) (a0:Seg) (cy:Ao) (c0:Nat),Jn di H b0 [bX bk #[sV cy Z.2.1 c0,iV Z.2.2.1,.int .u64 ((Z.2.2.2.1:Nat):Int)] 74,bX O #[nS,nS] 25,bX U #[sV aq Z.1 av,nS] 25,a0] [(0,Aj bk 0),(2,iV p2),(6,Aj O 0),(7,Aj U 0),(8,iV az.1),(9,.bool b5.1),(10,iV Z.2.2.2.2)] L s (OL 28 (rL rI) b0 aq av a0 Z.1/\Al rI b0 cy c0 Z.2.1)) ⟨di,none,0,[],eY,eZ,V,V,Aw,e1,OL.nil,e0⟩ ?_);rintro _ _ Z ⟨b0,aq,av,a0,cy,c0,rfl,rfl,ep,er,et,eu⟩ gB ⟨h2,dB⟩ gC;have ew:=dB;unfold N3 at ew;refine C 7 V (AU ew (λgD gE=>?_) (λgD gF=>?_))
  ·obtain⟨h3,gG,gH⟩:=bs gE;refine C 11 V (Co 0 (KO eu gG) V V Kq er V ?_);rintro _ dC _ ex ⟨gI,gJ,rfl,rfl,gK⟩ gL;obtain⟨aw,gM,gO⟩:=bs gH;refine C 2 V (Bt (λL s=>∃(c1:LH) (c3:Ao) (c4:Nat) (dD:Seg) (b1:Ao) (b2:Nat),Jn dC H c1 [bX bk #[sV b1 aw.2.1 b2,iV aw.2.2.1,.int .u64 ((aw.2.2.2:Nat):Int)] 74,bX O #[nS,nS] 25,bX U #[sV aq Z.1 av,nS] 25,a0,dD] [(0,Aj bk 0),(2,iV p2),(6,Aj O 0),(7,Aj U 0),(8,iV az.1),(9,.bool b5.1),(10,iV Z.2.2.2.2),(11,sV c3 aw.1 c4)] L s (OL 3 rI c1 c3 c4 dD aw.1/\Al rI c1 b1 b2 aw.2.1)) ?_ ?_)
   ·rintro _ _ ⟨c1,c3,c4,dD,b1,b2,rfl,rfl,ey,ez,gP,gQ⟩;refine JL.region (JL.fd underlying25 Fh V V V ?_);refine Am (v:= sV aq Z.1 av) V (λρ h=>Yl.load Fx (h _ _ V) (BY (j:=2) (off:=0) ez V V)) (C 1 V ?_);refine Ca 4 gP ez V λgR dE gS gT=>BE (S':= [[(bk,.cells #[sV b1 aw.2.1 b2,iV aw.2.2.1,.int .u64 ((aw.2.2.2:Nat):Int)] 74 (0,0))],[(O,.cells #[nS,nS] 25 (0,0))],[(U,.cells #[sV aq Z.1 av,nS] 25 (0,0))],a0,[]]) V gT λgU=>?_;obtain⟨gV,gW,gX⟩:=bs gO;refine JS.app (pp:=(rL rI)) (v:= sV c3 aw.1 c4) (a:=aq) (c:=av) 3 gW V V V V (λ_=>V) V (λ_=>V) V V V underlying22 underlying22 underlying22 EX (Ds type28) K8 V (by decide) (by decide) (by decide) (by decide) (et.Ah ((ex.Ad ey).Ad dE)) ⟨_,_,V,gS⟩ gU V λh4 gY gZ g0 g1 g3=>JL.fd underlying25 Fh V V V (BL 2 g3 Fh λg4=>?_);obtain⟨g5,g6,g7⟩:=bs gX;refine C 4 V (Br g6 V V V ?_);refine C 2 V ?_;obtain rfl:=oi g7;exact AB (gC _ _ (gV,aw.2.1,aw.2.2.1,aw.2.2.2,g5) ⟨gR,gY,gZ,g0,b1,b2,V,V,(((ep.Ad ex).Ad ey).Ad dE),g4,g1,(gQ.Ah dE)⟩ dB) V
   ·intro g8;refine JL.block (CG gM (λL s am=>∃(a8:LH) (a9:Ao) (bb:Nat) (bn:Ao) (bo:Nat) (b3:Seg),Jn dC H a8 [bX bk #[sV a9 am.1 bb,iV am.2.1,.int .u64 ((am.2.2.1:Nat):Int)] 74,bX O #[nS,nS] 25,bX U #[sV aq Z.1 av,nS] 25,a0,b3] [(0,Aj bk 0),(2,iV p2),(6,Aj O 0),(7,Aj U 0),(8,iV az.1),(9,.bool b5.1),(10,iV Z.2.2.2.2),(11,sV bn am.2.2.2.1 bo),(12,iV am.2.2.2.2)] L s (Al rI a8 a9 bb am.1/\OL 3 rI a8 bn bo b3 am.2.2.2.1)) ⟨dC,gI,gJ,none,0,[],V,V,Aw,gL,gK,OL.nil⟩ ?_);rintro _ _ am ⟨a8,a9,bb,bn,bo,b3,rfl,rfl,eA,dF,dG,dH⟩ g9 ⟨h5,dI⟩ ha;have eB:=dI;unfold NQ at eB;refine C 6 V (AU eB (λhb hc=>?_) (λhb hd=>?_))
    ·obtain⟨a6,he,hf⟩:=bs hc;refine C 7 V (Bt (λL s=>∃(b4:LH) (c5:Ao) (c6:Nat) (c7:Seg) (c8:Ao) (c9:Nat),Jn a8 H b4 [bX bk #[sV c8 a6.2.1 c9,iV a6.2.2.1,.int .u64 ((a6.2.2.2:Nat):Int)] 74,bX O #[nS,nS] 25,bX U #[sV aq Z.1 av,nS] 25,a0,c7] [(0,Aj bk 0),(2,iV p2),(6,Aj O 0),(7,Aj U 0),(8,iV az.1),(9,.bool b5.1),(10,iV Z.2.2.2.2),(11,sV c5 a6.1 c6),(12,iV am.2.2.2.2)] L s (OL 3 rI b4 c5 c6 c7 a6.1/\Al rI b4 c8 c9 a6.2.1)) ?_ ?_)
     ·rintro _ _ ⟨b4,c5,c6,c7,c8,c9,rfl,rfl,hg,hj,hk,hl⟩;obtain⟨hm,hn,ho⟩:=bs hf;refine C 3 V (Cp hn V V V ?_);refine C 2 V ?_;obtain rfl:=oi ho;exact AB (ha _ _ (a6.2.1,a6.2.2.1,a6.2.2.2,a6.1,hm) ⟨b4,c8,c9,c5,c6,c7,V,V,(eA.Ad hg),hj,hl,hk⟩ dI) V
     ·intro eC;refine CF he (λhp hq=>?_) (λhp hr=>?_)
      ·obtain⟨h6,hs,ht⟩:=bs hq;refine C 2 V (JS.app (pp:=rI) (v:=iV 1) (a:=bn) (c:=bo) 4 hs V V V V (λ_=>V) V (λ_=>V) V V V underlying28 underlying28 underlying28 AG (Ds type3) CE V (by decide) (by decide) (by decide) (by decide) dH V dF V λh7 hu hv eD hw hx=>?_);refine BE (S':= [[(bk,.cells #[sV a9 am.1 bb,iV am.2.1,.int .u64 ((am.2.2.1:Nat):Int)] 74 (0,0))],[(O,.cells #[nS,nS] 25 (0,0))],[(U,.cells #[sV aq Z.1 av,nS] 25 (0,0))],a0,eD]) V hx λhy=>C 2 V ?_;obtain rfl:=oi ht;exact AB (eC _ _ ⟨a8,hu,hv,eD,a9,bb,V,V,Aw,hy,hw,dG⟩) V
      ·refine C 3 V (FL (pp:=rI) [iV 1,iV 1,iV 2,iV 2,iV 3,iV 5] [1,1,2,2,3,5] V V V underlying28 AG CE (by decide) V V V ⟨V,V,V,V,V,V,trivial⟩ dF λh8 hz hA hB=>?_);refine BE (S':= [[(bk,.cells #[sV a9 am.1 bb,iV am.2.1,.int .u64 ((am.2.2.1:Nat):Int)] 74 (0,0))],[(O,.cells #[nS,nS] 25 (0,0))],[(U,.cells #[sV aq Z.1 av,nS] 25 (0,0))],a0,b3,hz]) V hB λhC=>Ca 5 hA hC V λh9 dJ hD hE=>?_;obtain⟨dd,hF,hG⟩:=bs hr;refine Co 0 (UG (dG.Ah dJ) hD hF) V V (A8 func81 V) hE V ?_;rintro _ hH _ eE ⟨eF,eG,rfl,rfl,hI⟩ hJ;obtain⟨ia,hK,hL⟩:=bs hG;refine JS.app (pp:=rI) (v:=iV dd.1) (a:=bn) (c:=bo) 4 hK V V V V (λ_=>V) V (λ_=>V) V V V underlying28 underlying28 underlying28 AG (Ds type3) CE V (by decide) (by decide) (by decide) (by decide) (dH.Ah (dJ.Ad eE)) V hJ V λic hM hN eH hO hP=>BE (S':= [[(bk,.cells #[sV eF dd.2.1 eG,iV dd.2.2.1,.int .u64 ((dd.2.2.2:Nat):Int)] 74 (0,0))],[(O,.cells #[nS,nS] 25 (0,0))],[(U,.cells #[sV aq Z.1 av,nS] 25 (0,0))],a0,eH,[]]) V hP λhQ=>C 2 V ?_;obtain rfl:=oi hL;exact AB (eC _ _ ⟨hH,hM,hN,eH,eF,eG,V,V,(dJ.Ad eE),hQ,hO,hI⟩) V
    ·refine JL.exit V ?_;obtain rfl:=oi hd;obtain rfl:=g9 _ dI;exact AB (g8 _ _ ⟨a8,bn,bo,b3,a9,bb,V,V,eA,dF,dH,dG⟩) V
  ·refine JL.exit V ?_;obtain rfl:=oi gF;obtain rfl:=gB _ dB;exact AB (gA _ _ ⟨b0,cy,c0,aq,av,a0,V,V,ep,er,eu,et⟩) V
variable {J:Judge Tryz.prog}
variable {J:Judge Tryz.prog}
variable {J:Judge Tryz.prog}
def QF(fu_:Nat)(p0:Ax):Option (Ax):= (C9 ([]:Ax) p0).bind λK=> some K
theorem ZR{a1:Ao}{c2:Nat}{p0:Ax}(Y:Al Az E a1 c2 p0){fu_:Nat}{r:Ax}(K:QF fu_ p0=some r):AO J 69 [sV a1 p0 c2] E [] (λw E' B'=>∃(O:Ao) (U:Nat) (g0:Seg),w= sV O r U/\B'=g0/\OL 27 Az E' O U g0 r):=by
 refine Bj func69 λQ a0 cs H Z ac=>?_;unfold QF at K;refine C 6 V (Np (pp:=Az) V V V underlying23 Bp Z λa2 a3 ag al=>?_);obtain⟨a4,am,ap⟩:=bs K;refine C 1 V (I0 (pp:=Az) 1 am V V V V V V V underlying23 underlying23 Bp (Ds type27) BQ V (by decide) (by decide) ag Y al V λaq av aw ay az=>?_);refine C 2 V ?_;obtain rfl:=oi ap;exact AY func69 V V (ac Aw V ⟨aq,av,aw,V,(by first | rfl | simp | (simp [Value.cells])),ay⟩ az)
variable {J:Judge Tryz.prog}
variable {J:Judge Tryz.prog}
end Pal
namespace Pal
open Go Go.Conc
variable {P:Program}{Q:Gs_}{b:Frame}{n:Nat}{ds:Ld_}{ops:Ao_}{cs:Lf_}{fuel:Nat}{D:Nat->Bool}{listed:Array Bool}{L:Env}{s:St}{E E' H:LH}{S:List Seg}
variable {d:Option Tmp}{t u ty e:TypeId}{p:String}{af:Ae_}{g:On_}{v:Value}{i:Nat}{kd:IntKind}
section
variable {J:Judge P}{k:Li_}{m:Nat}
variable {x y:Operand}
end
open Go.Proofs Go.Proofs.Tryz
variable {J:Judge Tryz.prog}
end Pal
namespace Pal
open Go Go.Conc
variable {P:Program}{d:Option Tmp}{t u ty e:TypeId}{p:String}{af:Ae_}{g:On_}{s:St}{ρ:Operand->Value}
section
variable {x:Operand}
end
open Go.Proofs Go.Proofs.Tryz
variable {E:LH}
variable {J:Judge Tryz.prog}
def f105(fu_:Nat)(p0:A1)(K:Int)(p2:Int):Option Int:= (f48 fu_ p0).bind λO=> if O≠0 then(some O) else((Av ((p0.1.length:Int) - 1)).bind λU=> (f92 fu_ K 0 U).bind λY=> Option.bind (if(!Y)=true then(some true) else((Av ((p0.1.length:Int) - 1)).bind λZ=> (f92 fu_ p2 0 Z).bind λac=> some (!ac))) λag=> if ag=true then(some 3) else(if K=p2 then(some 8) else(some 0)))
def f93(fu_:Nat)(p0:Int)(K:Int):Option Int:= Option.bind (if p0=0 then(some (Sum.inl 2)) else(if p0<K then((Av (1+1)).bind λO=> Option.bind (if p0<K then((Av (O+1)).bind λU=> some U) else(some O)) λY=> some (Sum.inr Y)) else(Option.bind (if p0<K then((Av (1+1)).bind λZ=> some Z) else(some 1)) λac=> some (Sum.inr ac)))) λag=>Sum.elim (λr=>some r) (λal=> some al) ag
theorem b9{p0:Int}{U:Int}{fu_:Nat}{r:Int}(Y:f93 fu_ p0 U=some r):AO J 93 [iV p0,iV U] E [] (λw E' B'=>w=iV r/\B'= []):=by
 refine Bj func93 λQ cp cs H K Z=>?_;unfold f93 at Y;obtain⟨aw,ay,ac⟩:=bs Y;refine C 9 V (Bt (λL s=>∃(O:Int) (ag:LH),aw=Sum.inr O/\Jm E H ag [] [(5,iV O)] L s) ?_ ?_)
 ·rintro _ _ ⟨O,ag,rfl,rfl,rfl,az,a0⟩;have a1:=elim_inr ac;refine C 5 V ?_;obtain rfl:=oi a1;exact AY func93 V V (Z az V ⟨V,V⟩ a0)
 ·intro al;refine C 15 V (AU ay (λa2 a3=>?_) (λa2 a4=>?_))
  ·refine C 6 V ?_;obtain rfl:=oi a3;have a5:=elim_inl ac;obtain rfl:=oi a5;exact AY func93 V V (Z Aw V ⟨V,V⟩ K)
  ·refine C 8 V (AU a4 (λa6 a7=>?_) (λa6 a8=>?_))
   ·obtain⟨ct,a9,bb⟩:=bs a7;refine C 3 V (Br a9 V V V ?_);obtain⟨am,be,bi⟩:=bs bb;refine C 10 V (DZ [] [(4,iV 0),(5,iV am)] (λbn bo bv=>?_) (λap=>?_))
    ·exact JL.exit V (AB (al _ _ ⟨am,bn,(Option.some.inj bi).symm,V,V,bo,bv⟩) V)
    ·refine AU be (λbw bx=>?_) (λbw bz=>?_)
     ·obtain⟨cw,b0,b1⟩:=bs bx;refine C 2 V (Br b0 V V V ?_);refine C 2 V ?_;obtain rfl:=oi b1;exact ap Aw K V
     ·refine JL.skip ?_;obtain rfl:=oi bz;exact ap Aw K V
   ·obtain⟨aq,b2,b3⟩:=bs a8;refine C 9 V (DZ [] [(4,iV 0),(5,iV aq)] (λb4 b5 b6=>?_) (λav=>?_))
    ·exact JL.exit V (AB (al _ _ ⟨aq,b4,(Option.some.inj b3).symm,V,V,b5,b6⟩) V)
    ·refine AU b2 (λca cc=>?_) (λca ce=>?_)
     ·obtain⟨cy,ci,co⟩:=bs cc;refine C 2 V (Br ci V V V ?_);refine C 2 V ?_;obtain rfl:=oi co;exact av Aw K V
     ·refine JL.skip ?_;obtain rfl:=oi ce;exact av Aw K V
def NW(fu_:Nat)(Y:Int)(p2:Int)(O:Ax)(K:Int×Int):Option (Bl (Int×Int) Int):= if K.2<(O.length:Int) then((ix O K.2).bind λU=> Option.bind (if U.1=Y then(some (decide (U.2.1=p2))) else(some false)) λZ=> Option.bind (if Z=true then((Av (K.1+1)).bind λac=> some ac) else(some K.1)) λag=> (Av (K.2+1)).bind λal=> some (.more (ag,al))) else(some (.done K.1))
def Ml(fu_:Nat)(U:Int)(p2:Int)(O:AW)(K:Int×Int):Option (Bl (Int×Int) Int):= if K.2<(O.length:Int) then((ix O K.2).bind λY=> Option.bind (iter (NW fu_ U p2 Y) fu_ (K.1,0)) λZ=> (Av (K.2+1)).bind λac=> some (.more (Z,ac))) else(some (.done K.1))
def f50(fu_:Nat)(p0:A1)(O:Int)(p2:Int):Option (Int×Int):= (f70 fu_ p0 ([O,p2]:List Int)).bind λK=> if K.2≠0 then(some (0,K.2)) else((f71 fu_ K.1 0).bind λU=> Option.bind (iter (Ml fu_ O p2 U) fu_ (0,0)) λY=> (f93 fu_ Y (U.length:Int)).bind λZ=> some (Z,0))
theorem UJ{a1:Ao}{c2:Nat}{a5:Ao}{a6:Nat}{p0:A1}{Y:Int}{p2:Int}(b3:Al (rL rI) E a1 c2 p0.1)(b4:Al Az E a5 a6 p0.2){fu_:Nat}{r:Int×Int}(a7:f50 fu_ p0 Y p2=some r):AO J 50 [.agg #[sV a1 p0.1 c2,sV a5 p0.2 a6],iV Y,iV p2] E [] (λw E' B'=>w= .tuple #[iV r.1,iV r.2]/\B'= []):=by
 refine Bj func50 λQ ez cs H b5 a8=>?_;unfold f50 at a7;refine C 2 V (DJ b5 λeA eB am b6 ca=>?_);refine C 5 V (Cq b6 EF Cv V V ?_);refine C 2 V (FL (pp:=rI) [iV Y,iV p2] [Y,p2] V V V underlying28 AG CE (by decide) V V V ⟨V,V,trivial⟩ ca λeC eD cc ce=>?_);refine Ca 2 cc ce V λeE ap ci co=>?_;obtain⟨eF,cp,ct⟩:=bs a7;refine BZ (KM (b3.Ah (am.Ad ap)) (b4.Ah (am.Ad ap)) ci cp) V V Kr co ?_;rintro _ eG _ a9 ⟨eH,eI,eJ,eK,rfl,rfl,cw,cy⟩ c0;refine C 3 V (BT c0 HK λeL c1=>?_);refine BL 4 c1 DD λc3=>?_;refine DF 4 c3 V λeM aq c4 bb=>C 8 V (AU ct (λc5 c6=>?_) (λc5 c7=>?_))
 ·refine C 6 V ?_;obtain rfl:=oi c6;exact AY func50 V V (a8 (((am.Ad ap).Ad a9).Ad aq) V ⟨V,V⟩ bb)
 ·refine C 3 V (Cq c4 F1 DD V V ?_);obtain⟨K,c8,c9⟩:=bs c7;refine BZ (N9 (cw.Ah aq) (cy.Ah aq) c8) V V MX bb ?_;rintro _ eN al dd ⟨O,U,_,rfl,rfl,di⟩ dj;refine C 10 V (JL.ln underlying83 V V V ?_);obtain⟨dk,dn,dp⟩:=bs c9;refine C 2 V (DZ [al] [(10,sV O K U),(11,iV dk)] (λeO dq dr=>?_) (λdt=>?_))
  ·refine C 4 V (JL.ln underlying83 V V V ?_);obtain⟨eP,du,dv⟩:=bs dp;refine CW (b9 du) V V (A8 func93 V) dr λeQ dw dx=>C 3 V (JS.drop 0 dx V λdy=>?_);obtain rfl:=oi dv;exact AY func50 V V (a8 ((((((am.Ad ap).Ad a9).Ad aq).Ad dd).Ad dq).Ad dw) V ⟨V,V⟩ dy)
  ·refine JL.block (Dv dn (λZ=> [al]) (λZ=> [(1,iV Y),(2,iV p2),(10,sV O K U),(11,iV Z.1),(29,sV O K U),(30,iV (K.length:Int)),(31,iV Z.2)]) Aw dj ?_);rintro Z eR ay az dz ⟨eS,a0⟩ dA;have be:=a0;unfold Ml at be;refine C 5 V (AU be (λdB dC=>?_) (λdB dD=>?_))
   ·obtain⟨ac,dE,dF⟩:=bs dC;refine C 5 V (J1 0 (di.Ah ay) dE V V V V V V underlying83 Bf ?_);rintro eT eU f95 _ dG ⟨av,aw,rfl,dH⟩ dI eV eW eX eY;refine Am (v:= sV av ac aw) V (λρ h=>Yl.load BC (h _ _ V) (BY (j:=0) az dG (dI 0 _ V))) (C 5 V ?_);refine JL.ln underlying80 V V V ?_;obtain⟨bi,dJ,dK⟩:=bs dF;refine C 2 V (DZ [al] [(1,iV Y),(2,iV p2),(10,sV O K U),(11,iV bi),(29,sV O K U),(30,iV (K.length:Int)),(31,iV Z.2)] (λeZ dL dM=>?_) (λdN=>?_))
    ·obtain⟨dO,dQ,dR⟩:=bs dK;refine C 2 V (Br dQ V V V ?_);refine C 2 V ?_;obtain rfl:=oi dR;exact dA (bi,dO) (ay.Ad dL) dM V a0
    ·refine JL.block (Dv dJ (λag=> [al]) (λag=> [(1,iV Y),(2,iV p2),(10,sV O K U),(11,iV ag.1),(29,sV O K U),(30,iV (K.length:Int)),(31,iV Z.2),(35,sV av ac aw),(36,iV (ac.length:Int)),(37,iV ag.2)]) Aw az ?_);rintro ag e0 a2 bn dS ⟨e1,a3⟩ dT;have bo:=a3;unfold NW at bo;refine C 5 V (AU bo (λdU dV=>?_) (λdU dW=>?_))
     ·obtain⟨e3,dX,dY⟩:=bs dV;refine C 5 V (JS.ix (dH.Ah a2) dX underlying80 Bp ?_);rintro e4 e5 _ ⟨_,_,rfl,rfl,⟨_,_,rfl,rfl,rfl⟩⟩ dZ;refine Cq dZ Ek Bp V V (BT bn BQ λe6 ea=>?_);refine BL 1 ea Bp λeb=>?_;refine DF 1 eb V λa4 ec bv bw=>C 3 V (Cb 0 bv underlying27 AG Bc ?_);obtain⟨ed,ee,ef⟩:=bs dY;refine C 3 V (Hk [] (λL s=>∃(bx:LH),Jm a4 H bx [al] [(1,iV Y),(2,iV p2),(10,sV O K U),(11,iV ag.1),(29,sV O K U),(30,iV (K.length:Int)),(31,iV Z.2),(35,sV av ac aw),(36,iV (ac.length:Int)),(37,iV ag.2),(50,.bool ed)] L s) ?_ ?_)
      ·rintro _ _ ⟨bx,rfl,rfl,eg,bz⟩;obtain⟨b0,eh,ei⟩:=bs ef;refine JL.done (DZ [al] [(1,iV Y),(2,iV p2),(10,sV O K U),(11,iV b0),(29,sV O K U),(30,iV (K.length:Int)),(31,iV Z.2),(35,sV av ac aw),(36,iV (ac.length:Int)),(37,iV ag.2)] (λe7 ej ek=>?_) (λb1=>?_))
       ·obtain⟨el,em,en⟩:=bs ei;refine C 2 V (Br em V V V ?_);refine C 2 V ?_;obtain rfl:=oi en;exact dT (b0,el) (((a2.Ad ec).Ad eg).Ad ej) ek V a3
       ·refine CF eh (λeo ep=>?_) (λeo er=>?_)
        ·obtain⟨e8,et,eu⟩:=bs ep;refine C 2 V (Br et V V V ?_);refine C 2 V ?_;obtain rfl:=oi eu;exact b1 Aw bz V
        ·refine JL.skip ?_;obtain rfl:=oi er;exact b1 Aw bz V
      ·intro b2;refine ID 45 ee (λew ex=>?_) (λew ey=>?_)
       ·refine Cb 1 bv underlying27 AG Bc ?_;refine C 3 V ?_;obtain rfl:=oi ex;exact AB (b2 _ _ ⟨a4,V,V,Aw,bw⟩) V
       ·refine C 5 V ?_;obtain rfl:=oi ey;exact AB (b2 _ _ ⟨a4,V,V,Aw,bw⟩) V
     ·refine JL.exit V ?_;obtain rfl:=oi dW;obtain rfl:=dS _ a3;exact dN a2 bn V
   ·refine JL.exit V ?_;obtain rfl:=oi dD;obtain rfl:=dz _ a0;exact dt ay az V
end Pal
set_option autoImplicit false
open Go
namespace Pal
theorem Al.LF{P:Program}{E:LH}{α:Type}{pp:Rp α}{a:Option Addr}{c:Nat}{xs:List α}{xv:α}{K:Int}(U:Al pp E a c xs)(O:ix xs K=some xv):
  ∃bk o ws,pp.r E ws xv/\At E bk o ws/\∀{s:St} {ρ:Operand->Value} {x y:Operand} {d:Option Tmp} {t ty e:TypeId} {p:String} {af:Ae_} {g:On_} {kd:IntKind},
   P.underlying t=some (.slice e)->Bo P e=some pp.n->ρ x= .slice a xs.length c->ρ y= .int kd K->Yl P ⟨d,.indexAddr t x y,ty,p,af,g⟩ ρ s (.pointer (some ⟨bk,o,none⟩)):=by
 obtain⟨K,rfl,O⟩:=F5 O;have Y:K<xs.length:=(List.getElem?_eq_some_iff.1 O).1;obtain⟨av,⟨rfl,_⟩ | ⟨bk,off,rfl,Z⟩⟩:=U
 ·simp at Y
 obtain⟨ws,ac,ag⟩:=Z K xv O;refine⟨bk,off+K*pp.n,ws,ac,ag,λ{s ρ x y d t ty e p af g kd} al am ap aq=>?_⟩;have:=L6 (P:=P) (s:=s) (d:=d) (ty:=ty) (p:=p) (af:=af) (g:=g) al am ap aq ⟨by omega,by omega⟩;rw [Dr rfl] at this;simpa using this
open Go Go.Conc Go.Proofs Go.Proofs.Tryz
variable {E:LH}
variable {J:Judge Tryz.prog}
def NU(fu_:Nat)(Z:Int)(K:(List Int)×Int×Nat×(List Int)×Int):Option (Bl ((List Int)×Int×Nat×(List Int)×Int) ((List Int)×B3)):= if K.2.2.2.2<Z then((f36 fu_ (K.1,K.2.1,K.2.2.1) K.2.2.2.2).bind λO=> (room K.2.2.2.1 K.2.2.2.2).bind λU=> (ix U O.1).bind λY=> (ix U K.2.2.2.2).bind λag=> (ix (U.set (Int.toNat K.2.2.2.2) Y) O.1).bind λal=> (Av (K.2.2.2.2+1)).bind λac=> some (.more (O.2.1,O.2.2.1,O.2.2.2,((U.set (Int.toNat K.2.2.2.2) Y).set (Int.toNat O.1) K.2.2.2.2),ac))) else(some (.done (K.2.2.2.1,K.1,K.2.1,K.2.2.1)))
def f49(fu_:Nat)(p0:B3)(K:Int):Option ((List Int)×(B3)):= Option.bind (iter (NU fu_ K) fu_ (p0.1,p0.2.1,p0.2.2,[],0)) λO=> some O
theorem bA{bk:Nat}{a1:Ao}{c2:Nat}{p0:B3}{ag:Int}(ci:Al rI E a1 c2 p0.1){fu_:Nat}{r:(List Int)×(B3)}(be:f49 fu_ p0 ag=some r):AO J 49 [Aj bk 0,iV ag] E [(bk,.cells #[sV a1 p0.1 c2,iV p0.2.1,.int .u64 ((p0.2.2:Nat):Int)] 74 (0,0))] (λw E' B'=>∃(bi:Ao) (bn:Nat) (bo:Ao) (bv:Nat),w= sV bi r.1 bn/\B'= [(bk,.cells #[sV bo r.2.1 bv,iV r.2.2.1,.int .u64 ((r.2.2.2:Nat):Int)] 74 (0,0))]/\Al rI E' bi bn r.1/\Al rI E' bo bv r.2.1):=by
 refine Bj func49 λQ dS cs H co cp=>?_;unfold f49 at be;obtain⟨al,ct,cw⟩:=bs be;refine C 13 V (Bt (λL s=>∃(ay:LH) (az:Ao) (a0:Nat) (a7:Seg) (a2:Ao) (a3:Nat),Jn E H ay [bX bk #[sV a2 al.2.1 a3,iV al.2.2.1,.int .u64 ((al.2.2.2:Nat):Int)] 74,a7] [(5,sV az al.1 a0)] L s (OL 3 rI ay az a0 a7 al.1/\Al rI ay a2 a3 al.2.1)) ?_ ?_)
 ·rintro _ _ ⟨ay,az,a0,a7,a2,a3,rfl,rfl,cy,c0,c1,c3⟩;refine C 5 V (Ca 1 c1 c0 V λdT bw c4 c5=>?_);obtain rfl:=oi cw;exact AY func49 V V (cp (cy.Ad bw) V ⟨az,a0,a2,a3,V,V,c4,(c3.Ah bw)⟩ c5)
 ·intro c6;refine JL.block (CG ct (λL s K=>∃(am:LH) (a4:Ao) (a5:Nat) (ap:Ao) (aq:Nat) (a6:Seg),Jn E H am [bX bk #[sV a4 K.1 a5,iV K.2.1,.int .u64 ((K.2.2.1:Nat):Int)] 74,a6] [(0,Aj bk 0),(1,iV ag),(5,sV ap K.2.2.2.1 aq),(6,iV K.2.2.2.2)] L s (Al rI am a4 a5 K.1/\OL 3 rI am ap aq a6 K.2.2.2.1)) ⟨E,a1,c2,none,0,[],V,V,Aw,co,ci,OL.nil⟩ ?_);rintro _ _ K ⟨am,a4,a5,ap,aq,a6,rfl,rfl,bx,bz,b0,b1⟩ c7 ⟨dU,a8⟩ c8;have b2:=a8;unfold NU at b2;refine C 7 V (AU b2 (λc9 dd=>?_) (λc9 di=>?_))
  ·obtain⟨U,dj,dk⟩:=bs dd;refine C 7 V (Co 0 (KO b0 dj) V V Kq bz V ?_);rintro _ dn _ b3 ⟨dp,dq,rfl,rfl,dr⟩ dt;obtain⟨Y,du,dv⟩:=bs dk;refine C 6 V (JS.app (pp:=rI) (v:=iV K.2.2.2.2) (a:=ap) (c:=aq) 1 du V V V V (λ_=>V) V (λ_=>V) V V V underlying28 underlying28 underlying28 AG (Ds type3) CE V (by decide) (by decide) (by decide) (by decide) (b1.Ah b3) V dt V λdV Z ac dW b4 b5=>?_);obtain⟨O,dw,dx⟩:=bs dv;refine C 9 V (J1 1 b4 dw V V V V V V underlying28 AG ?_);rintro b6 ca f77 _ dy rfl dz dX dY dZ ea;refine Am (v:=iV O) V (λρ h=>Yl.load Bc (h _ _ V) (BY (j:=1) b5 dy (dz 0 _ V))) ?_;obtain⟨eb,dA,dB⟩:=bs dx;refine C 1 V (J1 1 b4 dA V V V V V V underlying28 AG ?_);rintro cc a9 f88 _ dC rfl ec dD dE ed ee;refine JS.store (v:=iV O) (off:=a9) 1 V V V b5 V V AG (by simp [Value.cells,CX]) dC (by have:=dD;simp only [Rp.n,rK,rN,rB,rP,rL] at this;show _+1<=_;omega) λdF=>?_;have dG:=dE O [iV O] V;have av:(Y.set (Int.toNat K.2.2.2.2) O).length=Y.length:=List.length_set;refine ES (L':= [(0,Aj bk 0),(1,iV ag),(6,iV K.2.2.2.2),(8,iV K.2.2.2.2),(9,iV ag),(10,.bool (decide (K.2.2.2.2<ag))),(13,Aj bk 0),(14,iV K.2.2.2.2),(15,iV U.1),(7,iV U.1),(17,iV K.2.2.2.2),(19,.slice Z ((Y.set (Int.toNat K.2.2.2.2) O)).length ac),(5,.slice Z ((Y.set (Int.toNat K.2.2.2.2) O)).length ac),(20,.slice Z ((Y.set (Int.toNat K.2.2.2.2) O)).length ac),(21,iV K.2.2.2.2),(22,.slice Z ((Y.set (Int.toNat K.2.2.2.2) O)).length ac),(23,iV U.1),(24,.slice Z ((Y.set (Int.toNat K.2.2.2.2) O)).length ac),(25,iV U.1),(26,Aj b6 ca),(27,iV O),(28,iV K.2.2.2.2),(29,Aj cc a9)]) ⟨V,V,V,V,V,V,V,V,V,V,V,by rw [av];rfl,by rw [av];rfl,by rw [av];rfl,V,by rw [av];rfl,V,by rw [av];rfl,V,V,V,V,V,trivial⟩ ?_;obtain⟨ef,dH,dI⟩:=bs dB;refine J1 1 dG dH V V V V V V underlying28 AG ?_;rintro ce bb f102 _ dJ rfl eg dK dL eh ei;refine JS.store (v:=iV K.2.2.2.2) (off:=bb) 1 V V V dF V V AG (by simp [Value.cells,CX]) dJ (by have:=dK;simp only [Rp.n,rK,rN,rB,rP,rL] at this;show _+1<=_;omega) λdM=>?_;have dN:=dL K.2.2.2.2 [iV K.2.2.2.2] V;have aw:((Y.set (Int.toNat K.2.2.2.2) O).set (Int.toNat U.1) K.2.2.2.2).length=((Y.set (Int.toNat K.2.2.2.2) O)).length:=List.length_set;refine ES (L':= [(0,Aj bk 0),(1,iV ag),(6,iV K.2.2.2.2),(8,iV K.2.2.2.2),(9,iV ag),(10,.bool (decide (K.2.2.2.2<ag))),(13,Aj bk 0),(14,iV K.2.2.2.2),(15,iV U.1),(7,iV U.1),(17,iV K.2.2.2.2),(19,.slice Z (((Y.set (Int.toNat K.2.2.2.2) O).set (Int.toNat U.1) K.2.2.2.2)).length ac),(5,.slice Z (((Y.set (Int.toNat K.2.2.2.2) O).set (Int.toNat U.1) K.2.2.2.2)).length ac),(20,.slice Z (((Y.set (Int.toNat K.2.2.2.2) O).set (Int.toNat U.1) K.2.2.2.2)).length ac),(21,iV K.2.2.2.2),(22,.slice Z (((Y.set (Int.toNat K.2.2.2.2) O).set (Int.toNat U.1) K.2.2.2.2)).length ac),(23,iV U.1),(24,.slice Z (((Y.set (Int.toNat K.2.2.2.2) O).set (Int.toNat U.1) K.2.2.2.2)).length ac),(25,iV U.1),(26,Aj b6 ca),(27,iV O),(28,iV K.2.2.2.2),(29,Aj cc a9),(30,Aj ce bb)]) ⟨V,V,V,V,V,V,V,V,V,V,V,by rw [aw];rfl,by rw [aw];rfl,by rw [aw];rfl,V,by rw [aw];rfl,V,by rw [aw];rfl,V,V,V,V,V,V,trivial⟩ ?_;obtain⟨dO,dQ,dR⟩:=bs dI;refine C 4 V (Br dQ V V V ?_);refine C 2 V ?_;obtain rfl:=oi dR;exact AB (c8 _ _ (U.2.1,U.2.2.1,U.2.2.2,((Y.set (Int.toNat K.2.2.2.2) O).set (Int.toNat U.1) K.2.2.2.2),dO) ⟨dn,dp,dq,Z,ac,[(ce,.cells (A2 f102 bb [iV K.2.2.2.2]) 3 (0,0))],V,V,(bx.Ad b3),dM,dr,dN⟩ a8) V
  ·refine JL.exit V ?_;obtain rfl:=oi di;obtain rfl:=c7 _ a8;exact AB (c6 _ _ ⟨am,ap,aq,a6,a4,a5,V,V,bx,bz,b1,b0⟩) V
def To(fu_:Nat)(p0:A6)(K:A6×Int):Option (Bl (A6×Int) (A6)):= if K.2<(p0.length:Int) then((ix p0 K.2).bind λO=> (f104 fu_ O).bind λU=> (ix K.1 K.2).bind λZ=> (Av (K.2+1)).bind λY=> some (.more ((K.1.set (Int.toNat K.2) U),Y))) else(some (.done K.1))
def QE(fu_:Nat)(p0:A6):Option (A6):= (Jz (p0.length:Int) ([]:List Int)).bind λK=> Option.bind (iter (To fu_ p0) fu_ (K,0)) λO=> some O
theorem Z6{a1:Ao}{c2:Nat}{p0:A6}(be:Al (rL rI) E a1 c2 p0){fu_:Nat}{r:A6}(a0:QE fu_ p0=some r):AO J 68 [sV a1 p0 c2] E [] (λw E' B'=>∃(a2:Ao) (a3:Nat) (g0:Seg),w= sV a2 r a3/\B'=g0/\OL 28 (rL rI) E' a2 a3 g0 r):=by
 refine Bj func68 λQ dx cs H bi bn=>?_;unfold QE at a0;refine C 7 V (JL.ln underlying22 V V V ?_);obtain⟨bo,bv,bw⟩:=bs a0;refine JS.make (pp:=(rL rI)) bv V V V V V underlying22 EX (Ds type28) (by decide) K8 (by decide) ⟨_,_,V,Al.nil⟩ bi λbx bz b0 b1=>?_;obtain⟨a4,b2,b3⟩:=bs bw;refine C 7 V (Bt (λL s=>∃(av:LH) (Z:Ao) (ac:Nat) (ag:Seg),Jn E H av [ag] [(3,sV Z a4 ac)] L s (OL 28 (rL rI) av Z ac ag a4)) ?_ ?_)
 ·rintro _ _ ⟨av,Z,ac,ag,rfl,rfl,b4,b5,b6⟩;refine C 5 V ?_;obtain rfl:=oi b3;exact AY func68 V V (bn b4 V ⟨Z,ac,ag,V,(by first | rfl | simp | (simp [Value.cells])),b6⟩ b5)
 ·intro ca;refine JL.block (CG b2 (λL s K=>∃(al:LH) (U:Ao) (Y:Nat) (am:Seg),Jn E H al [am] [(0,sV a1 p0 c2),(3,sV U K.1 Y),(4,iV K.2)] L s (OL 28 (rL rI) al U Y am K.1)) ⟨E,(AP bx),bo.length,bz,V,V,Aw,b1,b0⟩ ?_);rintro _ _ K ⟨al,U,Y,am,rfl,rfl,aw,a5,a6⟩ cc ⟨dy,ay⟩ ce;have a7:=ay;unfold To at a7;refine C 5 V (JL.ln underlying22 V V V ?_);refine C 2 V (AU a7 (λci co=>?_) (λci cp=>?_))
  ·obtain⟨ct,cw,cy⟩:=bs co;refine C 8 V (JS.ix (be.Ah aw) cw underlying22 EX ?_);rintro c0 c1 _ ⟨c3,c4,rfl,c5⟩ c6;refine Da 0 c6 Je V V V ?_;obtain⟨O,c7,c8⟩:=bs cy;refine BZ (Zi c5 c7) V V (A8 func104 V) a5 ?_;rintro _ c9 _ a8 ⟨ap,aq,rfl,rfl,dd⟩ di;obtain⟨dz,dj,dk⟩:=bs c8;refine J1 0 (a6.Ah a8) dj V V V V V V underlying22 EX ?_;rintro a9 az f74 _ dn ⟨dA,dB,rfl,dC⟩ dD dp dq dE dF;refine JS.store (v:= sV ap O aq) (off:=az) 0 V V V di V V EX (by simp [Value.cells,CX]) dn (by have:=dp;simp only [Rp.n,rK,rN,rB,rP,rL] at this;show _+1<=_;omega) λdr=>?_;have dt:=dq O [sV ap O aq] ⟨_,_,V,dd⟩;have bb:(K.1.set (Int.toNat K.2) O).length=K.1.length:=List.length_set;refine ES (L':= [(0,.slice a1 p0.length c2),(3,.slice U ((K.1.set (Int.toNat K.2) O)).length Y),(4,iV K.2),(8,iV K.2),(9,.slice a1 p0.length c2),(10,iV (p0.length:Int)),(11,.bool (decide (K.2<(p0.length:Int)))),(14,.slice U ((K.1.set (Int.toNat K.2) O)).length Y),(15,iV K.2),(16,.slice a1 p0.length c2),(17,iV K.2),(18,Aj c0 c1),(19,.slice c3 ct.length c4),(20,.slice ap O.length aq),(21,Aj a9 az)]) ⟨V,by rw [bb];rfl,V,V,V,V,V,by rw [bb];rfl,V,V,V,V,V,V,V,trivial⟩ ?_;obtain⟨du,dv,dw⟩:=bs dk;refine C 4 V (Br dv V V V ?_);refine C 2 V ?_;obtain rfl:=oi dw;exact AB (ce _ _ ((K.1.set (Int.toNat K.2) O),du) ⟨c9,U,Y,[(a9,.cells (A2 f74 az [sV ap O aq]) 28 (0,0))],V,V,(aw.Ad a8),dr,dt⟩ ay) V
  ·refine JL.exit V ?_;obtain rfl:=oi cp;obtain rfl:=cc _ ay;exact AB (ca _ _ ⟨al,U,Y,am,V,V,aw,a5,a6⟩) V
def OB(fu_:Nat)(p0:A1):Option (A1):= (QE fu_ p0.1).bind λK=> (QF fu_ p0.2).bind λO=> some (K,O)
theorem aL{a1:Ao}{c2:Nat}{am:Ao}{ap:Nat}{p0:A1}(a7:Al (rL rI) E a1 c2 p0.1)(a8:Al Az E am ap p0.2){fu_:Nat}{r:A1}(aq:OB fu_ p0=some r):AO J 21 [.agg #[sV a1 p0.1 c2,sV am p0.2 ap]] E [] (λw E' B'=>∃(av:Ao) (aw:Nat) (ay:Seg) (az:Ao) (a0:Nat) (a2:Seg),w= .agg #[sV av r.1 aw,sV az r.2 a0]/\B'=ay++a2/\OL 28 (rL rI) E' av aw ay r.1/\OL 27 Az E' az a0 a2 r.2):=by
 refine Bj func21 λQ b5 cs H a9 bb=>?_;unfold OB at aq;refine C 2 V (DJ a9 λb6 ca al a3 be=>?_);refine BT be Il λcc bi=>?_;refine C 2 V (Fl 5 λZ=>?_);refine JG.fd 0 Z underlying25 Fh V V V V (Ez 1 Z 0 a3 Fx V V V V ?_);refine JG.fd 3 Z underlying25 F3 V V V V (Ez 4 Z 1 a3 Hh V V V V ?_);obtain⟨ac,bn,bo⟩:=bs aq;refine JG.call (i:=2) (vs:= [sV a1 p0.1 c2]) (Z6 (a7.Ah al) bn) (by decide+kernel) V V V (A8 func68 V) V bi ?_;rintro _ ce bv a4 ⟨K,O,_,rfl,rfl,bw⟩ bx;refine Dm [5,6,7] ?_;obtain⟨ag,bz,b0⟩:=bs bo;refine BZ (ZR (a8.Ah (al.Ad a4)) bz) V V (A8 func69 V) bx ?_;rintro _ ci b1 a5 ⟨U,Y,_,rfl,rfl,b2⟩ b3;refine Am (v:= .agg #[sV K ac O,sV U ag Y]) V (λρ h=>Dd [(0,1),(1,1)] h Il underlying25 ⟨V,AV type22,V,AV type23,trivial⟩ V V) (BL 2 b3 Cv λa6=>?_);refine JL.done ?_;obtain rfl:=oi b0;refine JL.ret (v:= .agg #[sV K ac O,sV U ag Y]) V V (BA.list func21 V (vs:= [.agg #[sV K ac O,sV U ag Y]]) ⟨⟨_,V,Ld.many (vs:= [sV K ac O,sV U ag Y]) EF Cv (Gi (off:=0) 2 a6 V V)⟩,trivial⟩) (Eo 2 a6 V λb4=>?_);exact bb ((al.Ad a4).Ad a5) V ⟨K,O,bv,U,Y,b1,V,(by first | rfl | simp | (simp [Value.cells])),(bw.Ah a5),b2⟩ b4
def Mq(fu_:Nat)(Y:A1×(B3))(O:(List Int)×(B3))(K:A6×Int):Option (Bl (A6×Int) (A6)):= if K.2<(O.1.length:Int) then((ix O.1 K.2).bind λZ=> (ix K.1 Z).bind λal=> (ix O.1 K.2).bind λU=> (ix Y.1.1 K.2).bind λac=> (ix K.1 U).bind λam=> (Av (K.2+1)).bind λag=> some (.more ((K.1.set (Int.toNat U) ac),ag))) else(some (.done K.1))
def Mp(fu_:Nat)(U:A1×(B3))(Y:(List Int)×(B3))(K:Ax×Int):Option (Bl (Ax×Int) (Ax)):= if K.2<(U.1.2.length:Int) then((ix K.1 K.2).bind λaq=> (ix U.1.2 K.2).bind λag=> (ix Y.1 ag.1).bind λZ=> (ix U.1.2 K.2).bind λal=> (ix Y.1 al.2.1).bind λam=> (ix K.1 K.2).bind λO=> (ix (K.1.set (Int.toNat K.2) (Z,O.2.1,O.2.2)) K.2).bind λac=> (Av (K.2+1)).bind λap=> some (.more (((K.1.set (Int.toNat K.2) (Z,O.2.1,O.2.2)).set (Int.toNat K.2) (ac.1,am,ac.2.2)),ap))) else(some (.done K.1))
def NR(fu_:Nat)(ac:A1×(B3))(O:(List Int)×(B3))(ag:A6)(al:Ax)(U:Int)(K:Int):Option (Bl Int ((Bool)⊕(Unit))):= if K<(O.1.length:Int) then(Option.bind (if U=K then(some (Sum.inr ())) else((f50 fu_ ac.1 U K).bind λY=> (ix O.1 U).bind λam=> (ix O.1 K).bind λap=> (f50 fu_ (ag,al) am ap).bind λZ=> Option.bind (if Y.2≠0 then(some true) else(some (decide (Z.2≠0)))) λaq=> Option.bind (if aq=true then(some true) else(some (decide (Y.1≠Z.1)))) λav=> if av=true then(some (Sum.inl false)) else(some (Sum.inr ())))) λaw=>Sum.elim (λr=>some (.done (Sum.inl r))) (λaz=> (Av (K+1)).bind λay=> some (.more ay)) aw) else(some (.done (Sum.inr ())))
def NM(fu_:Nat)(U:A1×(B3))(O:(List Int)×(B3))(Y:A6)(Z:Ax)(K:Int):Option (Bl Int ((Bool)⊕(Unit))):= if K<(O.1.length:Int) then(Option.bind (iter (NR fu_ U O Y Z K) fu_ 0) λac=> Sum.elim (λr=>some (.done (Sum.inl r))) (λal=> (Av (K+1)).bind λag=> some (.more ag)) ac) else(some (.done (Sum.inr ())))
def f11(fu_:Nat)(p0:List Int):Option Bool:= (f20 fu_ p0).bind λap=> (f31 fu_ ap 4 6).bind λK=> (f49 fu_ K.2 (K.1.1.length:Int)).bind λO=> (OB fu_ K.1).bind λZ=> Option.bind (iter (Mq fu_ K O) fu_ (Z.1,0)) λU=> Option.bind (iter (Mp fu_ K O) fu_ (Z.2,0)) λY=> (f22 fu_ K.1).bind λac=> (f22 fu_ (U,Y)).bind λag=> (f24 fu_ K.1).bind λal=> (f24 fu_ (U,Y)).bind λam=> Option.bind (if ac.2≠0 then(some true) else(some (decide (ag.2≠0)))) λaq=> Option.bind (if aq=true then(some true) else(some (decide (al.2≠0)))) λav=> Option.bind (if av=true then(some true) else(some (decide (am.2≠0)))) λaw=> Option.bind (if aw=true then(some true) else(some (decide (al.1≠am.1)))) λay=> Option.bind (if ay=true then(some true) else(some (decide ((ac.1.length:Int)≠(ag.1.length:Int))))) λaz=> if az=true then(some false) else(Option.bind (iter (NM fu_ K O U Y) fu_ 0) λa0=> Sum.elim (λr=>some r) (λa2=> (f18 fu_).bind λa1=> some a1) a0)
set_option maxHeartbeats 4000000 in
theorem Y9{E H:LH}{a1:Ao}{c2:Nat}{p0:List Int}(e4:Al rI E a1 c2 p0){fu_:Nat}{r:Bool}(eg:f11 fu_ p0=some r):(GX Tryz.prog).ok (Mf Tryz.prog (λv _=>v= .bool r)) (G (Frame.enter Tryz.prog 11 ([sV a1 p0 c2]:Lv_).toArray .normal) []) (mk E H []):=by
 refine Wh func11 V V (Nat.le_of_ble_eq_true V) ?_;have e5:Ap E H [[]]:=trivial;unfold f11 at eg;obtain⟨jl,e6,e7⟩:=bs eg;refine C 7 V (BZ (bJ e4 e6) V V (A8 func20 V) e5 ?_);rintro _ jm _ jo ⟨jp,jq,jr,rfl,rfl,e8⟩ e9;obtain⟨dI,fa,fb⟩:=bs e7;refine C 5 V (Co 1 (cI e8 fa) V V (A8 func31 V) e9 V ?_);rintro _ js _ jt ⟨fc,fe,eh,ei,ju,jv,rfl,rfl,c1,co,ff⟩ fg;refine BT fg Il λY fh=>?_;refine BL 2 fh Cv λfj=>?_;refine DF 2 fj V λjw a2 be fk=>C 4 V (Cb 0 be underlying25 Fh Fx ?_);refine JL.ln underlying22 V V V ?_;obtain⟨ay,fl,fm⟩:=bs fb;refine Co 1 (bA (ff.Ah a2) fl) V V (A8 func49 V) fk V ?_;rintro _ jx _ ap ⟨az,a0,jy,jz,rfl,rfl,c3,jA⟩ fo;refine C 4 V (Cq (be.Ah ap) EF Cv V V ?_);obtain⟨dJ,fp,fq⟩:=bs fm;refine BZ (aL (c1.Ah (a2.Ad ap)) (co.Ah (a2.Ad ap)) fp) V V (A8 func21 V) fo ?_;rintro _ dK _ ac ⟨fs,fu,fv,di,dj,dk,rfl,rfl,fw,fx⟩ fy;refine Gk 3 V fy λfz=>BT fz Il λK fA=>?_;refine BL 5 fA Cv λfB=>?_;obtain⟨Z,fC,fD⟩:=bs fq;refine C 6 V (Bt (λL s=>∃(cp:LH) (ag:Ao) (al:Nat) (ct:Seg),Jn dK H cp [dk,bX K #[sV ag Z al,sV di dJ.2 dj] 25,ct] [(4,Aj Y 0),(5,sV az ay.1 a0),(6,Aj K 0)] L s (OL 28 (rL rI) cp ag al ct Z)) ?_ ?_)
 ·rintro _ _ ⟨cp,ag,al,ct,rfl,rfl,aq,fE,fF⟩;obtain⟨am,fG,fH⟩:=bs fD;refine C 5 V (Bt (λL s=>∃(dL:LH) (av:Ao) (aw:Nat) (dM:Seg),Jn cp H dL [bX K #[sV ag Z al,sV av am aw] 25,ct,dM] [(4,Aj Y 0),(5,sV az ay.1 a0),(6,Aj K 0)] L s (OL 27 Az dL av aw dM am)) ?_ ?_)
  ·rintro _ _ ⟨dL,av,aw,dM,rfl,rfl,a3,fI,fJ⟩;refine C 2 V (Cq (be.Ah (((ap.Ad ac).Ad aq).Ad a3)) EF Cv V V ?_);obtain⟨dn,fK,fL⟩:=bs fH;refine BZ (Qr (c1.Ah ((((a2.Ad ap).Ad ac).Ad aq).Ad a3)) (co.Ah ((((a2.Ad ap).Ad ac).Ad aq).Ad a3)) fK) V V OU fI ?_;rintro _ jB _ a7 ⟨dp,dq,rfl,rfl,jC⟩ ej;refine C 8 V (Am V (λρ h=>HQ (vs:= [sV ag Z al,sV av am aw]) EF Cv (h _ _ V) (Gi (off:=0) 0 ej V V)) ?_);refine Ca 1 (fF.Ah (a3.Ad a7)) ej V λjD bi dN fM=>Ca 2 (fJ.Ah (a7.Ad bi)) fM V λjE a5 dO fN=>?_;obtain⟨dr,fO,fP⟩:=bs fL;refine BZ (Qr (p0:=(Z,am)) (dN.Ah a5) dO fO) V V OU fN ?_;rintro _ jF _ a4 ⟨dt,du,rfl,rfl,jG⟩ fQ;refine C 8 V (Cq (be.Ah (((((((ap.Ad ac).Ad aq).Ad a3).Ad a7).Ad bi).Ad a5).Ad a4)) EF Cv V V ?_);obtain⟨dv,fR,fS⟩:=bs fP;refine CW (Qq (c1.Ah ((((((((a2.Ad ap).Ad ac).Ad aq).Ad a3).Ad a7).Ad bi).Ad a5).Ad a4)) (co.Ah ((((((((a2.Ad ap).Ad ac).Ad aq).Ad a3).Ad a7).Ad bi).Ad a5).Ad a4)) fR) V V OT fQ λjH bn ek=>C 8 V (Am V (λρ h=>HQ (vs:= [sV ag Z al,sV av am aw]) EF Cv (h _ _ V) (Gi (off:=0) 0 ek V V)) ?_);obtain⟨c4,fT,fU⟩:=bs fS;refine CW (Qq (p0:=(Z,am)) (dN.Ah ((a5.Ad a4).Ad bn)) (dO.Ah (a4.Ad bn)) fT) V V OT ek λjI b4 el=>?_;obtain⟨fW,fX,fY⟩:=bs fU;refine C 12 V (Fj 6 20 [bX K #[sV ag Z al,sV av am aw] 25] [(4,Aj Y 0),(5,sV az ay.1 a0),(6,Aj K 0),(9,sV dp dn.1 dq),(11,sV dt dr.1 du),(13,iV dv.1),(14,iV dv.2),(15,iV c4.1),(16,iV c4.2),(112,.bool fW)] (λjJ b5 em=>?_) (λen=>?_))
   ·obtain⟨fZ,ga,gb⟩:=bs fY;refine C 1 V (Fj 10 16 [bX K #[sV ag Z al,sV av am aw] 25] [(4,Aj Y 0),(5,sV az ay.1 a0),(6,Aj K 0),(9,sV dp dn.1 dq),(11,sV dt dr.1 du),(13,iV dv.1),(15,iV c4.1),(16,iV c4.2),(116,.bool fZ)] (λjK b6 eo=>?_) (λep=>?_))
    ·obtain⟨gc,gd,ge⟩:=bs gb;refine C 1 V (Fj 14 12 [bX K #[sV ag Z al,sV av am aw] 25] [(4,Aj Y 0),(5,sV az ay.1 a0),(6,Aj K 0),(9,sV dp dn.1 dq),(11,sV dt dr.1 du),(13,iV dv.1),(15,iV c4.1),(120,.bool gc)] (λjL ca er=>?_) (λet=>?_))
     ·obtain⟨gf,gg,gh⟩:=bs ge;refine C 1 V (Fj 19 7 [bX K #[sV ag Z al,sV av am aw] 25] [(4,Aj Y 0),(5,sV az ay.1 a0),(6,Aj K 0),(9,sV dp dn.1 dq),(11,sV dt dr.1 du),(125,.bool gf)] (λdQ cc eu=>?_) (λew=>?_))
      ·obtain⟨gi,gj,gk⟩:=bs gh;refine C 1 V (Hk [] (λL s=>∃(dR:LH),Jm dQ H dR [bX K #[sV ag Z al,sV av am aw] 25] [(4,Aj Y 0),(5,sV az ay.1 a0),(6,Aj K 0),(132,.bool gi)] L s) ?_ ?_)
       ·rintro _ _ ⟨dR,rfl,rfl,ce,ex⟩;refine JL.done (CF gk (λgl gm=>?_) (λgl gn=>?_))
        ·refine C 4 V (JS.drop 0 ex V λjM=>?_);obtain rfl:=oi gm;exact Ip V (JO.end (v:= .bool false) V (by decide+kernel) func11 V V V)
        ·obtain⟨ey,gp,ez⟩:=bs gn;refine C 6 V (Bt (λL s=>∃(eA:Unit) (eB:LH),ey=Sum.inr eA/\Jm dR H eB [] [] L s) ?_ ?_)
         ·rintro _ _ ⟨eA,eB,rfl,rfl,rfl,jN,gq⟩;have gr:=elim_inr ez;obtain⟨gt,gu,gv⟩:=bs gr;refine C 2 V (CW (bP gu) V V (A8 func18 V) gq λjO jP jQ=>?_);refine C 2 V ?_;obtain rfl:=oi gv;exact Ip V (JO.end (v:= .bool gt) V (by decide+kernel) func11 V V V)
         ·intro gw;refine JL.block (Dv gp (λb0=> [bX K #[sV ag Z al,sV av am aw] 25]) (λb0=> [(4,Aj Y 0),(5,sV az ay.1 a0),(6,Aj K 0),(17,iV b0)]) Aw ex ?_);rintro b0 eC bo eD eE ⟨jR,dw⟩ gx;have eF:=dw;unfold NM at eF;refine C 5 V (JL.ln underlying28 V V V ?_);refine C 2 V (AU eF (λgy gz=>?_) (λgy gA=>?_))
          ·obtain⟨eG,gB,eH⟩:=bs gz;refine C 7 V (Bt (λL s=>∃(eI:Unit) (eJ:LH),eG=Sum.inr eI/\Jm eC H eJ [bX K #[sV ag Z al,sV av am aw] 25] [(4,Aj Y 0),(5,sV az ay.1 a0),(6,Aj K 0),(17,iV b0)] L s) ?_ ?_)
           ·rintro _ _ ⟨eI,eJ,rfl,rfl,rfl,gC,gD⟩;have gE:=elim_inr eH;obtain⟨gF,gG,gH⟩:=bs gE;refine C 3 V (Br gG V V V ?_);refine C 2 V ?_;obtain rfl:=oi gH;exact gx gF (bo.Ad gC) gD V dw
           ·intro gI;refine JL.block (Dv gB (λcw=> [bX K #[sV ag Z al,sV av am aw] 25]) (λcw=> [(4,Aj Y 0),(5,sV az ay.1 a0),(6,Aj K 0),(17,iV b0),(18,iV cw)]) Aw eD ?_);rintro cw dS bv dT eK ⟨jS,dx⟩ gJ;have eL:=dx;unfold NR at eL;refine C 5 V (JL.ln underlying28 V V V ?_);refine C 2 V (AU eL (λgK gL=>?_) (λgK gM=>?_))
            ·obtain⟨gO,gP,eM⟩:=bs gL;refine C 2 V (Bt (λL s=>∃(eN:Unit) (eO:LH),gO=Sum.inr eN/\Jm dS H eO [bX K #[sV ag Z al,sV av am aw] 25] [(4,Aj Y 0),(5,sV az ay.1 a0),(6,Aj K 0),(17,iV b0),(18,iV cw)] L s) ?_ ?_)
             ·rintro _ _ ⟨eN,eO,rfl,rfl,rfl,gQ,gR⟩;have gS:=elim_inr eM;obtain⟨gT,gU,gV⟩:=bs gS;refine C 2 V (Br gU V V V ?_);refine C 2 V ?_;obtain rfl:=oi gV;exact gJ gT (bv.Ad gQ) gR V dx
             ·intro eP;refine C 8 V (AU gP (λgW gX=>?_) (λgW gY=>?_))
              ·exact JL.exit V (AB (eP _ _ ⟨(),dS,(Option.some.inj gX).symm,V,V,Aw,dT⟩) V)
              ·refine C 3 V (Cq (be.Ah ((((((((((((((((ap.Ad ac).Ad aq).Ad a3).Ad a7).Ad bi).Ad a5).Ad a4).Ad bn).Ad b4).Ad b5).Ad b6).Ad ca).Ad cc).Ad ce).Ad bo).Ad bv)) EF Cv V V ?_);obtain⟨gZ,g0,g1⟩:=bs gY;refine C 2 V (CW (UJ (c1.Ah (((((((((((((((((a2.Ad ap).Ad ac).Ad aq).Ad a3).Ad a7).Ad bi).Ad a5).Ad a4).Ad bn).Ad b4).Ad b5).Ad b6).Ad ca).Ad cc).Ad ce).Ad bo).Ad bv)) (co.Ah (((((((((((((((((a2.Ad ap).Ad ac).Ad aq).Ad a3).Ad a7).Ad bi).Ad a5).Ad a4).Ad bn).Ad b4).Ad b5).Ad b6).Ad ca).Ad cc).Ad ce).Ad bo).Ad bv)) g0) V V (A8 func50 V) dT λjT c5 c6=>?_);refine C 7 V (Fp 14 [K] ⟨⟨0,_,V⟩,trivial⟩ c6 λb1=>?_);refine AS 0 b1 V V (λρ h s' O=>HQ (vs:= [sV ag Z al,sV av am aw]) EF Cv (h _ _ V) (WA (o:=0) 0 c6 V (by simp [AA]) O V)) (Ba b1 V [1,2] V ?_);obtain⟨g3,g4,g5⟩:=bs g1;refine Fo 3 (c3.Ah ((((((((((((((((ac.Ad aq).Ad a3).Ad a7).Ad bi).Ad a5).Ad a4).Ad bn).Ad b4).Ad b5).Ad b6).Ad ca).Ad cc).Ad ce).Ad bo).Ad bv).Ad c5)) g4 b1 underlying28 AG ?_;rintro jU jV _ rfl g6;refine JG.lp 4 b1 0 g6 c6 ⟨⟨0,_,V⟩,trivial⟩ Bc ?_;refine Ba b1 V [5,6] V ?_;obtain⟨g7,g8,g9⟩:=bs g5;refine Fo 7 (c3.Ah ((((((((((((((((ac.Ad aq).Ad a3).Ad a7).Ad bi).Ad a5).Ad a4).Ad bn).Ad b4).Ad b5).Ad b6).Ad ca).Ad cc).Ad ce).Ad bo).Ad bv).Ad c5)) g8 b1 underlying28 AG ?_;rintro jW jX _ rfl ha;refine JG.lp 8 b1 0 ha c6 ⟨⟨0,_,V⟩,trivial⟩ Bc ?_;obtain⟨hb,hc,hd⟩:=bs g9;refine XZ (i:=9) ⟨⟨0,_,V⟩,trivial⟩ (vs:= [.agg #[sV ag Z al,sV av am aw],iV g3,iV g7]) (UJ (p0:=(Z,am)) (dN.Ah (((((((((((a5.Ad a4).Ad bn).Ad b4).Ad b5).Ad b6).Ad ca).Ad cc).Ad ce).Ad bo).Ad bv).Ad c5)) (dO.Ah ((((((((((a4.Ad bn).Ad b4).Ad b5).Ad b6).Ad ca).Ad cc).Ad ce).Ad bo).Ad bv).Ad c5)) hc) (by decide+kernel) V V V (A8 func50 V) V c6 ?_;rintro _ jY _ he ⟨rfl,rfl⟩ eQ;refine Ba b1 V [10,11,12,13] V (Dm [14] ?_);obtain⟨hf,hg,hj⟩:=bs hd;refine C 7 V (Fj 6 5 [bX K #[sV ag Z al,sV av am aw] 25] [(4,Aj Y 0),(5,sV az ay.1 a0),(6,Aj K 0),(17,iV b0),(18,iV cw),(19,iV gZ.1),(21,iV hb.1),(173,.bool hf)] (λdU hk eR=>?_) (λeS=>?_))
               ·obtain⟨hl,hm,hn⟩:=bs hj;refine C 1 V (Hk [] (λL s=>∃(dV:LH),Jm dU H dV [bX K #[sV ag Z al,sV av am aw] 25] [(4,Aj Y 0),(5,sV az ay.1 a0),(6,Aj K 0),(17,iV b0),(18,iV cw),(178,.bool hl)] L s) ?_ ?_)
                ·rintro _ _ ⟨dV,rfl,rfl,ho,eT⟩;refine JL.done (CF hn (λhp hq=>?_) (λhp hr=>?_))
                 ·refine C 4 V (JS.drop 0 eT V λjZ=>?_);obtain rfl:=oi hq;have hs:=elim_inl eM;obtain rfl:=oi hs;obtain rfl:=eK _ dx;have ht:=elim_inl eH;obtain rfl:=oi ht;obtain rfl:=eE _ dw;have hu:=elim_inl ez;obtain rfl:=oi hu;exact Ip V (JO.end (v:= .bool false) V (by decide+kernel) func11 V V V)
                 ·exact C 2 V (AB (eP _ _ ⟨(),dV,(Option.some.inj hr).symm,V,V,(((c5.Ad he).Ad hk).Ad ho),eT⟩) V)
                ·intro eU;refine EI 174 hm (λhv hw=>?_) (λhv hx=>?_)
                 ·refine C 4 V ?_;obtain rfl:=oi hw;exact AB (eU _ _ ⟨dU,V,V,Aw,eR⟩) V
                 ·refine C 4 V ?_;obtain rfl:=oi hx;exact AB (eU _ _ ⟨dU,V,V,Aw,eR⟩) V
               ·refine ID 170 hg (λhy hz=>?_) (λhy hA=>?_)
                ·refine C 3 V ?_;obtain rfl:=oi hz;exact eS Aw eQ V
                ·refine C 3 V ?_;obtain rfl:=oi hA;exact eS Aw eQ V
            ·refine JL.exit V ?_;obtain rfl:=oi gM;have hB:eG=(Sum.inr ()):=(eK _ dx).symm;exact AB (gI _ _ ⟨(),dS,hB,V,V,bv,dT⟩) V
          ·refine JL.exit V (JS.drop 0 eD V λhC=>?_);obtain rfl:=oi gA;have hD:ey=(Sum.inr ()):=(eE _ dw).symm;exact AB (gw _ _ ⟨(),eC,hD,V,V,bo,hC⟩) V
       ·intro eV;refine EI 126 gj (λhE hF=>?_) (λhE hG=>?_)
        ·refine C 6 V ?_;obtain rfl:=oi hF;exact AB (eV _ _ ⟨dQ,V,V,Aw,eu⟩) V
        ·refine C 1 V (JL.ln underlying23 V V V ?_);refine C 1 V (JL.ln underlying23 V V V ?_);refine C 2 V ?_;obtain rfl:=oi hG;exact AB (eV _ _ ⟨dQ,V,V,Aw,eu⟩) V
      ·refine EI 121 gg (λhH hI=>?_) (λhH hJ=>?_)
       ·refine C 4 V ?_;obtain rfl:=oi hI;exact ew Aw er V
       ·refine C 4 V ?_;obtain rfl:=oi hJ;exact ew Aw er V
     ·refine EI 117 gd (λhK hL=>?_) (λhK hM=>?_)
      ·refine C 3 V ?_;obtain rfl:=oi hL;exact et Aw eo V
      ·refine C 3 V ?_;obtain rfl:=oi hM;exact et Aw eo V
    ·refine EI 113 ga (λhN hO=>?_) (λhN hP=>?_)
     ·refine C 3 V ?_;obtain rfl:=oi hO;exact ep Aw em V
     ·refine C 3 V ?_;obtain rfl:=oi hP;exact ep Aw em V
   ·refine ID 109 fX (λhQ hR=>?_) (λhQ hS=>?_)
    ·refine C 3 V ?_;obtain rfl:=oi hR;exact en Aw el V
    ·refine C 3 V ?_;obtain rfl:=oi hS;exact en Aw el V
  ·intro hT;refine JL.block (JS.swap 0 1 V V V fE λhU=>?_);refine JS.swap 1 2 V V V hU λhV=>CG fG (λL s U=>∃(c7:LH) (dy:Ao) (b2:Nat) (dz:Seg),Jn cp H c7 [bX K #[sV ag Z al,sV dy U.1 b2] 25,ct,dz] [(4,Aj Y 0),(5,sV az ay.1 a0),(6,Aj K 0),(8,iV U.2)] L s (OL 27 Az c7 dy b2 dz U.1)) ⟨cp,di,dj,dk,V,V,Aw,hV,(fx.Ah aq)⟩ ?_;rintro _ _ U ⟨c7,dy,b2,dz,rfl,rfl,bw,dA,eW⟩ hW ⟨j0,dW⟩ hX;have eX:=dW;unfold Mp at eX;refine C 4 V (Cb 1 (be.Ah (((ap.Ad ac).Ad aq).Ad bw)) underlying25 F3 Hh ?_);refine JL.ln underlying23 V V V (C 2 V ?_);refine AU eX (λhY hZ=>?_) (λhY h0=>?_)
   ·obtain⟨j1,h1,h2⟩:=bs hZ;refine C 3 V ?_;obtain⟨a6,eY,h3,c8⟩:=WL.of eW h1;obtain⟨rfl,rfl⟩:=h3;refine HS [26,29] [a6] [K] mixed V (EU (v:= Aj K 1) 0 true V V (λρ h s' O=>Fz (a:=⟨K,0,none⟩) 0 1 underlying25 F3 V V V (h _ _ V)) ?_);refine NC (v:= .slice (AP a6) U.1.length b2) 1 V (by decide+kernel) V V V (λρ h s' O=>Yl.load Hh (h _ _ V) (B8 (o:=1) 0 dA V (by simp [AA]) O V)) (Bi 2 V V ?_);refine EU (v:= Aj K 1) 3 true V V (λρ h s' O=>Fz (a:=⟨K,0,none⟩) 0 1 underlying25 F3 V V V (h _ _ V)) (NC (v:= .slice (AP a6) U.1.length b2) 4 V (by decide+kernel) V V V (λρ h s' O=>Yl.load Hh (h _ _ V) (B8 (o:=1) 0 dA V (by simp [AA]) O V)) ?_);refine Bi 5 V V (Bi 6 V V ?_);refine EU (v:= Aj Y 1) 7 true V V (λρ h s' O=>Fz (a:=⟨Y,0,none⟩) 0 1 underlying25 F3 V V V (h _ _ V)) (Ju (v:= sV eh dI.1.2 ei) 8 V (by decide+kernel) V V V (λρ h s' O=>Yl.load Hh (h _ _ V) (At.H3 (j:=1) (be.Ah (((ap.Ad ac).Ad aq).Ad bw)) O V)) ?_);refine Bi 9 V V ?_;obtain⟨h4,h5,h6⟩:=bs h2;obtain⟨dX,dY,_,⟨_,_,rfl,rfl,⟨_,_,rfl,rfl,rfl⟩⟩,h7,h8⟩:=Al.LF (P:=Tryz.prog) (co.Ah ((((a2.Ad ap).Ad ac).Ad aq).Ad bw)) h5;refine JB.val (v:= Aj dX dY) 10 true V (by decide+kernel) V V V (λρ h s' O=>h8 underlying23 Bp (h _ _ V) (h _ _ V)) (EU (v:= Aj dX dY) 11 true V V (λρ h s' O=>Fz (a:=⟨dX,dY,none⟩) 0 0 underlying27 AG V V V (h _ _ V)) ?_);refine Ju (v:=iV h4.1) 12 V (by decide+kernel) V V V (λρ h s' O=>Yl.load Bc (h _ _ V) (At.H3 (j:=0) h7 O V)) ?_;obtain⟨bx,h9,ia⟩:=bs h6;obtain⟨ic,ie,_,rfl,ig,ih⟩:=Al.LF (P:=Tryz.prog) (c3.Ah ((ac.Ad aq).Ad bw)) h9;refine JB.val (v:= Aj ic ie) 13 true V (by decide+kernel) V V V (λρ h s' O=>ih underlying28 AG (h _ _ V) (h _ _ V)) (Ju (v:=iV bx) 14 V (by decide+kernel) V V V (λρ h s' O=>Yl.load Bc (h _ _ V) (At.H3 (j:=0) ig O V)) ?_);refine Bi 15 V V (EU (v:= Aj Y 1) 16 true V V (λρ h s' O=>Fz (a:=⟨Y,0,none⟩) 0 1 underlying25 F3 V V V (h _ _ V)) ?_);refine Ju (v:= sV eh dI.1.2 ei) 17 V (by decide+kernel) V V V (λρ h s' O=>Yl.load Hh (h _ _ V) (At.H3 (j:=1) (be.Ah (((ap.Ad ac).Ad aq).Ad bw)) O V)) (Bi 18 V V ?_);obtain⟨ii,ij,ik⟩:=bs ia;obtain⟨dZ,ea,_,⟨_,_,rfl,rfl,⟨_,_,rfl,rfl,rfl⟩⟩,il,io⟩:=Al.LF (P:=Tryz.prog) (co.Ah ((((a2.Ad ap).Ad ac).Ad aq).Ad bw)) ij;refine JB.val (v:= Aj dZ ea) 19 true V (by decide+kernel) V V V (λρ h s' O=>io underlying23 Bp (h _ _ V) (h _ _ V)) (EU (v:= Aj dZ (ea+1)) 20 true V V (λρ h s' O=>Fz (a:=⟨dZ,ea,none⟩) 0 1 underlying27 AG V V V (h _ _ V)) ?_);refine Ju (v:=iV ii.2.1) 21 V (by decide+kernel) V V V (λρ h s' O=>Yl.load Bc (h _ _ V) (At.H3 (j:=1) il O V)) ?_;obtain⟨bz,iq,ir⟩:=bs ik;obtain⟨iu,iv,_,rfl,iw,iy⟩:=Al.LF (P:=Tryz.prog) (c3.Ah ((ac.Ad aq).Ad bw)) iq;refine JB.val (v:= Aj iu iv) 22 true V (by decide+kernel) V V V (λρ h s' O=>iy underlying28 AG (h _ _ V) (h _ _ V)) (Ju (v:=iV bz) 23 V (by decide+kernel) V V V (λρ h s' O=>Yl.load Bc (h _ _ V) (At.H3 (j:=0) iw O V)) ?_);obtain⟨a8,dB,iz⟩:=bs ir;obtain⟨_,⟨_,_,rfl,rfl,⟨_,_,rfl,rfl,rfl⟩⟩,iA⟩:=WL.at c8 dB;refine JB.ix 24 c8.2 dB underlying23 Bp ?_;refine EU (v:= .pointer (some ⟨a6,Int.toNat (U.2)*3,none⟩)) 25 true V V (λρ h s' O=>Fz (a:=⟨a6,Int.toNat (U.2)*3,none⟩) 0 0 underlying27 AG V V V (h _ _ V)) ?_;have dC:=WL.part (x':=(bx,a8.2.1,a8.2.2)) (ws':= [iV bx,iV a8.2.1,iV a8.2.2]) (us:= [iV bx]) 0 c8 c8.2 dB ⟨_,_,V,V,⟨_,_,V,V,V⟩⟩ iA V V;refine EH 26 2 dA AG ⟨⟨0,_,V,V⟩,trivial⟩ dC.2 λiB=>?_;refine JB.ix 27 c8.2 dB underlying23 Bp ?_;refine EU (v:= .pointer (some ⟨a6,Int.toNat (U.2)*3+1,none⟩)) 28 true V V (λρ h s' O=>Fz (a:=⟨a6,Int.toNat (U.2)*3,none⟩) 0 1 underlying27 AG V V V (h _ _ V)) ?_;obtain⟨a9,eZ,iC⟩:=bs iz;obtain⟨_,⟨_,_,rfl,rfl,⟨_,_,rfl,rfl,rfl⟩⟩,iD⟩:=WL.at dC.1 eZ;have eb:=WL.part (x':=(a9.1,bz,a9.2.2)) (ws':= [iV a9.1,iV bz,iV a9.2.2]) (us:= [iV bz]) 1 dC.1 (dC.1).2 eZ ⟨_,_,V,V,⟨_,_,V,V,V⟩⟩ iD V V;refine EH 29 2 iB AG ⟨⟨0,_,V,V⟩,trivial⟩ eb.2 λiE=>?_;refine JB.fin (by decide+kernel) ?_;have iF:=(eb.1).1;have iG:(((U.1.set (Int.toNat U.2) (bx,a8.2.1,a8.2.2)).set (Int.toNat U.2) (a9.1,bz,a9.2.2))).length=U.1.length:=(eb.1).2;refine BE (S':= [[(K,.cells #[.slice ag Z.length al,.slice (AP a6) (((U.1.set (Int.toNat U.2) (bx,a8.2.1,a8.2.2)).set (Int.toNat U.2) (a9.1,bz,a9.2.2))).length b2] 25 (0,0))],ct,[(a6,.cells (A2 (A2 eY (Int.toNat (U.2)*3) [iV bx]) (Int.toNat (U.2)*3+1) [iV bz]) 27 (0,0))]]) (by rw [iG] <;> rfl) iE λiH=>Ec [(4,Aj Y 0),(5,sV az ay.1 a0),(6,Aj K 0),(8,iV U.2)] V ?_;obtain⟨iI,iJ,iK⟩:=bs iC;refine C 3 V (Br iJ V V V ?_);refine C 2 V ?_;obtain rfl:=oi iK;exact AB (hX _ _ (((U.1.set (Int.toNat U.2) (bx,a8.2.1,a8.2.2)).set (Int.toNat U.2) (a9.1,bz,a9.2.2)),iI) ⟨c7,(AP a6),b2,[(a6,.cells (A2 (A2 eY (Int.toNat (U.2)*3) [iV bx]) (Int.toNat (U.2)*3+1) [iV bz]) 27 (0,0))],V,V,bw,iH,iF⟩ dW) V
   ·refine JL.exit V ?_;obtain rfl:=oi h0;obtain rfl:=hW _ dW;exact AB (hT _ _ ⟨c7,dy,b2,dz,V,V,bw,dA,eW⟩) V
 ·intro iL;refine JL.block (JS.drop 1 fB V λiM=>?_);refine JS.swap 3 4 V V V iM λiN=>JS.swap 4 5 V V V iN λiO=>CG fC (λL s bb=>∃(c9:LH) (dD:Ao) (ci:Nat) (dE:Seg),Jn dK H c9 [dk,bX K #[sV dD bb.1 ci,sV di dJ.2 dj] 25,dE] [(4,Aj Y 0),(5,sV az ay.1 a0),(6,Aj K 0),(7,iV bb.2)] L s (OL 28 (rL rI) c9 dD ci dE bb.1)) ⟨dK,fs,fu,fv,V,V,Aw,iO,fw⟩ ?_;rintro _ _ bb ⟨c9,dD,ci,dE,rfl,rfl,dd,ec,e0⟩ iP ⟨j2,ed⟩ iQ;have e1:=ed;unfold Mq at e1;refine C 5 V (JL.ln underlying28 V V V ?_);refine C 2 V (AU e1 (λiR iS=>?_) (λiR iT=>?_))
  ·obtain⟨j3,j4,iU⟩:=bs iS;obtain⟨j5,iW,iX⟩:=bs iU;refine C 3 V ?_;obtain⟨cy,e3,iY,dF⟩:=WL.of e0 iW;obtain⟨rfl,rfl⟩:=iY;refine HS [12] [cy] [K] mixed V (EU (v:= Aj K 0) 0 true V V (λρ h s' O=>Fz (a:=⟨K,0,none⟩) 0 0 underlying25 Fh V V V (h _ _ V)) ?_);refine NC (v:= .slice (AP cy) bb.1.length ci) 1 V (by decide+kernel) V V V (λρ h s' O=>Yl.load Fx (h _ _ V) (B8 (o:=0) 1 ec V (by simp [AA]) O V)) (Bi 2 V V ?_);refine Bi 3 V V ?_;obtain⟨c0,iZ,i0⟩:=bs iX;obtain⟨i1,i3,_,rfl,i4,i5⟩:=Al.LF (P:=Tryz.prog) (c3.Ah (ac.Ad dd)) iZ;refine JB.val (v:= Aj i1 i3) 4 true V (by decide+kernel) V V V (λρ h s' O=>i5 underlying28 AG (h _ _ V) (h _ _ V)) (Ju (v:=iV c0) 5 V (by decide+kernel) V V V (λρ h s' O=>Yl.load Bc (h _ _ V) (At.H3 (j:=0) i4 O V)) ?_);refine EU (v:= Aj Y 0) 6 true V V (λρ h s' O=>Fz (a:=⟨Y,0,none⟩) 0 0 underlying25 Fh V V V (h _ _ V)) (Ju (v:= sV fc dI.1.1 fe) 7 V (by decide+kernel) V V V (λρ h s' O=>Yl.load Fx (h _ _ V) (At.H3 (j:=0) (be.Ah ((ap.Ad ac).Ad dd)) O V)) ?_);refine Bi 8 V V ?_;obtain⟨b3,i6,i7⟩:=bs i0;obtain⟨i8,i9,_,⟨dG,dH,rfl,ja⟩,jb,jc⟩:=Al.LF (P:=Tryz.prog) (c1.Ah (((a2.Ad ap).Ad ac).Ad dd)) i6;refine JB.val (v:= Aj i8 i9) 9 true V (by decide+kernel) V V V (λρ h s' O=>jc underlying22 EX (h _ _ V) (h _ _ V)) (Ju (v:= sV dG b3 dH) 10 V (by decide+kernel) V V V (λρ h s' O=>Yl.load Je (h _ _ V) (At.H3 (j:=0) jb O V)) ?_);obtain⟨j6,ee,jd⟩:=bs i7;obtain⟨_,⟨j7,j8,rfl,j9⟩,kb⟩:=WL.at dF ee;refine JB.ix 11 dF.2 ee underlying22 EX ?_;have ef:=WL.put (x':=b3) (ws':= [sV dG b3 dH]) dF dF.2 ee ⟨_,_,V,ja⟩;refine EH 12 2 ec EX ⟨⟨1,_,V,V⟩,trivial⟩ ef.2 λje=>?_;refine JB.fin (by decide+kernel) ?_;have jf:=(ef.1).1;have jg:((bb.1.set (Int.toNat c0) b3)).length=bb.1.length:=(ef.1).2;refine BE (S':= [dk,[(K,.cells #[.slice (AP cy) ((bb.1.set (Int.toNat c0) b3)).length ci,.slice di dJ.2.length dj] 25 (0,0))],[(cy,.cells (A2 e3 (Int.toNat (c0)*1) [.slice dG b3.length dH]) 28 (0,0))]]) (by rw [jg] <;> rfl) je λjh=>Ec [(4,Aj Y 0),(5,sV az ay.1 a0),(6,Aj K 0),(7,iV bb.2)] V ?_;obtain⟨ji,jj,jk⟩:=bs jd;refine C 3 V (Br jj V V V ?_);refine C 2 V ?_;obtain rfl:=oi jk;exact AB (iQ _ _ ((bb.1.set (Int.toNat c0) b3),ji) ⟨c9,(AP cy),ci,[(cy,.cells (A2 e3 (Int.toNat (c0)*1) [sV dG b3 dH]) 28 (0,0))],V,V,dd,jh,jf⟩ ed) V
  ·refine JL.exit V ?_;obtain rfl:=oi iT;obtain rfl:=iP _ ed;exact AB (iL _ _ ⟨c9,dD,ci,dE,V,V,dd,ec,e0⟩) V
end Pal
namespace Pal
def BM{α:Type}(o:Option α)(Q:α->Prop):Prop:=∃a,o=some a/\Q a
variable {α β:Type}{Q R:α->Prop}
theorem Ay{a:α}(h:Q a):BM (some a) Q:=⟨a,V,h⟩
theorem BM.Ah{o:Option α}(h:BM o R)(k:∀a,R a->Q a):BM o Q:=let ⟨a,K,O⟩:=h;⟨a,K,k a O⟩
theorem Bu{o:Option β}{f:β->Option α}{S:β->Prop}(h:BM o S)(k:∀b,S b->BM (f b) Q):BM (o.bind f) Q:=by
 obtain⟨b,rfl,hb⟩:=h;obtain⟨a,K,O⟩:=k b hb;exact⟨a,K,O⟩
theorem Bq{o:Option β}{f:β->Option α}{b:β}(h:o=some b)(k:BM (f b) Q):BM (o.bind f) Q:=by subst h;exact k
theorem BM.db{f:Int->Option α}{x:Int}(K: -9223372036854775808<=x)(O:x<=9223372036854775807)(k:BM (f x) Q):BM ((Av x).bind f) Q:=Bq (if_pos ⟨K,O⟩) k
theorem FM{xs:List β}{i:Int}{m:Nat}{b:β}(h:i=(m:Int))(hb:xs[m]? =some b):ix xs i=some b:=by subst h;simpa [ix] using hb
theorem C7{f:β->Option α}{xs:List β}{i:Int}{m:Nat}(h:i=(m:Int))(hm:m<xs.length)(k:BM (f xs[m]) Q):BM ((ix xs i).bind f) Q:=Bq (FM h (List.getElem?_eq_getElem hm)) k
theorem La{f:List β->Option α}{xs:List β}{x:β}(h:xs.length+1<=2 ^ 40)(k:BM (f (xs++ [x])) Q):BM ((room xs x).bind f) Q:=Bq (if_pos h) k
theorem Cn{c:Prop} [Decidable c] {x y:Option α}(K:c->BM x Q)(O:¬c->BM y Q):BM (if c then x else y) Q:=by
 by_cases h:c
 ·rw [if_pos h];exact K h
 ·rw [if_neg h];exact O h
theorem CK{c:Prop} [Decidable c] {x y:Option α}(h:c)(k:BM x Q):BM (if c then x else y) Q:=by rw [if_pos h];exact k
theorem BV{c:Prop} [Decidable c] {x y:Option α}(h:¬c)(k:BM y Q):BM (if c then x else y) Q:=by rw [if_neg h];exact k
def Bl.sat{S A:Type}(I:S->Prop)(Q:A->Prop):Bl S A->Prop
 | .more s=>I s
 | .done a=>Q a
theorem PC{S:Type}{body:S->Option (Bl S α)}(I:Nat->S->Prop)(round:∀m s,I m s->BM (body s) (Bl.sat (λs'=>∃m',m'<m/\I m' s') Q)):
  ∀{m fuel:Nat} {s:S},I m s->m<fuel->BM (iter body fuel s) Q:=by
 intro m
 induction m using Nat.strongRecOn with
 | _ m O=>
  intro fuel s U ag;obtain⟨fuel,rfl⟩:∃k,fuel=k+1:=⟨fuel - 1,by omega⟩;obtain⟨st,Y,K⟩:=round m s U;unfold Pal.iter;rw [Y];cases st with
  | more s'=>
   obtain⟨m',Z,ac⟩:=K;exact O m' Z ac (by omega)
  | done a=>exact⟨a,rfl,K⟩
theorem DX{S A:Type}{body:S->Option (Bl S A)}{Q:A->Prop}{K:S}{F:Nat}(n:Nat)(I:Nat->S->Prop)(Y:I 0 K)(ac:n<F)
  (round:∀i s,i<n->I i s->BM (body s) (Bl.sat (I (i+1)) Q)) (last:∀s,I n s->BM (body s) (λst=>∃a,st= .done a/\Q a)):BM (Pal.iter body F K) Q:=by
 refine PC (λm s=>∃i,i<=n/\m=n - i/\I i s) ?_ (m:=n - 0) ⟨0,Nat.zero_le _,V,Y⟩ (by omega);rintro m s ⟨i,hi,rfl,O⟩;rcases Nat.lt_or_ge i n with Z | ag
 ·refine(round i s Z O).Ah ?_;intro st U;cases st with
  | more s'=>exact⟨n - (i+1),by omega,i+1,by omega,rfl,U⟩
  | done a=>exact U
 ·obtain rfl:i=n:=by omega
  refine(last s O).Ah ?_;rintro st ⟨a,rfl,h⟩;exact h
theorem El{α:Type}{o:Option α}{a:α}(h:BM o (λx=>x=a)):o=some a:=by obtain⟨x,K,rfl⟩:=h;exact K
theorem BB{α:Type}{Q:α->Prop}{f:Int->Option α}{x:Int}(y:Int)(h:x=y)(K: -9223372036854775808<=y)(O:y<=9223372036854775807)(k:BM (f y) Q):BM ((Av x).bind f) Q:=by subst h;exact BM.db K O k
theorem BM.OC{α β:Type}{Q:α->Prop}{f:List β->Option α}{xs ys:List β}(h:xs.length+ys.length<1000)(k:BM (f (xs++ys)) Q):BM ((C9 xs ys).bind f) Q:=Bq (by unfold C9;rw [if_pos (by omega)]) k
abbrev H9:=List Int×Int×Nat
def BG(k:Nat)(b:H9):Prop:=0<=b.2.1/\b.2.1<=(k:Int)
theorem BG.Ah{k k':Nat}{b:H9}(h:BG k b)(K:k<=k'):BG k' b:=⟨h.1,by have:=h.2;omega⟩
theorem Z4{F k:Nat}{b:H9}(hb:BG k b)(K:k<1000000):BM (f83 F b) (λr=>r.1<2 ^ 64/\BG (k+1) r.2):=by
 obtain⟨O,U⟩:=hb;unfold f83;refine BB (b.2.1+1) V (by omega) (by omega) ?_;have key:∀x:Nat,(x % 2 ^ 64)>>>11<2 ^ 64:=λx=>Nat.lt_of_le_of_lt (Nat.shiftRight_le _ _) (Nat.mod_lt _ (Nat.two_pow_pos 64));refine Bu (S:=λ_=>True) ?_ ?_
 ·refine Cn (λh=>?_) (λh=>?_)
  ·refine BB b.2.1 (by omega) (by omega) (by omega) (C7 (m:=b.2.1.toNat) (by omega) (by omega) ?_);exact Ay trivial
  ·exact Ay trivial
 ·intro x _;exact Ay ⟨key _,by simp only;omega,by simp only;omega⟩
theorem Ws{a:Nat}(h:a<2 ^ 62):MF a=(a:Int):=by
 unfold MF;exact JW (by omega)
theorem KH{F k:Nat}{b:H9}{m:Int}(hb:BG k b)(O:k<1000000)(hm:m<1000000):BM (f36 F b m) (λr=>0<=r.1/\(r.1<=m∨r.1=0)/\BG (k+1) r.2):=by
 unfold f36;refine Bu (Z4 hb O) ?_;rintro⟨x,b'⟩ ⟨Z,K⟩;refine Cn (λh=>?_) (λh=>?_)
 ·exact Ay ⟨by simp,.inr V,K⟩
 ·have U:CY m=m.toNat:=by unfold CY;omega
  have e2:(CY m+1) % 2 ^ 64=m.toNat+1:=by rw [U];omega
  have Y:x % (m.toNat+1)<m.toNat+1:=Nat.mod_lt _ (by omega);refine Bq (b:=x % (m.toNat+1)) (by rw [e2];unfold Oa;rw [if_neg (by omega)]) ?_;refine Ay ?_;simp only;generalize x % (m.toNat+1)=z at Y ⊢;rw [Ws (by omega)];exact⟨by omega,.inl (by omega),K⟩
theorem Qe{F k:Nat}{b:H9}{lo hi:Int}(hb:BG k b)(O:k<1000000)(Y:0<=lo)(Z:lo<=hi)(ac:hi<1000):BM (f37 F b lo hi) (λr=>lo<=r.1/\r.1<=hi/\BG (k+1) r.2):=by
 unfold f37;refine BB (hi - lo) V (by omega) (by omega) (Bu (KH hb O (by omega)) ?_);rintro⟨x,b'⟩ ⟨U,g2,K⟩;simp only at U g2 K ⊢;exact BB (lo+x) V (by omega) (by omega) (Ay ⟨by simp only;omega,by simp only;omega,K⟩)
theorem ZS{F k:Nat}{b:H9}{m:Int}(hb:BG k b)(K:k<1000000)(U:1<=m)(Y:m<1000):BM (f32 F b m) (λr=>BG (k+1) r.2):=by
 unfold f32;refine BB (m - 1) V (by omega) (by omega) (Bu (KH hb K (by omega)) ?_);rintro⟨x,b'⟩ ⟨Z,g2,O⟩;exact Ay O
theorem Ud{F k:Nat}{b:H9}{l:List Int}(hb:BG k b)(U:k<1000000)(Z:0<l.length)(ac:l.length<1000):BM (f81 F b l) (λr=>r.1∈l/\BG (k+1) r.2):=by
 unfold f81;refine BB ((l.length - 1:Nat):Int) (by omega) (by omega) (by omega) (Bu (KH hb U (by omega)) ?_);rintro⟨x,b'⟩ ⟨Y,g2,K⟩;simp only at Y g2 K ⊢;have O:x.toNat<l.length:=by omega
 exact C7 (m:=x.toNat) (by omega) O (Ay ⟨List.getElem_mem O,K⟩)
abbrev DT:=Int×Int×Int
abbrev OW:=A6×List DT
structure NV (n:Nat) (o:OW):Prop where
 l1:o.1.length<=n
 n1:∀x∈o.1,x.length<=n
 l2:o.2.length<=n
theorem an{F:Nat}{l:A6}(ag:100<F)(al:l.length<=40)(U:∀x∈l,x.length<=40):f68 F l=some l:=by
 refine El ?_;unfold f68;refine Bq (b:=List.replicate l.length []) ?_ ?_
 ·unfold Jz;rw [if_pos (by omega)];rfl
 refine Bu (S:=λr=>r=l) ?_ (λr Y=>Ay Y);refine DX l.length (λi s=>s.2=(i:Int)/\s.1=l.take i++List.replicate (l.length - i) []) ⟨V,by simp⟩ (by omega) ?_ ?_
 ·rintro i ⟨o,c⟩ hi ⟨K,O⟩;simp only at K O;subst K;subst O;unfold P9;refine CK (by simp only;omega) (C7 (m:=i) V hi ?_);refine Bq (b:=l[i]) ?_ ?_
  ·unfold f104;have:C9 ([]:List Int) l[i]=some l[i]:=by unfold C9;rw [if_pos (by have:=U _ (List.getElem_mem hi);simp;omega)];rfl
   rw [this];rfl
  have Z:(l.take i).length=i:=by rw [List.length_take];omega
  refine C7 (m:=i) V (by simp;omega) (BB ((i+1:Nat):Int) (by simp) (by omega) (by omega) ?_);refine Ay ⟨V,?_⟩;simp only;rw [show Int.toNat (i:Int)=i by omega,List.set_append,if_neg (by omega),Z,Nat.sub_self];obtain⟨k,ac⟩:∃k,l.length - i=k+1:=⟨l.length - i - 1,by omega⟩;rw [ac,List.replicate_succ,List.set_cons_zero,List.take_add_one,List.getElem?_eq_getElem hi,show l.length - (i+1)=k by omega];simp only [Option.toList_some,List.append_assoc,List.cons_append,List.nil_append]
 ·rintro⟨o,c⟩ ⟨K,O⟩;simp only at K O;subst K;subst O;unfold P9;exact BV (by simp) (Ay ⟨_,V,by simp⟩)
theorem aE{F:Nat}{o:OW}(O:100<F)(K:NV 40 o):f21 F o=some o:=by
 unfold f21;have U:=K.l2;rw [an O K.l1 K.n1,Option.bind_some];unfold f69;have:C9 ([]:List DT) o.2=some o.2:=by unfold C9;rw [if_pos (by simp;omega)];rfl
 rw [this];rfl
theorem Jv(F:Nat)(a lo hi:Int):f92 F a lo hi=some (decide (lo<=a/\a<=hi)):=by
 unfold f92;by_cases h:lo<=a
 ·rw [if_pos h];simp [h]
 ·rw [if_neg h];simp [h]
theorem ZJ(F:Nat)(a lo hi:Int):f91 F a lo hi=some (decide (lo<=a/\a<=hi)):=Jv F a lo hi
theorem XY{F:Nat}{o:OW}{i:Int}{l:List Int}(h:ix o.1 i=some l):NN F l=Ms F o i:=by
 funext j;unfold NN Ms;rw [h];rfl
theorem Xm(F:Nat)(o:OW):N7 F o=Mr F o:=by
 funext i;unfold N7 Mr;split
 ·rcases h:ix o.1 i with _ | l
  ·rfl
  ·simp only [Option.bind_some];rw [XY h]
 ·rfl
theorem P1(F:Nat)(o:OW):f47 F o=f48 F o:=by
 unfold f47 f48;rw [Xm];rfl
def VD(n:Nat)(d:DT):Prop:=0<=d.1/\d.1<(n:Int)/\0<=d.2.1/\d.2.1<(n:Int)/\d.1≠d.2.1/\1<=d.2.2/\d.2.2<=9
def CS(x:List Int):Prop:=x.length<=3/\∀c∈x,1<=c/\c<=9
structure VO (o:OW):Prop where
 n2:2<=o.1.length
 n5:o.1.length<=5
 cs:∀x∈o.1,CS x
 d8:o.2.length<=8
 ds:∀d∈o.2,VD o.1.length d
theorem VO.nv{o:OW}(h:VO o):NV 40 o:=⟨by have:=h.n5;omega,λx K=>by have:=(h.cs x K).1;omega,by have:=h.d8;omega⟩
theorem PV{α:Type}{P:α->Prop}{l:List α}{i:Nat}(hi:i<l.length)(h:∀x∈l.take i,P x)(k:P l[i]):∀x∈l.take (i+1),P x:=by
 intro x K;rw [List.take_add_one,List.getElem?_eq_getElem hi] at K;simp only [Option.toList_some,List.mem_append,List.mem_singleton] at K;rcases K with K | rfl
 ·exact h x K
 ·exact k
theorem bj{F:Nat}{d:DT}{n:Nat}(Y:n<1000):BM (f88 F (n:Int) d 9) (λr=>r=0↔VD n d):=by
 unfold f88;refine BB ((n:Int) - 1) V (by omega) (by omega) (Bq (Jv _ _ _ _) ?_);refine Bu (S:=λc=>c=true↔¬((0<=d.1/\d.1<(n:Int))/\0<=d.2.1/\d.2.1<(n:Int))) ?_ ?_
 ·refine Cn (λh=>Ay ?_) (λh=>?_)
  ·simp at h;simp;omega
  ·refine BB ((n:Int) - 1) V (by omega) (by omega) (Bq (Jv _ _ _ _) ?_);refine Ay ?_;simp at h;simp;omega
 ·intro c O;refine Cn (λh=>Ay ?_) (λh=>?_)
  ·have:=O.1 h;unfold VD;constructor
   ·intro h;cases h
   ·intro h;omega
  have Z:¬¬_:=λk=>h (O.2 k);refine Cn (λU=>Ay ?_) (λU=>?_)
  ·unfold VD;constructor
   ·intro h;cases h
   ·intro h;omega
  refine Bq (Jv _ _ _ _) (Cn (λK=>Ay ?_) (λK=>Ay ?_))
  ·simp at K;unfold VD;constructor
   ·intro h;cases h
   ·intro h;omega
  ·simp at K;unfold VD;constructor
   ·intro h;omega
   ·intro h;rfl
theorem T8{F:Nat}{o:OW}(Z:100<F)(h:NV 40 o):BM (f48 F o) (λr=>r=0↔VO o):=by
 unfold f48;have ac:=h.l1;have ag:=h.l2;refine Cn (λg=>Ay (iff_of_false (by decide) λv=>by have:=v.n2;omega)) (λal=>?_);refine Cn (λg=>Ay (iff_of_false (by decide) λv=>by have:=v.n5;omega)) (λg2=>?_);refine Bu (S:=λq=>(∃e,q=Sum.inl e/\e≠0/\¬∀x∈o.1,CS x)∨(q=Sum.inr ()/\∀x∈o.1,CS x)) ?_ ?_
 ·refine DX o.1.length (λi s=>s=(i:Int)/\∀x∈o.1.take i,CS x) ⟨V,by simp⟩ (by omega) ?_ ?_
  ·rintro i s hi ⟨rfl,K⟩;unfold Mr;refine CK (by omega) (C7 (m:=i) V hi ?_);have am:=h.n1 _ (List.getElem_mem hi);refine Cn (λg=>Ay (.inl ⟨_,V,by decide,λk=>by have:=(k _ (List.getElem_mem hi)).1;omega⟩)) (λap=>?_);refine Bu (S:=λq=>(q=Sum.inl 1/\¬CS o.1[i])∨(q=Sum.inr ()/\CS o.1[i])) ?_ ?_
   ·refine DX o.1[i].length (λj s=>s=(j:Int)/\∀c∈o.1[i].take j,1<=c/\c<=9) ⟨V,by simp⟩ (by omega) ?_ ?_
    ·rintro j s U ⟨rfl,O⟩;unfold Ms;refine C7 (m:=i) V hi (CK (by omega) ?_);refine C7 (m:=i) V hi (C7 (m:=j) V U ?_);refine Bq (Jv _ _ _ _) (Cn (λg=>Ay (.inl ⟨V,λk=>?_⟩)) (λg=>?_))
     ·have:=k.2 _ (List.getElem_mem U);simp at g;omega
     refine BB ((j+1:Nat):Int) (by simp) (by omega) (by omega) (Ay ⟨V,PV U O ?_⟩);simpa using g
    ·rintro s ⟨rfl,O⟩;unfold Ms;refine C7 (m:=i) V hi ?_;rw [List.take_length] at O;exact BV (by omega) (Ay ⟨_,V,.inr ⟨V,by omega,O⟩⟩)
   ·rintro q (⟨rfl,g⟩ | ⟨rfl,g⟩)
    ·rw [Sum.elim_inl];exact Ay (.inl ⟨_,V,by decide,λk=>g (k _ (List.getElem_mem hi))⟩)
    ·rw [Sum.elim_inr];exact BB ((i+1:Nat):Int) (by simp) (by omega) (by omega) (Ay ⟨V,PV hi K g⟩)
  ·rintro s ⟨rfl,K⟩;unfold Mr;rw [List.take_length] at K;exact BV (by omega) (Ay ⟨_,V,.inr ⟨V,K⟩⟩)
 ·rintro q (⟨e,rfl,he,g⟩ | ⟨rfl,O⟩)
  ·rw [Sum.elim_inl];exact Ay (iff_of_false he λv=>g v.cs)
  ·rw [Sum.elim_inr];refine Cn (λg=>Ay (iff_of_false (by decide) λv=>by have:=v.d8;omega)) (λg2=>?_);refine Bu (S:=λq=>(∃e,q=Sum.inl e/\e≠0/\¬∀d∈o.2,VD o.1.length d)∨(q=Sum.inr ()/\∀d∈o.2,VD o.1.length d)) ?_ ?_
   ·refine DX o.2.length (λi s=>s=(i:Int)/\∀d∈o.2.take i,VD o.1.length d) ⟨V,by simp⟩ (by omega) ?_ ?_
    ·rintro i s hi ⟨rfl,K⟩;unfold Qh;refine CK (by omega) (C7 (m:=i) V hi ?_);refine Bu (bj (by omega)) ?_;intro x Y;refine Cn (λg=>Ay (.inl ⟨_,V,g,λk=>g (Y.2 (k _ (List.getElem_mem hi)))⟩)) (λg=>?_);exact BB ((i+1:Nat):Int) (by simp) (by omega) (by omega) (Ay ⟨V,PV hi K (Y.1 (Decidable.not_not.1 g))⟩)
    ·rintro s ⟨rfl,K⟩;unfold Qh;rw [List.take_length] at K;exact BV (by omega) (Ay ⟨_,V,.inr ⟨V,K⟩⟩)
   ·rintro q (⟨e,rfl,he,g⟩ | ⟨rfl,g⟩)
    ·rw [Sum.elim_inl];exact Ay (iff_of_false he λv=>g v.ds)
    ·rw [Sum.elim_inr];exact Ay (iff_of_true V ⟨by omega,by omega,O,by omega,g⟩)
theorem aK{F:Nat}{o:OW}(K:100<F)(h:NV 40 o):BM (f47 F o) (λr=>r=0↔VO o):=P1 F o▸T8 K h
theorem Uv{F:Nat}{o:OW}(K:100<F)(h:VO o):f47 F o=some 0:=by
 obtain⟨r,O,U⟩:=aK K h.nv;rw [O,U.2 h]
theorem UF{F:Nat}{o:OW}(K:100<F)(h:VO o):f70 F o []=some (o,0):=by
 obtain⟨F,rfl⟩:∃k,F=k+1:=⟨F - 1,by omega⟩;unfold f70;rw [Uv K h]
 rfl
theorem XB(a n:Int):a % n=(a - n) % n:=by
 have h:a=(a - n)+n*1:=by omega
 conv=>lhs;rw [h]
 exact Int.add_mul_emod_self_left _ _ _
theorem aX{F k n:Nat}{b:H9}(hb:BG k b)(av:k<900000)(aw:2<=n)(ay:n<900):BM (f40 F b (n:Int)) (λr=>VD n r.1/\BG (k+4) r.2):=by
 unfold f40;refine BB ((n:Int) - 1) V (by omega) (by omega) (Bu (KH hb (by omega) (by omega)) ?_);rintro⟨x,az⟩ ⟨O,g2,U⟩;simp only at O g2 U ⊢;refine Bu (Qe U (by omega) (by omega) (by omega) (by omega)) ?_;rintro⟨x2,a0⟩ ⟨a1,am,Y⟩;simp only at a1 am Y ⊢;refine Bu (Ud Y (by omega) (by simp) (by simp)) ?_;rintro⟨Z,a2⟩ ⟨ac,ag⟩;simp only at ac ag ⊢;refine BB ((n:Int) - 1) V (by omega) (by omega) (Bu (Qe ag (by omega) (by omega) (by omega) (by omega)) ?_);rintro⟨K,a3⟩ ⟨ap,aq,al⟩;simp only at ap aq al ⊢;refine BB (x+K) V (by omega) (by omega) (Bq (b:=(x+K).tmod n) (by unfold Oo;rw [if_neg (by omega)]) ?_);refine Ay ⟨?_,al⟩;have e:(x+K).tmod n=(x+K) % n:=Int.tmod_eq_emod_of_nonneg (by omega);have p3:1<=Z/\Z<=9:=by
  simp only [List.mem_cons,List.not_mem_nil,or_false] at ac;omega
 have a4:(x+K) % (n:Int)<n:=Int.emod_lt_of_pos _ (by omega);have a5:0<=(x+K) % (n:Int):=Int.emod_nonneg _ (by omega);have a6:x≠(x+K) % (n:Int):=by
  rcases Int.lt_or_le (x+K) n with h | h
  ·rw [Int.emod_eq_of_lt (by omega) h];omega
  ·rw [XB,Int.emod_eq_of_lt (by omega) (by omega)];omega
 refine⟨O,?_,?_,?_,?_,p3.1,p3.2⟩ <;> simp only [e] <;> omega
theorem Z5{F k:Nat}{b:H9}{pm dm:Nat}(a7:100<F)(hb:BG k b)(a8:k<1000)(a9:2<=pm)(bb:pm<=5)(hd:dm<=8):BM (f31 F b pm dm) (λr=>VO r.1/\r.1.1.length<=pm/\r.1.2.length<=dm/\BG (k+100) r.2):=by
 unfold f31;refine Bu (Qe hb (by omega) (by omega) (by omega) (by omega)) ?_;rintro⟨n,be⟩ ⟨n1,n2,ay⟩;simp only at n1 n2 ay ⊢;obtain⟨n,rfl⟩:∃m:Nat,n=(m:Int):=⟨n.toNat,by omega⟩;refine Bu (ZS ay (by omega) (by omega) (by omega)) ?_;rintro⟨bi,bn⟩ g2;simp only at g2 ⊢;refine Bu (S:=λr=>r.2.2.2.length=n/\(∀x∈r.2.2.2,CS x)/\BG (k+30) (r.1,r.2.1,r.2.2.1)) ?_ ?_
 ·refine DX n (λi s=>s.2.2.2.2=(i:Int)/\s.1.length=i/\(∀x∈s.1,CS x)/\BG (k+2+5*i) (s.2.1,s.2.2.1,s.2.2.2.1)) ⟨V,V,by simp,g2⟩ (by omega) ?_ ?_
  ·rintro i ⟨az,l,t,ag,c⟩ hi ⟨al,am,ap,K⟩;simp only at al am ap K;subst al;unfold N3;refine CK (by simp only;omega) (Bu (KH K (by omega) (by omega)) ?_);rintro⟨c,bo⟩ ⟨c1,c2,aq⟩;simp only at c1 c2 aq ⊢;obtain⟨c,rfl⟩:∃m:Nat,c=(m:Int):=⟨c.toNat,by omega⟩;refine Bu (S:=λr=>CS r.1/\BG (k+2+5*i+1+c) r.2) ?_ ?_
   ·refine DX c (λj s=>s.2.2.2.2=((c - j:Nat):Int)/\s.2.2.2.1.length=j/\(∀v∈s.2.2.2.1,1<=v/\v<=9)/\BG (k+2+5*i+1+j) (s.1,s.2.1,s.2.2.1)) ⟨V,V,by simp,aq⟩ (by omega) ?_ ?_
    ·rintro j ⟨l,t,ag,w,z⟩ a5 ⟨U,hw,O,K⟩;simp only at U hw O K;subst U;unfold NQ;refine CK (by simp only;omega) (Bu (S:=λr=>r.1.length=j+1/\(∀v∈r.1,1<=v/\v<=9)/\BG (k+2+5*i+1+(j+1)) r.2) ?_ ?_)
     ·refine Cn (λ_=>?_) (λ_=>?_)
      ·refine La (by simp only;omega) (Ay ⟨by simp [hw],?_,K.Ah (by omega)⟩);intro v h;rcases List.mem_append.1 h with h | h
       ·exact O v h
       ·have:=List.mem_singleton.1 h;omega
      ·refine Bu (Ud K (by omega) (by simp) (by simp)) ?_;rintro⟨v,a6⟩ ⟨a0,av⟩;simp only at a0 av ⊢;refine La (by omega) (Ay ⟨by simp [hw],?_,av⟩);intro u h;rcases List.mem_append.1 h with h | h
       ·exact O u h
       ·have:=List.mem_singleton.1 h;subst this;simp only [List.mem_cons,List.not_mem_nil,or_false] at a0;omega
     ·rintro⟨w',l',bv,bw⟩ ⟨Z,aw,ac⟩;simp only at Z ac aw ⊢;exact BB ((c - (j+1):Nat):Int) (by omega) (by omega) (by omega) (Ay ⟨V,Z,aw,ac⟩)
    ·rintro⟨l,t,ag,w,z⟩ ⟨U,hw,O,K⟩;simp only at U hw O K;subst U;unfold NQ;exact BV (by simp) (Ay ⟨_,V,⟨by simp only;omega,O⟩,K⟩)
   ·rintro⟨w,a6⟩ ⟨Z,ac⟩;simp only at Z ac ⊢;refine La (by omega) (BB ((i+1:Nat):Int) (by simp) (by omega) (by omega) ?_);refine Ay ⟨V,by simp [am],λx Y=>?_,ac.Ah (by omega)⟩;simp only [List.mem_append,List.mem_singleton] at Y;rcases Y with Y | rfl
    ·exact ap x Y
    ·exact Z
  ·rintro⟨az,l,t,ag,c⟩ ⟨al,am,ap,K⟩;simp only at al am ap K;subst al;unfold N3;exact BV (by simp) (Ay ⟨_,V,am,ap,K.Ah (by omega)⟩)
 ·rintro⟨l,t,ag,az⟩ ⟨a1,p2,aq⟩;simp only at a1 p2 aq ⊢;refine Bu (KH aq (by omega) (by omega)) ?_;rintro⟨c,bx⟩ ⟨c1,c2,av⟩;simp only at c1 c2 av ⊢;obtain⟨c,rfl⟩:∃m:Nat,c=(m:Int):=⟨c.toNat,by omega⟩;refine Bu (S:=λr=>r.2.2.2.length<=dm/\(∀d∈r.2.2.2,VD n d)/\BG (k+100) (r.1,r.2.1,r.2.2.1)) ?_ ?_
  ·refine DX c (λj s=>s.2.2.2.2=((c - j:Nat):Int)/\s.1.length=j/\(∀d∈s.1,VD n d)/\BG (k+31+4*j) (s.2.1,s.2.2.1,s.2.2.2.1)) ⟨V,V,by simp,av.Ah (by omega)⟩ (by omega) ?_ ?_
   ·rintro j ⟨a2,l,t,ag,z⟩ a5 ⟨U,hw,O,K⟩;simp only at U hw O K;subst U;unfold N6;refine CK (by simp only;omega) (Bu (aX K (by omega) (by omega) (by omega)) ?_);rintro⟨d,bz⟩ ⟨a3,a4⟩;simp only at a3 a4 ⊢;refine BM.OC (by simp;omega) (BB ((c - (j+1):Nat):Int) (by omega) (by omega) (by omega) ?_);refine Ay ⟨V,by simp [hw],?_,a4.Ah (by omega)⟩;intro x Y;rcases List.mem_append.1 Y with Y | Y
    ·exact O x Y
    ·cases List.mem_singleton.1 Y;exact a3
   ·rintro⟨a2,l,t,ag,z⟩ ⟨U,hw,O,K⟩;simp only at U hw O K;subst U;unfold N6;exact BV (by simp) (Ay ⟨_,V,by simp only;omega,O,K.Ah (by omega)⟩)
  ·rintro⟨l,t,ag,a2⟩ ⟨Z,aw,ac⟩;simp only at Z ac aw ⊢;exact Ay ⟨⟨by simp only;omega,by simp only;omega,p2,by simp only;omega,by simp only;rw [a1];exact aw⟩,by simp only;omega,Z,ac⟩
abbrev PR:=Int×Int
def gN(l:List Int)(i:Nat):Int:=l.getD i 0
def Fq(l:List Int)(i v:Int):List Int:=l.set i.toNat (gN l i.toNat+v)
def BN(B:Int)(l:List Int):Prop:=l.length=5/\∀x∈l,-B<=x/\x<=B
theorem N5{l:List Int}{i:Nat}(h:i<l.length):gN l i=l[i]:=by unfold gN;rw [List.getD_eq_getElem?_getD,List.getElem?_eq_getElem h];rfl
theorem BN.bd{B:Int}{l:List Int}(h:BN B l){i:Nat}(hi:i<5): -B<=gN l i/\gN l i<=B:=by
 rw [N5 (by have:=h.1;omega)];exact h.2 _ (List.getElem_mem _)
theorem BN.ix{B:Int}{l:List Int}(h:BN B l){i:Int}(K:0<=i)(hi:i<5):ix l i=some (gN l i.toNat):=by
 have:=h.1;rw [N5 (show i.toNat<l.length by omega)];exact FM (m:=i.toNat) (by omega) (List.getElem?_eq_getElem _)
theorem BN.Ah{B C:Int}{l:List Int}(h:BN B l)(O:B<=C):BN C l:=⟨h.1,λx K=>by have:=h.2 x K;omega⟩
theorem BN.add{B V:Int}{l:List Int}(h:BN B l){i v:Int}(O:0<=i)(hi:i<5)(U: -V<=v)(Y:v<=V):BN (B+V) (Fq l i v):=by
 have hb:=h.bd (i:=i.toNat) (by omega);refine⟨by unfold Fq;rw [List.length_set];exact h.1,λx K=>?_⟩;rcases List.mem_or_eq_of_mem_set K with K | rfl
 ·have:=h.2 x K;omega
 ·omega
theorem G0{l:List Int}{i v:Int}(h:l.length=5)(K:0<=i)(hi:i<5)(j:Nat):gN (Fq l i v) j=gN l j+if(j:Int)=i then v else 0:=by
 unfold Fq gN;rw [List.getD_eq_getElem?_getD,List.getElem?_set,List.getD_eq_getElem?_getD,List.getD_eq_getElem?_getD];by_cases e:i.toNat=j
 ·rw [if_pos e,if_pos (by omega),if_pos (by omega),e];rfl
 ·rw [if_neg e,if_neg (by omega),Int.add_zero]
theorem XW{l l':List Int}(h:l.length=5)(U:l'.length=5)(k:∀j,j<5->gN l j=gN l' j):l=l':=by
 refine List.ext_getElem (by omega) λj K O=>?_;rw [← N5 K,← N5 O];exact k j (by omega)
def Kd(l:List Int)(d:DT):List Int:=Fq (Fq l d.1 d.2.2) d.2.1 (-d.2.2)
def I6(l:List Int)(d:DT):List Int:=Fq (Fq l d.2.1 d.2.2) d.1 (-d.2.2)
def CH(o:OW):List Int:=o.2.foldl I6 (List.replicate 5 0)
theorem Td{F:Nat}{B:Int}{l:List Int}{d:DT}(h:BN B l)(a1:0<=d.1)(O:d.1<5)(U:0<=d.2.1)(Y:d.2.1<5)(Z: -B<=d.2.2)(p2:d.2.2<=B)(ac:B<=1000000000000):f204 F l d=some (Kd l d)/\BN (3*B) (Kd l d):=by
 have K:=h.add a1 O Z p2;have g2:=K.add U Y (show -B<= -d.2.2 by omega) (by omega);have k1:=h.bd (i:=d.1.toNat) (by omega);have ag:=K.bd (i:=d.2.1.toNat) (by omega);refine⟨?_,g2.Ah (by omega)⟩;refine El ?_;unfold f204;refine Bq (h.ix a1 O) ?_;refine BB _ V (by omega) (by omega) ?_;refine Bq (h.ix a1 O) ?_;refine Bq (K.ix U Y) ?_;refine BB _ V (by omega) (by omega) ?_;refine Bq (K.ix U Y) ?_;exact Ay V
theorem Mk{F:Nat}{o:OW}(ac:100<F)(h:VO o):f84 F o=some (CH o)/\BN 200 (CH o):=by
 have ag:=h.n5;have al:=h.d8;have:BM (f84 F o) (λr=>r=CH o/\BN 200 r):=by
  unfold f84;refine Bu (S:=λr=>r=CH o/\BN 200 r) ?_ (λr U=>Ay U);refine DX o.2.length (λi s=>s.2=(i:Int)/\s.1=(o.2.take i).foldl I6 (List.replicate 5 0)/\BN (20*i) s.1) ⟨rfl,rfl,rfl,by simp⟩ (by omega) ?_ ?_
  ·rintro i ⟨w,c⟩ hi ⟨K,hw,hb⟩;simp only at K hw hb;subst K;obtain⟨v1,v2,am,v4,ap,v6,aq⟩:=h.ds _ (List.getElem_mem hi);have O:=hb.add (i:=o.2[i].2.1) (v:=o.2[i].2.2) (V:=10) (by omega) (by omega) (by omega) (by omega);have g2:=O.add (i:=o.2[i].1) (v:= -o.2[i].2.2) (V:=10) (by omega) (by omega) (by omega) (by omega);have k1:=hb.bd (i:=o.2[i].2.1.toNat) (by omega);have av:=O.bd (i:=o.2[i].1.toNat) (by omega);unfold NP;refine CK (by simp only;omega) (C7 (m:=i) rfl hi ?_);refine Bq (hb.ix (by omega) (by omega)) (BB _ rfl (by omega) (by omega) ?_);refine Bq (hb.ix (by omega) (by omega)) (Bq (O.ix (by omega) (by omega)) ?_);refine BB _ rfl (by omega) (by omega) (Bq (O.ix (by omega) (by omega)) ?_);refine BB ((i+1:Nat):Int) (by simp) (by omega) (by omega) (Ay ⟨rfl,?_,g2.Ah (by omega)⟩);simp only;rw [List.take_add_one,List.getElem?_eq_getElem hi,List.foldl_append,← hw]
   rfl
  ·rintro⟨w,c⟩ ⟨K,hw,hb⟩;simp only at K hw hb;subst K;unfold NP;rw [List.take_length] at hw;exact BV (by simp) (Ay ⟨_,rfl,hw,hb.Ah (by omega)⟩)
 obtain⟨r,Y,rfl,Z⟩:=this;exact⟨Y,Z⟩
theorem Xg{l:List Int}{i:Nat}(hi:i<l.length):(l.take (i+1)).sum=(l.take i).sum+l[i]:=by
 rw [List.take_add_one,List.getElem?_eq_getElem hi,List.sum_append];simp only [Option.toList_some,List.sum_cons,List.sum_nil];omega
theorem Zq{F:Nat}{l:List Int}(ag:100<F)(al:l.length<=20)(hb:∀x∈l,-1000<=x/\x<=1000):f85 F l=some l.sum/\ -20000<=l.sum/\l.sum<=20000:=by
 have:BM (f85 F l) (λr=>r=l.sum/\ -20000<=r/\r<=20000):=by
  unfold f85;refine Bu (S:=λr=>r=l.sum/\ -20000<=r/\r<=20000) ?_ (λr Y=>Ay Y);refine DX l.length (λi s=>s.2=(i:Int)/\s.1=(l.take i).sum/\ -(1000*(i:Int))<=s.1/\s.1<=1000*(i:Int)) ⟨V,V,by simp,by simp⟩ (by omega) ?_ ?_
  ·rintro i ⟨w,c⟩ hi ⟨K,hw,O,U⟩;simp only at K hw O U;subst K;have am:=hb _ (List.getElem_mem hi);unfold NX;refine CK (by simp only;omega) (C7 (m:=i) V hi ?_);refine BB _ V (by omega) (by omega) (BB ((i+1:Nat):Int) (by simp) (by omega) (by omega) ?_);refine Ay ⟨V,?_,?_,?_⟩
   ·simp only;rw [Xg hi,hw]
   ·simp only;omega
   ·simp only;omega
  ·rintro⟨w,c⟩ ⟨K,hw,O,U⟩;simp only at K hw O U;subst K;unfold NX;rw [List.take_length] at hw;exact BV (by simp) (Ay ⟨_,V,hw,by simp only;omega,by simp only;omega⟩)
 obtain⟨r,Z,rfl,ac⟩:=this;exact⟨Z,ac⟩
def VP(n:Nat)(x:PR):Prop:=0<=x.1/\x.1<x.2/\x.2<(n:Int)
def IK(b:Nat)(k:Nat):List PR:=(List.range k).map λa:Nat=>((a:Int),(b:Int))
def Es(n:Nat):List PR:=(List.range n).flatMap λb=>IK b b
theorem WM(b k:Nat):IK b (k+1)=IK b k++ [((k:Int),(b:Int))]:=by unfold IK;rw [List.range_succ,List.map_append];rfl
theorem Vv(n:Nat):Es (n+1)=Es n++IK n n:=by unfold Es;rw [List.range_succ,List.flatMap_append];simp
theorem Pv{n:Nat}{x:PR}(h:x∈Es n):VP n x:=by
 unfold Es IK at h;obtain⟨b,hb,h⟩:=List.mem_flatMap.1 h;obtain⟨a,K,rfl⟩:=List.mem_map.1 h;have:=List.mem_range.1 hb;have:=List.mem_range.1 K;exact⟨by simp only;omega,by simp only;omega,by simp only;omega⟩
theorem So(b k:Nat):(IK b k).length=k:=by unfold IK;simp
theorem Rn{n:Nat}(h:n<=5):(Es n).length<=10:=by
 have e:∀n,n<=5->(Es n).length<=n*2:=by
  intro n K
  match n,K with
  | 0,_ | 1,_ | 2,_ | 3,_ | 4,_ | 5,_=>decide
 have:=e n h;omega
theorem Y5{F:Nat}{o:OW}(Z:100<F)(ac:o.1.length<=5):f133 F o=some (Es o.1.length):=by
 refine El ?_;unfold f133;refine Bu (S:=λr=>r=Es o.1.length) ?_ (λr Y=>Ay Y);refine DX o.1.length (λi s=>s.2=(i:Int)/\s.1=Es i/\s.1.length<=10*i) ⟨V,V,by simp⟩ (by omega) ?_ ?_
 ·rintro i ⟨w,c⟩ hi ⟨K,hw,U⟩;simp only at K hw U;subst K;unfold NK;refine CK (by simp only;omega) (Bu (S:=λr=>r=Es i++IK i i) ?_ ?_)
  ·refine DX i (λa s=>s.2=(a:Int)/\s.1=Es i++IK i a) ⟨V,by simp [IK,hw]⟩ (by omega) ?_ ?_
   ·rintro a ⟨v,c⟩ ag ⟨K,O⟩;simp only at K O;subst K;unfold NI;refine CK (by simp only;omega) (La ?_ ?_)
    ·rw [O,← hw,List.length_append,So];omega
    refine BB ((a+1:Nat):Int) (by simp) (by omega) (by omega) (Ay ⟨V,?_⟩);simp only;rw [WM,O,List.append_assoc]
   ·rintro⟨v,c⟩ ⟨K,O⟩;simp only at K O;subst K;unfold NI;exact BV (by simp) (Ay ⟨_,V,O⟩)
  ·rintro r rfl;refine BB ((i+1:Nat):Int) (by simp) (by omega) (by omega) (Ay ⟨V,(Vv i).symm,?_⟩);simp only;rw [List.length_append,So,← hw];omega
 ·rintro⟨w,c⟩ ⟨K,hw,U⟩;simp only at K hw U;subst K;unfold NK;exact BV (by simp) (Ay ⟨_,V,hw⟩)
def BH(p:Int)(x:PR):Bool:=decide (x.1=p) || decide (x.2=p)
theorem Ra{α:Type}{p:α->Bool}:∀{l:List α} {a:Nat},l.countP p=1->∀O:a<l.length,p l[a]=true->l.findIdx p=a
 | x::xs,0,_,_,K=>by
  have K:p x=true:=K
  rw [List.findIdx_cons,K];rfl
 | x::xs,a+1,h,O,K=>by
  have K:p (xs[a]'(by simpa using O))=true:=K
  have Y:0<xs.countP p:=List.countP_pos_iff.2 ⟨_,List.getElem_mem _,K⟩
  by_cases U:p x=true
  ·rw [List.countP_cons_of_pos U] at h;omega
  ·rw [List.countP_cons_of_neg U] at h;rw [List.findIdx_cons,Bool.eq_false_iff.2 U];simp only [cond_false];rw [Ra h (by simpa using O) K]
def I5(n:Nat)(l:List PR):Option Nat:=(List.range n).find? λp=>l.countP (BH p)==1
def dP(p:Int)(x:PR)(m:Int):DT:=if 0<m then(x.1+x.2 - p,p,m) else(p,x.1+x.2 - p,-m)
def FB(n:Nat):Nat->List PR->List Int->List DT->Option (List DT)
 | 0,_,w,out=>if w=List.replicate 5 0 then some out else none
 | k+1,l,w,out=>(I5 n l).bind λp=>
   if gN w p=0 then none else
    FB n k (l.eraseIdx (l.findIdx (BH p))) (Kd w (dP p (l.getD (l.findIdx (BH p)) (0,0)) (gN w p))) (out++ [dP p (l.getD (l.findIdx (BH p)) (0,0)) (gN w p)])
def MC:Option (List DT)->Bool×List Int×List DT
 | none=>(true,default)
 | some out=>(false,List.replicate 5 0,out)
theorem V7{F:Nat}{l:List PR}{p:Int}(am:100<F)(ap:l.length<=20):BM (Pal.iter (Md F l p) F (0,0,0)) (λr=>r.2=((l.countP (BH p):Nat):Int)/\(r.2=1->r.1=(l.findIdx (BH p):Nat)/\l.findIdx (BH p)<l.length)):=by
 refine DX l.length (λi s=>s.2.2=(i:Int)/\s.2.1=(((l.take i).countP (BH p):Nat):Int)/\(s.2.1≠0->∃a,s.1=((a:Nat):Int)/\∃h:a<l.length,BH p l[a]=true)) ⟨V,by simp,by simp⟩ (by omega) ?_ ?_
 ·rintro i ⟨a,m,c⟩ hi ⟨K,hm,O⟩;simp only at K hm O;subst K;have hle:(l.take i).countP (BH p)<=i:=by
   refine Nat.le_trans List.countP_le_length ?_;rw [List.length_take];omega
  unfold Md;refine CK (by simp only;omega) (C7 (m:=i) V hi ?_);refine Bu (S:=λc=>c=BH p l[i]) ?_ ?_
  ·unfold BH;refine Cn (λh=>Ay (by simp [h])) (λh=>Ay (by simp [h]))
  rintro c rfl;have key:(l.take (i+1)).countP (BH p)=(l.take i).countP (BH p)+if BH p l[i]=true then 1 else 0:=by
   rw [List.take_add_one,List.getElem?_eq_getElem hi,List.countP_append];simp only [Option.toList_some,List.countP_cons,List.countP_nil,Nat.zero_add]
  refine Bu (S:=λr=>r.2=(((l.take (i+1)).countP (BH p):Nat):Int)/\(r.2≠0->∃a,r.1=((a:Nat):Int)/\∃h:a<l.length,BH p l[a]=true)) ?_ ?_
  ·refine Cn (λh=>?_) (λh=>?_)
   ·refine BB (((l.take (i+1)).countP (BH p):Nat):Int) ?_ (by omega) ?_ (Ay ⟨V,λ_=>⟨i,V,hi,h⟩⟩)
    ·rw [key,if_pos h,hm];rfl
    ·rw [key,if_pos h];omega
   ·exact Ay ⟨by rw [key,if_neg h];exact hm,O⟩
  ·rintro⟨aq,m'⟩ ⟨U,Y⟩;simp only at U Y ⊢;exact BB ((i+1:Nat):Int) (by simp) (by omega) (by omega) (Ay ⟨V,U,Y⟩)
 ·rintro⟨a,m,c⟩ ⟨K,hm,O⟩;simp only at K hm O;subst K;rw [List.take_length] at hm;unfold Md;refine BV (by simp) (Ay ⟨_,V,hm,λac=>?_⟩);simp only at ac;obtain⟨k,ag,Z,al⟩:=O (by omega);have:=Ra (p:=BH p) (l:=l) (a:=k) (by omega) Z al;simp only;rw [this];exact⟨ag,Z⟩
theorem VR{n:Nat}{l:List PR}{i:Nat}(hi:i<n)(K:l.countP (BH i)=1)(h:∀p,p<i->l.countP (BH p)≠1):I5 n l=some i:=by
 unfold I5;rw [List.find?_range_eq_some];exact⟨by simp [K],List.mem_range.2 hi,λj O=>by simpa using h j O⟩
theorem V1{n:Nat}{l:List PR}(h:∀p,p<n->l.countP (BH p)≠1):I5 n l=none:=by
 unfold I5;rw [List.find?_eq_none];intro p K;simpa using h p (List.mem_range.1 K)
theorem UB{n:Nat}{p:Nat}{x:PR}{m B:Int}(U:n<=5)(O:VP n x)(K:BH p x=true)(Y: -B<=m)(Z:m<=B):0<=(dP p x m).1/\(dP p x m).1<5/\0<=(dP p x m).2.1/\(dP p x m).2.1<5/\0<=(dP p x m).2.2/\(dP p x m).2.2<=B:=by
 obtain⟨v1,v2,ac⟩:=O;unfold BH at K;simp at K;unfold dP;split <;> simp only <;> omega
theorem Pp{α:Type}{l:List α}{i:Nat}{d:α}(h:i<l.length):l.getD i d=l[i]:=by rw [List.getD_eq_getElem?_getD,List.getElem?_eq_getElem h];rfl
theorem TE{F n:Nat}{q:OW}(Z:100<F)(az:q.1.length=n)(am:n<=5):∀(k N:Nat) (l:List PR) (w:List Int) (out:List DT) (B:Int),l.length=k->k<N->k<=10->(∀x∈l,VP n x)->BN B w->0<=B->B*3 ^ k<=1000000000000->out.length+k<=100->Ls N F l w q out=some (MC (FB n k l w out))
 | 0,N,l,w,out,B,a0,a1,_,ac,hw,ap,aq,a2=>by
  obtain⟨N,rfl⟩:∃k,N=k+1:=⟨N - 1,by omega⟩
  refine El ?_
  simp only [Ls]
  unfold Mm FB
  refine CK (by omega) ?_
  refine Cn (λh=>Ay ?_) (λh=>Ay ?_)
  ·rw [if_neg h];rfl
  ·have h:=Decidable.not_not.1 h;rw [if_pos h,h];rfl
 | k+1,N,l,w,out,B,a0,a1,bo,ac,hw,ap,aq,a2=>by
  obtain⟨N,rfl⟩:∃k,N=k+1:=⟨N - 1,by omega⟩;refine El ?_;simp only [Ls];unfold Mm;refine BV (by omega) ?_;have a3:B*3 ^ (k+1)=(3*B)*3 ^ k:=by rw [Int.pow_succ];rw [Int.mul_comm (3 ^ k) 3,← Int.mul_assoc,Int.mul_comm B 3]
  have a4:B<=1000000000000:=by
   have ag:(1:Int)<=3 ^ (k+1):=by
    have:(0:Int)<3 ^ (k+1):=Int.pow_pos (by decide);omega
   have:=Int.mul_le_mul_of_nonneg_left ag ap;omega
  refine Bu (S:=λr=>r=Sum.inl (MC (FB n (k+1) l w out))∨(r=Sum.inr ()/\I5 n l=none)) ?_ ?_
  ·refine DX n (λi s=>s=(i:Int)/\∀p,p<i->l.countP (BH (p:Nat))≠1) ⟨V,by simp⟩ (by omega) ?_ ?_
   ·rintro i s hi ⟨rfl,O⟩;unfold Nu;refine CK (by omega) (Bu (S:=λr=>(r=Sum.inr ()/\l.countP (BH i)≠1)∨r=Sum.inl (MC (FB n (k+1) l w out))) ?_ ?_)
    ·refine Bu (V7 Z (by omega)) ?_;rintro⟨a,m⟩ ⟨av,U⟩;simp only at av U ⊢;refine Cn (λh=>Ay (.inl ⟨V,λag=>h (by rw [av,ag];rfl)⟩)) (λh=>?_);have h:=Decidable.not_not.1 h;obtain⟨U,K⟩:=U h;have a5:l.countP (BH i)=1:=by omega
     subst U;have a6:=VR hi a5 O;refine C7 (m:=l.findIdx (BH i)) V K (C7 (m:=l.findIdx (BH i)) V K ?_);have a7:BH i l[l.findIdx (BH i)]=true:=List.findIdx_getElem;have Y:=ac _ (List.getElem_mem K);have a8:=Y;obtain⟨bv,x2,bw⟩:=a8;have hb:=hw.bd (i:=i) (by omega);refine BB (-(i:Int)) V (by omega) (by omega) (Bq (hw.ix (by omega) (by omega)) ?_);rw [show Int.toNat (i:Int)=i by omega];refine Bq (Zq (l:= [_,_,_]) Z (by simp) (by simp;omega)).1 (BB (-(gN w i)) V (by omega) (by omega) ?_);have aw:FB n (k+1) l w out=if gN w i=0 then none else FB n k (l.eraseIdx (l.findIdx (BH i))) (Kd w (dP i l[l.findIdx (BH i)] (gN w i))) (out++ [dP i l[l.findIdx (BH i)] (gN w i)]):=by
      simp only [FB,a6,Option.bind_some,Pp K]
     refine Cn (λh=>Ay (.inr ?_)) (λh=>?_)
     ·rw [aw,if_pos (by omega)];rfl
     have ay:=aw;rw [if_neg (show ¬gN w i=0 by omega)] at ay;rw [ay];refine Bu (S:=λr=>r=dP i l[l.findIdx (BH i)] (gN w i)) ?_ ?_
     ·unfold dP;refine Cn (λh=>?_) (λh=>?_)
      ·refine BB (gN w i) (by omega) (by omega) (by omega) (Ay ?_);rw [if_pos (by omega)];simp only [List.sum_cons,List.sum_nil];refine Prod.ext ?_ V;simp only;omega
      ·refine Ay ?_;rw [if_neg (by omega)];simp only [List.sum_cons,List.sum_nil];refine Prod.ext V (Prod.ext ?_ V);simp only;omega
     rintro d rfl;obtain⟨a9,e2,bb,be,bx,bi⟩:=UB am Y a7 hb.1 hb.2;obtain⟨bn,g2⟩:=Td (F:=F) hw a9 e2 bb be (by omega) bi a4;refine Bq bn (BM.OC (by simp;omega) ?_);refine Bq (b:=l.take (l.findIdx (BH i))) (by unfold Hw;rw [if_pos (by omega)];simp) (BB ((l.findIdx (BH i)+1:Nat):Int) (by simp) (by omega) (by omega) ?_);refine Bq (b:=l.drop (l.findIdx (BH i)+1)) ?_ ?_
     ·unfold Hw;rw [if_pos (by omega),show Int.toNat (l.length:Int)=l.length by omega,List.take_length,show Int.toNat ((l.findIdx (BH i)+1:Nat):Int)=l.findIdx (BH i)+1 by omega]
     refine BM.OC (by simp;omega) ?_;have he:l.take (l.findIdx (BH i))++l.drop (l.findIdx (BH i)+1)=l.eraseIdx (l.findIdx (BH i)):=(List.eraseIdx_eq_take_drop_succ _ _).symm;rw [he];have hle:(l.eraseIdx (l.findIdx (BH i))).length=k:=by rw [List.length_eraseIdx_of_lt K];omega
     refine Bq (TE Z az am k N _ _ _ (3*B) hle (by omega) (by omega) (λx Y=>ac x (List.mem_of_mem_eraseIdx Y)) g2 (by omega) (by rw [← a3];exact aq) (by simp;omega)) ?_;rcases FB n k _ _ _ with _ | r
     ·exact CK V (Ay (.inr V))
     ·exact BV (by simp [MC]) (Ay (.inr V))
    ·rintro r (⟨rfl,h⟩ | rfl)
     ·rw [Sum.elim_inr];refine BB ((i+1:Nat):Int) (by simp) (by omega) (by omega) (Ay ⟨V,λp al=>?_⟩);rcases Nat.lt_succ_iff_lt_or_eq.1 al with al | rfl
      ·exact O p al
      ·exact h
     ·rw [Sum.elim_inl];exact Ay (.inl V)
   ·rintro s ⟨rfl,O⟩;unfold Nu;exact BV (by omega) (Ay ⟨_,V,.inr ⟨V,V1 O⟩⟩)
  ·rintro r (rfl | ⟨rfl,h⟩)
   ·rw [Sum.elim_inl];exact Ay V
   ·rw [Sum.elim_inr];refine Ay ?_;simp only [FB,h,Option.bind_none]
    rfl
def BD(d:DT):Prop:= -1000000000000000<=d.1/\d.1<=1000000000000000/\ -1000000000000000<=d.2.1/\d.2.1<=1000000000000000/\ -1000000000000000<=d.2.2/\d.2.2<=1000000000000000
theorem Ps{n:Nat}(ac:n<=5):∀(k:Nat) (l:List PR) (w:List Int) (out r:List DT) (B:Int),l.length=k->(∀x∈l,VP n x)->BN B w->0<=B->B*3 ^ k<=1000000000000->(∀d∈out,BD d)->FB n k l w out=some r->(∀d∈r,BD d)/\r.length=out.length+k
 | 0,l,w,out,r,B,ap,O,hw,ag,al,U,h=>by
  unfold FB at h
  split at h
  ·cases h;exact⟨U,V⟩
  ·cases h
 | k+1,l,w,out,r,B,ap,O,hw,ag,al,U,h=>by
  have aq:B*3 ^ (k+1)=(3*B)*3 ^ k:=by rw [Int.pow_succ];rw [Int.mul_comm (3 ^ k) 3,← Int.mul_assoc,Int.mul_comm B 3]
  have av:B<=1000000000000:=by
   have aw:(1:Int)<=3 ^ (k+1):=by
    have:(0:Int)<3 ^ (k+1):=Int.pow_pos (by decide);omega
   have:=Int.mul_le_mul_of_nonneg_left aw ag;omega
  unfold FB at h;obtain⟨p,am,h⟩:=bind_some h;split at h
  ·cases h
  unfold I5 at am;obtain⟨c1,c2,c3⟩:=List.find?_range_eq_some.1 am;have a3:l.countP (BH p)=1:=by simpa using c1
  have c2:=List.mem_range.1 c2;have Y:l.findIdx (BH p)<l.length:=by
   obtain⟨x,K,Z⟩:=List.countP_pos_iff.1 (show 0<l.countP (BH p) by omega);exact List.findIdx_lt_length_of_exists ⟨x,K,Z⟩
  rw [Pp Y] at h;have Z:BH p l[l.findIdx (BH p)]=true:=List.findIdx_getElem;have K:=O _ (List.getElem_mem Y);have hb:=hw.bd (i:=p) (by omega);obtain⟨ay,e2,az,a0,a4,a1⟩:=UB ac K Z hb.1 hb.2;obtain⟨a5,g2⟩:=Td (F:=0) hw ay e2 az a0 (by omega) a1 av;obtain⟨k1,a2⟩:=Ps ac k _ _ _ r (3*B) (by rw [List.length_eraseIdx_of_lt Y];omega) (λx K=>O x (List.mem_of_mem_eraseIdx K)) g2 (by omega) (by rw [← aq];exact al) (by
   intro d hd
   rcases List.mem_append.1 hd with hd | hd
   ·exact U d hd
   ·cases List.mem_singleton.1 hd
    refine⟨?_,?_,?_,?_,?_,?_⟩ <;> omega) h
  refine⟨k1,?_⟩;rw [a2];simp;omega
theorem Rg{α:Type}(l:List α):l= []∨∃A y,l=A++ [y]:=by
 rcases List.eq_nil_or_concat l with h | ⟨A,y,h⟩
 ·exact .inl h
 ·exact .inr ⟨A,y,by rw [h,List.concat_eq_append]⟩
def OA{α:Type}(less:α->α->Option Bool)(s:Int×List α):Option (Bl (Int×List α) (List α)):=
 Option.bind (
  if 0<s.1 then(
   (ix s.2 (s.1)).bind λx=>
   (Av (s.1 - 1)).bind λj=>
   (ix s.2 (j)).bind λy=>
   (less x y).bind λc=>
   some c
  ) else(
   some false
  )
 ) λc=>
 if c=true then(
  (Av (s.1 - 1)).bind λj=>
  (Av (s.1 - 1)).bind λk=>
  (ix s.2 (k)).bind λy=>
  (ix s.2 (s.1)).bind λx=>
  (ix (s.2.set (Int.toNat s.1) y) (j)).bind λ_=>
  (Av (s.1 - 1)).bind λm=>
  some (.more (m,((s.2.set (Int.toNat s.1) y).set (Int.toNat j) x)))
 ) else(
  some (.done s.2)
 )
theorem YN{α:Type}{less:α->α->Option Bool}{lt:α->α->Bool}{F:Nat}{P:List α}{x:α}(R:List α)(aw:P.length<F)(ay:P.length<=1024)(ap:∀y∈P,less x y=some (lt x y)):
  BM (Pal.iter (OA less) F ((P.length:Int),P++x::R)) (λr=>∃A B,P=A++B/\r=A++x::(B++R)/\(∀b∈B,lt x b=true)/\(A= []∨∃K y,A=K++ [y]/\lt x y=false)):=by
 refine PC (λm s=>∃A B,A.length=m/\s.1=((m:Nat):Int)/\s.2=A++x::(B++R)/\P=A++B/\∀b∈B,lt x b=true) ?_ (m:=P.length) ⟨P,[],V,V,V,by simp,by simp⟩ (by omega);rintro m ⟨c,v⟩ ⟨A,B,U,ag,O,Y,al⟩;simp only at ag O;subst ag;have az:A.length+B.length=P.length:=by rw [Y,List.length_append]
 have am:v[m]? =some x:=by rw [O,List.getElem?_append_right (by omega),U,Nat.sub_self];rfl
 unfold OA;refine Bu (S:=λc=>(c=true/\∃K y,A=K++ [y]/\lt x y=true)∨(c=false/\(A= []∨∃K y,A=K++ [y]/\lt x y=false))) ?_ ?_
 ·refine Cn (λh=>?_) (λh=>?_)
  ·simp only at h;rcases Rg A with rfl | ⟨K,y,rfl⟩
   ·simp at U;omega
   have aq:K.length+1=m:=by simpa using U
   have ac:v[m - 1]? =some y:=by rw [O,List.append_assoc,List.getElem?_append_right (by omega),show m - 1 - K.length=0 by omega];rfl
   refine Bq (FM V am) (BB ((m - 1:Nat):Int) (by simp only;omega) (by omega) (by omega) ?_);refine Bq (FM V ac) (Bq (ap y (by rw [Y];simp)) ?_);refine Ay ?_;cases Z:lt x y with
   | true=>exact .inl ⟨rfl,K,y,rfl,Z⟩
   | false=>exact .inr ⟨rfl,.inr ⟨K,y,rfl,Z⟩⟩
  ·refine Ay (.inr ⟨V,.inl ?_⟩);cases A with
   | nil=>rfl
   | cons a A=>simp at U h;omega
 ·rintro c (⟨rfl,K,y,rfl,Z⟩ | ⟨rfl,av⟩)
  ·have aq:K.length+1=m:=by simpa using U
   have ac:v[m - 1]? =some y:=by rw [O,List.append_assoc,List.getElem?_append_right (by omega),show m - 1 - K.length=0 by omega];rfl
   have a0:m<v.length:=by rw [O];simp;omega
   refine CK V (BB ((m - 1:Nat):Int) (by simp only;omega) (by omega) (by omega) ?_);refine BB ((m - 1:Nat):Int) (by simp only;omega) (by omega) (by omega) (Bq (FM V ac) ?_);refine Bq (FM V am) (C7 (m:=m - 1) V (by simp only [List.length_set];omega) ?_);refine BB ((m - 1:Nat):Int) (by simp only;omega) (by omega) (by omega) (Ay ⟨m - 1,by omega,K,y::B,by omega,V,?_,by rw [Y];simp,λb hb=>?_⟩)
   ·simp only;rw [show Int.toNat ((m:Nat):Int)=K.length+1 by omega,show Int.toNat ((m - 1:Nat):Int)=K.length by omega,O];simp
   ·rcases List.mem_cons.1 hb with rfl | hb
    ·exact Z
    ·exact al b hb
  ·exact BV (by simp) (Ay ⟨A,B,Y,O,al,av⟩)
def HC(a b:DT):Bool:=decide (a.1<b.1∨(a.1=b.1/\(a.2.1<b.2.1∨(a.2.1=b.2.1/\a.2.2<b.2.2))))
theorem TA{a b:DT}:HC a b=true↔a.1<b.1∨(a.1=b.1/\(a.2.1<b.2.1∨(a.2.1=b.2.1/\a.2.2<b.2.2))):=by unfold HC;exact decide_eq_true_iff
theorem Lu{a b:DT}:HC a b=false↔¬(a.1<b.1∨(a.1=b.1/\(a.2.1<b.2.1∨(a.2.1=b.2.1/\a.2.2<b.2.2)))):=by unfold HC;exact decide_eq_false_iff_not
theorem SK{F:Nat}{a b:DT}(K:BD a)(hb:BD b):BM (f113 F a b) (λc=>(c<0↔HC a b=true)/\(c=0↔a=b)):=by
 obtain⟨a1,O,U,Y,Z,ac⟩:=K;obtain⟨ag,al,am,ap,aq,av⟩:=hb;obtain⟨ax,ay,az⟩:=a;obtain⟨a0,a2,a3⟩:=b;simp only at a1 O U Y Z ac ag al am ap aq av;unfold f113;simp only [TA,Prod.mk.injEq];refine Cn (λh=>?_) (λh=>?_)
 ·exact BB _ V (by omega) (by omega) (Ay ⟨by omega,by omega⟩)
 refine Cn (λaw=>?_) (λaw=>?_)
 ·exact BB _ V (by omega) (by omega) (Ay ⟨by omega,by omega⟩)
 ·exact BB _ V (by omega) (by omega) (Ay ⟨by omega,by omega⟩)
def Ga(x:DT):List DT->List DT
 | []=> [x]
 | y::ys=>if HC x y=true then x::y::ys else y::Ga x ys
def Et(l:List DT):List DT:=l.foldl (λa x=>Ga x a) []
def MI(l:List DT):Prop:=l.Pairwise λa b=>HC b a=false
theorem Px{x d:DT}:∀{l:List DT},d∈Ga x l↔d=x∨d∈l
 | []=>by simp [Ga]
 | y::ys=>by
  unfold Ga
  split
  ·simp
  ·rw [List.mem_cons,Px,List.mem_cons];constructor
   ·rintro(h | h | h)
    ·exact .inr (.inl h)
    ·exact .inl h
    ·exact .inr (.inr h)
   ·rintro(h | h | h)
    ·exact .inr (.inl h)
    ·exact .inl h
    ·exact .inr (.inr h)
theorem SF{x:DT}:∀{l:List DT},(Ga x l).length=l.length+1
 | []=>rfl
 | y::ys=>by
  unfold Ga
  split
  ·rfl
  ·rw [List.length_cons,SF];rfl
theorem S9{x:DT}:∀{l:List DT},MI l->MI (Ga x l)
 | [],_=>List.pairwise_singleton _ _
 | y::ys,h=>by
  obtain⟨U,Y⟩:=List.pairwise_cons.1 h
  unfold Ga
  split
  ·rename_i O
   refine List.pairwise_cons.2 ⟨λz K=>?_,h⟩;have O:=TA.1 O;rcases List.mem_cons.1 K with rfl | K
   ·rw [Lu];omega
   ·have:=Lu.1 (U z K);rw [Lu];omega
  ·rename_i O;refine List.pairwise_cons.2 ⟨λz K=>?_,S9 Y⟩;rcases Px.1 K with rfl | K
   ·exact Bool.eq_false_iff.2 O
   ·exact U z K
theorem SJ{x:DT}{B:List DT}(K:∀b∈B,HC x b=true):∀{A:List DT},(∀a∈A,HC x a=false)->Ga x (A++B)=A++x::B
 | [],_=>by
  cases B with
  | nil=>rfl
  | cons b bs=>simp only [List.nil_append,Ga,K b List.mem_cons_self,if_true]
 | a::A,O=>by
  have U:=O a List.mem_cons_self
  simp only [List.cons_append,Ga,U]
  rw [if_neg (by decide),SJ K λz Y=>O z (List.mem_cons_of_mem _ Y)]
theorem L3(l:List DT)(x:DT):Et (l++ [x])=Ga x (Et l):=by unfold Et;rw [List.foldl_append];rfl
theorem Ti:∀{k:Nat},k<=10->(3:Int) ^ k<=59049
 | 0,_ | 1,_ | 2,_ | 3,_ | 4,_ | 5,_ | 6,_ | 7,_ | 8,_ | 9,_ | 10,_=>by decide
 | _+11,h=>absurd h (by omega)
theorem Mh{α:Type}{P:List α->Prop}(O:P [])(U:∀l x,P l->P (l++ [x])):∀l,P l:=by
 have:∀n (l:List α),l.length=n->P l:=by
  intro n
  induction n with
  | zero=>intro l K;cases List.length_eq_zero_iff.1 K;exact O
  | succ n Y=>
   intro l K;rcases Rg l with rfl | ⟨l',x,rfl⟩
   ·cases K
   ·exact U _ _ (Y _ (by simpa using K))
 exact λl=>this _ l V
theorem X1(l:List DT):MI (Et l):=Mh (P:=λl=>MI (Et l)) List.Pairwise.nil (λl x h=>by rw [L3];exact S9 h) l
theorem RD{d:DT}(l:List DT):d∈Et l↔d∈l:=Mh (P:=λl=>d∈Et l↔d∈l) (Iff.rfl) (λl x h=>by rw [L3,Px,h];simp [or_comm]) l
theorem RE(l:List DT):(Et l).length=l.length:=Mh (P:=λl=>(Et l).length=l.length) V (λl x h=>by rw [L3,SF,h];simp) l
theorem Wa(F:Nat):NJ F 0=OA λx y=>(f113 F x y).bind λc=>some (decide (c<0)):=by
 funext s;unfold NJ OA;simp only [Option.bind_assoc,Option.bind_some]
theorem VX{A B:List DT}{x y:DT}(O:MI ((A++ [y])++B))(U:HC x y=false):∀a∈A++ [y],HC x a=false:=by
 rw [List.append_assoc] at O;intro a K;rcases List.mem_append.1 K with K | K
 ·have Y:=(List.pairwise_append.1 O).2.2 a K y (by simp);have Z:=Lu.1 Y;have ac:=Lu.1 U;rw [Lu];omega
 ·cases List.mem_singleton.1 K;exact U
theorem Ys{F:Nat}{l:List DT}(az:100<F)(a0:l.length<=20)(hb:∀d∈l,BD d):f193 F l 0 (l.length:Int)=some (Et l):=by
 refine El ?_;unfold f193;refine BB 1 V (by omega) (by omega) (Bu (S:=λr=>r=Et l) ?_ (λr Y=>Ay Y));refine DX (l.length - 1) (λi s=>s.1=((i+1:Nat):Int)/\s.2=Et (l.take (i+1))++l.drop (i+1)) ⟨V,?_⟩ (by omega) ?_ ?_
 ·cases l with
  | nil=>rfl
  | cons x xs=>rfl
 ·rintro i ⟨c,w⟩ hi ⟨K,hw⟩;simp only at K hw;subst K;have O:i+1<l.length:=by omega
  unfold Nr;refine CK (by simp only;omega) ?_;have Z:l.drop (i+1)=l[i+1]::l.drop (i+2):=List.drop_eq_getElem_cons O;have a1:(Et (l.take (i+1))).length=i+1:=by rw [RE,List.length_take];omega
  have ac:∀d∈Et (l.take (i+1)),BD d:=λd hd=>hb d (List.mem_of_mem_take ((RD _).1 hd));have ag:BD l[i+1]:=hb _ (List.getElem_mem O);have al:Et (l.take (i+2))=Ga l[i+1] (Et (l.take (i+1))):=by
   rw [List.take_add_one (i:=i+1),List.getElem?_eq_getElem O];exact L3 _ _
  have am:=X1 (l.take (i+1));generalize l[i+1]=x at*;generalize Et (l.take (i+1))=P at*;generalize l.drop (i+2)=R at*;refine Bu (S:=λr=>r=Ga x P++R) ?_ ?_
  ·rw [Wa,hw,Z];have ap:((i+1:Nat):Int)=(P.length:Int):=by omega
   rw [ap];refine(YN (lt:=HC) R (by omega) (by omega) λy U=>?_).Ah ?_
   ·obtain⟨c,aq,av,_⟩:=SK (F:=F) ag (ac y U);rw [aq,Option.bind_some];congr 1;rw [Bool.eq_iff_iff,decide_eq_true_eq];exact av
   ·rintro r ⟨A,B,rfl,rfl,aw,ay⟩;rw [SJ aw ?_]
    ·simp
    ·rcases ay with rfl | ⟨a2,y,rfl,U⟩
     ·simp
     ·exact VX am U
  ·rintro r rfl;refine BB ((i+1+1:Nat):Int) (by simp) (by omega) (by omega) (Ay ⟨V,?_⟩);simp only;rw [al]
 ·rintro⟨c,w⟩ ⟨K,hw⟩;simp only at K hw;subst K;unfold Nr;refine BV (by simp only;omega) (Ay ⟨_,V,?_⟩);simp only;rw [hw,List.take_of_length_le (by omega),List.drop_eq_nil_of_le (by omega),List.append_nil]
theorem Yf{F:Nat}:∀n,n<=12->∃r,f115 F (CY ((n:Nat):Int))=some r
 | 0,_ | 1,_ | 2,_ | 3,_ | 4,_ | 5,_ | 6,_ | 7,_ | 8,_ | 9,_ | 10,_ | 11,_ | 12,_=>⟨_,rfl⟩
 | _+13,h=>absurd h (by omega)
theorem ah{F:Nat}{l:List DT}(K:100<F)(O:l.length<=12)(hb:∀d∈l,BD d):f90 F l=some (Et l):=by
 obtain⟨F,rfl⟩:∃k,F=k+1:=⟨F - 1,by omega⟩;obtain⟨x,U⟩:=Yf (F:=F+1) l.length O;refine El ?_;unfold f90;refine Bq (b:=l) (by unfold f129 Mt C9;rw [if_pos (by simp;omega)];rfl) (Bq (b:=Et l) ?_ (Ay V));refine El ?_;unfold f130;refine Bq U (Bq (b:=Et l) ?_ (Ay V));refine El ?_;unfold f169;refine Bu (S:=λr=>r=Sum.inl (Et l)) ?_ (by rintro r rfl;rw [Sum.elim_inl];exact Ay rfl);refine DX 0 (λ_ _=>True) trivial (by omega) (by intro i s h;omega) ?_;rintro s -;unfold PG;refine BB (l.length:Int) (by omega) (by omega) (by omega) (CK (by omega) ?_);exact Bq (Ys K (by omega) hb) (Ay ⟨_,V,V⟩)
def Hz(n:Nat)(w:List Int)(S:List PR):Option (List DT):=(FB n S.length S w []).map Et
theorem YF{F:Nat}{o:OW}{S:List PR}(K:100<F)(h:VO o)(O:S.length<=10)(U:∀x∈S,VP o.1.length x):f135 F o S=some (match Hz o.1.length (CH o) S with | none=>([],false) | some r=>(r,true)):=by
 have Y:=h.n5;obtain⟨ac,g2⟩:=Mk K h;have Z:(200:Int)*3 ^ S.length<=1000000000000:=by
  have:=Ti O;omega
 have e:=TE (q:=o) K rfl Y S.length F S (CH o) [] 200 rfl (by omega) O U g2 (by omega) Z (by simp;omega);have e2:f175 F o S=some (match Hz o.1.length (CH o) S with | none=>(true,default) | some r=>(false,r)):=by
  refine El ?_;unfold f175;refine Bq ac ?_;refine Bq (show f203 F S (CH o) o []=_ from e) ?_;unfold Hz;rcases ag:FB o.1.length S.length S (CH o) [] with _ | r
  ·exact CK V (Ay V)
  ·refine BV (by simp [MC]) ?_;obtain⟨k1,al⟩:=Ps Y S.length S (CH o) [] r 200 rfl U g2 (by omega) Z (by simp) ag;exact Bq (ah K (by show r.length<=12;rw [al];simp;omega) k1) (Ay V)
 unfold f135;rw [e2,Option.bind_some];rcases Hz o.1.length (CH o) S with _ | r
 ·rfl
 ·rfl
def Hr:Nat->List PR->List (List PR)
 | 0,_=> [[]]
 | _+1,[]=> []
 | m+1,x::xs=>(Hr m xs).map (x::·)++Hr (m+1) xs
theorem O5:∀(m:Nat) (l:List PR),(Hr m l).length<=2 ^ l.length
 | 0,l=>by simp only [Hr,List.length_singleton];exact Nat.one_le_two_pow
 | m+1,[]=>by simp [Hr]
 | m+1,x::xs=>by
  have K:=O5 m xs;have O:=O5 (m+1) xs
  simp only [Hr,List.length_append,List.length_map,List.length_cons]
  rw [Nat.pow_succ];omega
theorem L4{x:PR}:∀{m:Nat} {l c:List PR},c∈Hr m l->c.length=m/\(x∈c->x∈l)
 | 0,l,c,h=>by rw [show Hr 0 l= [[]] by cases l <;> rfl] at h;cases List.mem_singleton.1 h;exact⟨rfl,λh=>by cases h⟩
 | m+1,[],c,h=>by cases h
 | m+1,y::ys,c,h=>by
  rcases List.mem_append.1 h with h | h
  ·obtain⟨U,O,rfl⟩:=List.mem_map.1 h
   have:=L4 (x:=x) O;exact⟨by rw [List.length_cons,this.1],λK=>by
    rcases List.mem_cons.1 K with rfl | K
    ·exact List.mem_cons_self
    ·exact List.mem_cons_of_mem _ (this.2 K)⟩
  ·have:=L4 (x:=x) h;exact⟨this.1,λK=>List.mem_cons_of_mem _ (this.2 K)⟩
def Dg(n:Nat)(w:List Int)(P:PR->Bool)(m:Nat)(l ys:List PR):List (List DT):=(Hr m (ys.filter P)).filterMap λc=>Hz n w (l++c)
theorem R2{n:Nat}{w:List Int}{P:PR->Bool}{m:Nat}{l ys:List PR}:(Dg n w P m l ys).length<=2 ^ ys.length:=by
 unfold Dg;refine Nat.le_trans (List.length_filterMap_le _ _) (Nat.le_trans (O5 _ _) ?_);exact Nat.pow_le_pow_right (by decide) (List.length_filter_le _ _)
theorem Wc{n:Nat}{w:List Int}{P:PR->Bool}{m:Nat}{l xs:List PR}{x:PR}(h:P x=false):Dg n w P m l (x::xs)=Dg n w P m l xs:=by unfold Dg;rw [List.filter_cons_of_neg (by simp [h])]
theorem Wr{n:Nat}{w:List Int}{P:PR->Bool}{m:Nat}{l xs:List PR}{x:PR}(h:P x=true):Dg n w P (m+1) l (x::xs)=Dg n w P m (l++ [x]) xs++Dg n w P (m+1) l xs:=by
 unfold Dg;rw [List.filter_cons_of_pos h,Hr,List.filterMap_append,List.filterMap_map];congr 2;funext c;simp
theorem Tj{F:Nat}{o:OW}{ag m:Nat}{K:List PR}{P:PR->Bool}(al:100<F)(h:VO o)(hm:m<=5)(aw:K.length<=10)(am:∀x∈K,VP o.1.length x)(ap:∀x,VP o.1.length x->f136 F ag x.1 x.2=some (!P x)):
  ∀(k N:Nat) (l:List PR) (i:Nat) (b:List (List DT)),l.length+k=m->k<N->i<=K.length->(∀x∈l,VP o.1.length x)->b.length+2 ^ (K.length - i)<=1000000->
   Lt N F l (i:Int) (m:Int) o K ag b=some (true,b++Dg o.1.length (CH o) P k l (K.drop i))
 | 0,N,l,i,b,ay,az,hi,ac,hb=>by
  obtain⟨N,rfl⟩:∃k,N=k+1:=⟨N - 1,by omega⟩
  have a5:1<=2 ^ (K.length - i):=Nat.one_le_two_pow
  refine El ?_
  simp only [Lt]
  unfold Mo
  refine CK (by omega) ?_
  refine Bq (YF al h (by omega) ac) ?_
  refine Bu (S:=λr=>r=(true,b++Dg o.1.length (CH o) P 0 l (K.drop i))) ?_ (λr a0=>Ay a0)
  have e:Dg o.1.length (CH o) P 0 l (K.drop i)=(Hz o.1.length (CH o) l).toList:=by
   unfold Dg;simp only [Hr,List.filterMap_cons,List.append_nil,List.filterMap_nil];cases Hz o.1.length (CH o) l <;> rfl
  rw [e];rcases Hz o.1.length (CH o) l with _ | r
  ·exact CK V (Ay (by simp))
  ·exact BV (by simp) (La (by omega) (Ay V))
 | k+1,N,l,i,b,ay,az,hi,ac,hb=>by
  obtain⟨N,rfl⟩:∃k,N=k+1:=⟨N - 1,by omega⟩;refine El ?_;simp only [Lt];unfold Mo;refine BV (by omega) (Bu (S:=λr=>r=Sum.inr (b++Dg o.1.length (CH o) P (k+1) l (K.drop i))) ?_ (by rintro r rfl;rw [Sum.elim_inr];exact Ay rfl));refine PC (λz s=>∃j,z=K.length - j/\j<=K.length/\s.2=((j:Nat):Int)/\s.1++Dg o.1.length (CH o) P (k+1) l (K.drop j)=b++Dg o.1.length (CH o) P (k+1) l (K.drop i)/\s.1.length+2 ^ (K.length - j)<=1000000) ?_ (m:=K.length - i) ⟨i,V,hi,V,V,hb⟩ (by omega);rintro z ⟨acc,c⟩ ⟨j,rfl,a6,aq,he,hlen⟩;simp only at aq he hlen;subst aq;unfold PQ;refine Cn (λa1=>?_) (λa2=>?_)
  ·simp only at a1;have O:j<K.length:=by omega
   have hd:K.drop j=K[j]::K.drop (j+1):=List.drop_eq_getElem_cons O;have av:=am _ (List.getElem_mem O);have a7:2 ^ (K.length - j)=2 ^ (K.length - (j+1))+2 ^ (K.length - (j+1)):=by
    rw [show K.length - j=K.length - (j+1)+1 by omega,Nat.pow_succ];omega
   have a8:0<2 ^ (K.length - (j+1)):=Nat.two_pow_pos _;refine Bu (S:=λr=>∃Y,r=Sum.inr Y/\Y++Dg o.1.length (CH o) P (k+1) l (K.drop (j+1))=acc++Dg o.1.length (CH o) P (k+1) l (K.drop j)/\Y.length+2 ^ (K.length - (j+1))<=1000000) ?_ ?_
   ·refine C7 (m:=j) V O (C7 (m:=j) V O ?_);refine Bq (ap _ av) ?_;by_cases Z:P K[j]=true
    ·refine BV (by simp [Z]) ?_;refine C7 (m:=j) V O ?_;refine BB ((j+1:Nat):Int) (by simp) (by omega) (by omega) ?_;refine BM.OC (by simp;omega) ?_;refine Bq (Tj al h hm aw am ap k N (l++ [K[j]]) (j+1) acc (by simp;omega) (by omega) (by omega) (λx U=>by
      rcases List.mem_append.1 U with U | U
      ·exact ac x U
      ·cases List.mem_singleton.1 U;exact av) (by omega)) ?_
     refine BV (by simp) (Ay ⟨_,V,?_,?_⟩)
     ·rw [hd,Wr Z,List.append_assoc]
     ·have:=R2 (n:=o.1.length) (w:=CH o) (P:=P) (m:=k) (l:=l++ [K[j]]) (ys:=K.drop (j+1));rw [List.length_drop] at this;rw [List.length_append];omega
    ·refine CK (by simp [Z]) (Ay ⟨_,V,?_,by simp only;omega⟩);rw [hd,Wc (Bool.eq_false_iff.2 Z)]
   ·rintro r ⟨Y,rfl,a3,a4⟩;rw [Sum.elim_inr];exact BB ((j+1:Nat):Int) (by simp) (by omega) (by omega) (Ay ⟨K.length - (j+1),by omega,j+1,V,by omega,V,a3.trans he,a4⟩)
  ·simp only at a2;refine Ay ?_;have:K.drop j= []:=List.drop_eq_nil_of_le (by omega);rw [this] at he;show Sum.inr _=_;rw [← he];unfold Dg;simp [Hr]
def FW(n:Nat)(w:List Int)(P:PR->Bool):List (List DT):=(((List.range n).map λm=>Dg n w P m [] (Es n)).find? λl=> !l.isEmpty).getD []
theorem aa{F O:Nat}{o:OW}{P:PR->Bool}(Y:100<F)(h:VO o)(ag:∀x,VP o.1.length x->f136 F O x.1 x.2=some (!P x)):f71 F o O=some (FW o.1.length (CH o) P):=by
 have Z:=h.n5;have al:=Rn Z;refine El ?_;unfold f71;have am:∀m,m<=5->f132 F o ((m:Nat):Int) O []=some (Dg o.1.length (CH o) P m [] (Es o.1.length)):=by
  intro m hm;refine El ?_;unfold f132;refine Bq (Y5 Y Z) ?_;have ap:2 ^ ((Es o.1.length).length - 0)<=2 ^ 10:=Nat.pow_le_pow_right (by decide) (by omega);exact Bq (show f134 F [] 0 (m:Int) o (Es o.1.length) O []=_ from Tj Y h hm al (λx aq=>Pv aq) ag m F [] 0 [] (by simp) (by omega) (by omega) (by simp) (by simp at ap ⊢;omega)) (Ay (by simp))
 refine DX o.1.length (λi s=>s=(i:Int)/\∀j,j<i->Dg o.1.length (CH o) P j [] (Es o.1.length)= []) ⟨V,by simp⟩ (by omega) ?_ ?_
 ·rintro i s hi ⟨rfl,U⟩;unfold Oe;refine CK (by omega) (Bq (am i (by omega)) ?_);refine Cn (λac=>Ay ?_) (λaw=>?_)
  ·show _=_;unfold FW;rw [List.find?_map,show(List.range o.1.length).find? _=some i from List.find?_range_eq_some.2 ⟨?_,List.mem_range.2 hi,λj K=>?_⟩]
   ·rfl
   ·simp only [Function.comp];cases av:Dg o.1.length (CH o) P i [] (Es o.1.length) with
    | nil=>rw [av] at ac;simp at ac
    | cons=>rfl
   ·simp only [Function.comp];rw [U j K];rfl
  ·refine BB ((i+1:Nat):Int) (by simp) (by omega) (by omega) (Ay ⟨V,λj K=>?_⟩);rcases Nat.lt_succ_iff_lt_or_eq.1 K with K | rfl
   ·exact U j K
   ·exact List.length_eq_zero_iff.1 (by omega)
 ·rintro s ⟨rfl,U⟩;unfold Oe;refine BV (by omega) (Ay ⟨_,V,?_⟩);unfold FW;rw [List.find?_map,show(List.range o.1.length).find? _=none from List.find?_eq_none.2 ?_]
  ·rfl
  ·intro j K;simp only [Function.comp];rw [U j (List.mem_range.1 K)];simp
theorem ZW{F n:Nat}(U:n<=5)(x:PR)(K:VP n x):f136 F 0 x.1 x.2=some (!(λ_=>true) x):=by
 obtain⟨Y,Z,ac⟩:=K;obtain⟨a,O⟩:∃a:Nat,x.1=(a:Int):=⟨x.1.toNat,by omega⟩;obtain⟨b,hb⟩:∃b:Nat,x.2=(b:Int):=⟨x.2.toNat,by omega⟩;rw [O,hb];have:b<=4:=by omega
 have:a<b:=by omega
 match a,b with
 | 0,1 | 0,2 | 0,3 | 0,4 | 1,2 | 1,3 | 1,4 | 2,3 | 2,4 | 3,4=>rfl
 | 0,0=>omega
 | a+1,0=>omega
 | a+1,1=>omega
 | a+2,2=>omega
 | a+3,3=>omega
 | a+4,4=>omega
 | a,b+5=>omega
abbrev Dw(o:OW):List (List DT):=FW o.1.length (CH o) λ_=>true
theorem Qu{F:Nat}{o:OW}(K:100<F)(h:VO o):f71 F o 0=some (Dw o):=aa K h λx O=>ZW h.n5 x O
theorem Xz{n:Nat}{w:List Int}{P:PR->Bool}{m:Nat}{s:List DT}(U:n<=5)(hm:m<=5)(hw:BN 200 w)(K:s∈Dg n w P m [] (Es n)):s.length=m/\∀d∈s,BD d:=by
 unfold Dg at K;obtain⟨c,O,K⟩:=List.mem_filterMap.1 K;rw [List.nil_append] at K;unfold Hz at K;obtain⟨r,Y,rfl⟩:=Option.map_eq_some_iff.1 K;have Z:=(L4 (x:=(0,0)) O).1;have ac:∀x∈c,VP n x:=λx ag=>Pv (List.mem_filter.1 ((L4 O).2 ag)).1;have al:(200:Int)*3 ^ c.length<=1000000000000:=by
  have:=Ti (k:=c.length) (by omega);omega
 obtain⟨k1,am⟩:=Ps U c.length c w [] r 200 rfl ac hw (by omega) al (by simp) Y;refine⟨by rw [RE,am,Z];simp,λd hd=>k1 d ((RD _).1 hd)⟩
theorem YG{n:Nat}{w:List Int}{P:PR->Bool}:FW n w P= []∨∃m,m<n/\FW n w P=Dg n w P m [] (Es n)/\(∀j,j<m->Dg n w P j [] (Es n)= []):=by
 unfold FW;rw [List.find?_map];rcases h:(List.range n).find? ((λl:List (List DT)=> !l.isEmpty)∘λm=>Dg n w P m [] (Es n)) with _ | m
 ·exact .inl V
 ·obtain⟨Y,K,O⟩:=List.find?_range_eq_some.1 h;refine .inr ⟨m,List.mem_range.1 K,V,λj U=>?_⟩;have:=O j U;simpa using this
theorem Ug{n:Nat}{w:List Int}{P:PR->Bool}(K:n<=5)(hw:BN 200 w):(FW n w P).length<=1024/\∃m,m<=5/\∀s∈FW n w P,s.length=m/\∀d∈s,BD d:=by
 rcases YG (n:=n) (w:=w) (P:=P) with h | ⟨m,hm,h,_⟩
 ·rw [h];exact⟨by simp,0,by omega,by simp⟩
 ·rw [h];refine⟨?_,m,by omega,λs O=>Xz K (by omega) hw O⟩;exact Nat.le_trans R2 (Nat.le_trans (Nat.pow_le_pow_right (by decide) (Rn K)) (by decide))
def Gd:List DT->List DT->Bool
 | [],[]=>false
 | [],_::_=>true
 | _::_,[]=>false
 | x::xs,y::ys=>if x=y then Gd xs ys else HC x y
theorem Pz{a b:List DT}:∀{i:Nat},i<=a.length->i<=b.length->a.take i=b.take i->Gd a b=Gd (a.drop i) (b.drop i):=by
 induction a generalizing b with
 | nil=>intro i K _ _;simp at K;subst K;simp
 | cons x xs U=>
  intro i K O h;cases i with
  | zero=>simp
  | succ i=>
   cases b with
   | nil=>simp at O
   | cons y ys=>
    simp only [List.take_succ_cons,List.cons.injEq] at h;simp only [List.drop_succ_cons];rw [Gd,if_pos h.1];exact U (by simpa using K) (by simpa using O) h.2
theorem YD{F:Nat}{a b:List DT}(al:100<F)(am:a.length<=40)(U:∀d∈a,BD d)(Y:∀d∈b,BD d):BM (f112 F a b) (λc=>c<0↔Gd a b=true):=by
 unfold f112;refine Bu (S:=λr=>(∃c,r=Sum.inl c/\(c<0↔Gd a b=true))∨(r=Sum.inr ()/\a.length<=b.length/\a=b.take a.length)) ?_ ?_
 ·refine DX a.length (λi s=>s=(i:Int)/\i<=b.length/\a.take i=b.take i) ⟨V,by simp,by simp⟩ (by omega) ?_ ?_
  ·rintro i s hi ⟨rfl,K,he⟩;unfold ND;have O:a.drop i=a[i]::a.drop (i+1):=List.drop_eq_getElem_cons hi;refine CK (by omega) (C7 (m:=i) V hi ?_);refine Cn (λh=>Ay (.inl ⟨1,V,?_⟩)) (λh=>?_)
   ·rw [Pz (i:=i) (by omega) K he,O,List.drop_eq_nil_of_le (by omega:b.length<=i)];simp [Gd]
   have hb:i<b.length:=by omega
   have Z:b.drop i=b[i]::b.drop (i+1):=List.drop_eq_getElem_cons hb;refine C7 (m:=i) V hb ?_;refine Bu (SK (U _ (List.getElem_mem hi)) (Y _ (List.getElem_mem hb))) ?_;rintro c ⟨c1,c2⟩;refine Cn (λh=>Ay (.inl ⟨c,V,?_⟩)) (λh=>?_)
   ·rw [Pz (i:=i) (by omega) K he,O,Z,Gd,if_neg (λk=>h (c2.2 k))];exact c1
   ·have heq:=c2.1 (Decidable.not_not.1 h);refine BB ((i+1:Nat):Int) (by simp) (by omega) (by omega) ?_;refine Ay ⟨V,by omega,?_⟩;rw [List.take_add_one,List.take_add_one,he,List.getElem?_eq_getElem hi,List.getElem?_eq_getElem hb,heq]
  ·rintro s ⟨rfl,K,he⟩;unfold ND;rw [List.take_length] at he;exact BV (by omega) (Ay ⟨_,V,.inr ⟨V,K,he⟩⟩)
 ·rintro r (⟨c,rfl,ac⟩ | ⟨rfl,ag,he⟩)
  ·rw [Sum.elim_inl];exact Ay ac
  ·rw [Sum.elim_inr];have e:Gd a b=Gd [] (b.drop a.length):=by
    rw [Pz (i:=a.length) (Nat.le_refl _) ag (by rw [List.take_length];exact he),List.drop_length]
   refine Cn (λh=>Ay ?_) (λh=>Ay ?_)
   ·rw [e];cases hd:b.drop a.length with
    | nil=>have:=congrArg List.length hd;simp at this;omega
    | cons=>simp [Gd]
   ·rw [e,List.drop_eq_nil_of_le (by omega)];simp [Gd]
def G2(b:List DT×Bool)(x:List DT):List DT×Bool:=if(!b.2 || Gd x b.1)=true then(x,true) else b
def Mx(l:List (List DT)):List DT:=(l.foldl G2 ([],false)).1
theorem Uj{F:Nat}{o:OW}(aw:2000<F)(h:VO o):f22 F o=some (Mx (Dw o),0):=by
 obtain⟨ay,al⟩:=Mk (F:=F) (by omega) h;obtain⟨am,m,hm,ap⟩:=Ug (P:=λ_=>true) h.n5 al;refine El ?_;unfold f22;refine Bq (UF (by omega) h) (BV (by simp) ?_);refine Bq (Qu (by omega) h) (Bu (S:=λr=>r.1=Mx (Dw o)) ?_ (λr Z=>Ay (by rw [Z])));have aq:(Dw o).length<=1024:=am;have ac:∀s∈Dw o,s.length=m/\∀d∈s,BD d:=ap;generalize Dw o=L at aq ac ⊢;refine DX L.length (λi s=>s.2.2=(i:Int)/\(s.1,s.2.1)=(L.take i).foldl G2 ([],false)/\∀d∈s.1,BD d) ⟨V,V,by simp⟩ (by omega) ?_ ?_
 ·rintro i ⟨b,t,c⟩ hi ⟨K,O,U⟩;simp only at K O U;subst K;obtain⟨az,ag⟩:=ac _ (List.getElem_mem hi);have av:(L.take (i+1)).foldl G2 ([],false)=G2 (b,t) L[i]:=by
   rw [List.take_add_one,List.getElem?_eq_getElem hi,List.foldl_append,← O];rfl
  unfold NZ;refine CK (by simp only;omega) (C7 (m:=i) V hi ?_);refine Bq (b:=G2 (b,t) L[i]) ?_ ?_
  ·refine El ?_;unfold f72;refine Bu (S:=λc=>c=(!t || Gd L[i] b)) ?_ ?_
   ·refine Cn (λh=>Ay ?_) (λh=>?_)
    ·simp only at h;rw [h];rfl
    ·simp only at h;obtain rfl:t=true:=by simpa using h
     refine Bu (S:=λc=>c=Gd L[i] b) ?_ (λc K=>Ay (by rw [K];simp));unfold f73 f74;refine Bu (S:=λc=>c<0↔Gd L[i] b=true) (Bu (YD (by omega) (by omega) ag U) (λc K=>Ay K)) ?_;intro c K;refine Ay ?_;by_cases Y:Gd L[i] b=true
     ·rw [Y];exact decide_eq_true (K.2 Y)
     ·rw [Bool.eq_false_iff.2 Y];exact decide_eq_false λk=>Y (K.1 k)
   ·rintro c rfl;refine Bu (S:=λr=>r=G2 (b,t) L[i]) ?_ (λr Z=>Ay Z);unfold G2;refine Cn (λh=>Ay ?_) (λh=>Ay ?_)
    ·rw [if_pos h]
    ·rw [if_neg h]
  ·refine BB ((i+1:Nat):Int) (by simp) (by omega) (by omega) (Ay ⟨V,av.symm,?_⟩);simp only;unfold G2;split
   ·exact ag
   ·exact U
 ·rintro⟨b,t,c⟩ ⟨K,O,U⟩;simp only at K O U;subst K;rw [List.take_length] at O;unfold NZ;refine BV (by simp) (Ay ⟨_,V,?_⟩);simp only;unfold Mx;rw [← O]
theorem TG{F:Nat}{o:OW}(K:2000<F)(h:VO o):f24 F o=some (((Dw o).length:Int),0):=by
 refine El ?_;unfold f24;refine Bq (UF (by omega) h) (BV (by simp) ?_);exact Bq (Qu (by omega) h) (Ay V)
def sg(x:Int):Int:=if x<0 then -1 else if x=0 then 0 else 1
theorem TL{x:Int}:0<sg x↔0<x:=by unfold sg;split <;> (try split) <;> omega
theorem Me{x:Int}:sg x=0↔x=0:=by unfold sg;split <;> (try split) <;> omega
theorem TF{x:Int}:sg (-x)= -sg x:=by unfold sg;split <;> split <;> (try split) <;> (try split) <;> omega
def EV(w:List Int)(A:Nat->Bool):Int:=(if A 0 then gN w 0 else 0)+(if A 1 then gN w 1 else 0)+(if A 2 then gN w 2 else 0)+(if A 3 then gN w 3 else 0)+(if A 4 then gN w 4 else 0)
def G5(d:DT):PR:=(d.1,d.2.1)
def QK(p:Int)(x:PR)(m:Int):PR:=if 0<m then(x.1+x.2 - p,p) else(p,x.1+x.2 - p)
def J5(n:Nat):Nat->List PR->((Nat->Bool)->Int)->List PR->Option (List PR)
 | 0,_,T,out=>if(List.range 5).all (λj=>decide (T (λi=>i==j)=0))=true then some out else none
 | k+1,l,T,out=>(I5 n l).bind λp=>
   if T (λj=>j==p)=0 then none else
    J5 n k (l.eraseIdx (l.findIdx (BH p))) (λA=>T λj=>if j=p then A ((l.getD (l.findIdx (BH p)) (0,0)).1+(l.getD (l.findIdx (BH p)) (0,0)).2 - (p:Int)).toNat else A j) (out++ [QK p (l.getD (l.findIdx (BH p)) (0,0)) (T (λj=>j==p))])
theorem Pu{w:List Int}{j:Nat}(K:j<5):EV w (λi=>i==j)=gN w j:=by
 unfold EV
 match j,K with
 | 0,_ | 1,_ | 2,_ | 3,_ | 4,_=>simp
theorem Yh{p o:Nat}(O:p<5)(U:o<5)(K:o≠p)(X:Int):(if 0=p then -X else if 0=o then X else 0)+(if 1=p then -X else if 1=o then X else 0)+(if 2=p then -X else if 2=o then X else 0)+(if 3=p then -X else if 3=o then X else 0)+(if 4=p then -X else if 4=o then X else 0)=0:=by
 obtain rfl | rfl | rfl | rfl | rfl:p=0∨p=1∨p=2∨p=3∨p=4:=by omega
 all_goals
  obtain rfl | rfl | rfl | rfl | rfl:o=0∨o=1∨o=2∨o=3∨o=4:=by omega
  all_goals first | exact absurd rfl K | (simp;try omega)
theorem WB{w v:List Int}{p o:Nat}(O:p<5)(U:o<5)(Y:o≠p)(h:∀j,gN v j=if j=p then 0 else if j=o then gN w o+gN w p else gN w j)(A:Nat->Bool):EV v A=EV w (λj=>if j=p then A o else A j):=by
 have key:∀j,(if A j=true then gN v j else 0)=(if(if j=p then A o else A j)=true then gN w j else 0)+(if j=p then -(if A o=true then gN w p else 0) else if j=o then(if A o=true then gN w p else 0) else 0):=by
  intro j;rw [h];by_cases K:j=p
  ·subst K;rw [if_pos rfl,if_pos rfl,if_pos rfl];cases A o <;> cases A j <;> simp <;> omega
  ·rw [if_neg K,if_neg K,if_neg K];by_cases e2:j=o
   ·subst e2;rw [if_pos rfl,if_pos rfl];cases A j <;> simp
   ·rw [if_neg e2,if_neg e2,Int.add_zero]
 have am:=Yh O U Y (if A o=true then gN w p else 0)
 have Z:=key 0;have k1:=key 1;have ac:=key 2;have ag:=key 3;have al:=key 4;unfold EV;rw [Z,k1,ac,ag,al];generalize (if(if 0=p then A o else A 0)=true then gN w 0 else 0)=ap
 generalize (if(if 1=p then A o else A 1)=true then gN w 1 else 0)=a1
 generalize (if(if 2=p then A o else A 2)=true then gN w 2 else 0)=aq
 generalize (if(if 3=p then A o else A 3)=true then gN w 3 else 0)=av
 generalize (if(if 4=p then A o else A 4)=true then gN w 4 else 0)=aw
 generalize (if A o=true then gN w p else 0)=X at*
 generalize (if 0=p then -X else if 0=o then X else 0)=ay at*
 generalize (if 1=p then -X else if 1=o then X else 0)=az at*
 generalize (if 2=p then -X else if 2=o then X else 0)=a0 at*
 generalize (if 3=p then -X else if 3=o then X else 0)=a2 at*
 generalize (if 4=p then -X else if 4=o then X else 0)=a3 at*
 omega
theorem ZX{w:List Int}{p o:Nat}{x:PR}(hw:w.length=5)(ag:p<5)(al:o<5)(Y:o≠p)(ac:x.1+x.2 - (p:Int)=o)(j:Nat):gN (Kd w (dP p x (gN w p))) j=if j=p then 0 else if j=o then gN w o+gN w p else gN w j:=by
 have Z:∀i v,(Fq w i v).length=5:=λi v=>by unfold Fq;rw [List.length_set];exact hw
 unfold dP;rw [ac];unfold Kd;by_cases h:0<gN w p
 ·rw [if_pos h];simp only;rw [G0 (Z _ _) (by omega) (by omega),G0 hw (by omega) (by omega)];have O:((j:Int)=(p:Int))=(j=p):=propext ⟨by omega,by omega⟩;have U:((j:Int)=(o:Int))=(j=o):=propext ⟨by omega,by omega⟩;simp only [O,U];by_cases K:j=p
  ·subst K;rw [if_neg (Ne.symm Y),if_pos rfl,if_pos rfl];omega
  ·rw [if_neg K,if_neg K];by_cases e2:j=o
   ·subst e2;rw [if_pos rfl,if_pos rfl];omega
   ·rw [if_neg e2,if_neg e2];omega
 ·rw [if_neg h];simp only;rw [G0 (Z _ _) (by omega) (by omega),G0 hw (by omega) (by omega)];have O:((j:Int)=(p:Int))=(j=p):=propext ⟨by omega,by omega⟩;have U:((j:Int)=(o:Int))=(j=o):=propext ⟨by omega,by omega⟩;simp only [O,U];by_cases K:j=p
  ·subst K;rw [if_pos rfl,if_neg (Ne.symm Y),if_pos rfl];omega
  ·rw [if_neg K,if_neg K];by_cases e2:j=o
   ·subst e2;rw [if_pos rfl,if_pos rfl];omega
   ·rw [if_neg e2,if_neg e2];omega
theorem YI{w:List Int}{d:DT}(hw:w.length=5):(Kd w d).length=5:=by unfold Kd Fq;rw [List.length_set,List.length_set];exact hw
theorem Sw{n:Nat}(am:n<=5):∀(k:Nat) (l:List PR) (w:List Int) (T:(Nat->Bool)->Int) (out:List DT),l.length=k->(∀x∈l,VP n x)->w.length=5->(∀A,T A=sg (EV w A))->(FB n k l w out).map (List.map G5)=J5 n k l T (out.map G5)
 | 0,l,w,T,out,_,_,hw,K=>by
  have key:(List.range 5).all (λj=>decide (T (λi=>i==j)=0))=true↔w=List.replicate 5 0:=by
   rw [List.all_eq_true];constructor
   ·intro h;refine XW hw V λj U=>?_;have:=of_decide_eq_true (h j (List.mem_range.2 U));rw [K,Me,Pu U] at this;rw [this];unfold gN;rw [List.getD_eq_getElem?_getD,List.getElem?_replicate];split <;> rfl
   ·rintro rfl j U;refine decide_eq_true ?_;rw [K,Me,Pu (List.mem_range.1 U)];unfold gN;rw [List.getD_eq_getElem?_getD,List.getElem?_replicate];split <;> rfl
  unfold FB J5;by_cases h:w=List.replicate 5 0
  ·rw [if_pos h,if_pos (key.2 h)];rfl
  ·rw [if_neg h,if_neg (λe=>h (key.1 e))];rfl
 | k+1,l,w,T,out,az,ac,hw,K=>by
  unfold FB J5;cases ap:I5 n l with
  | none=>rfl
  | some p=>
   simp only [Option.bind_some];have ag:=ap;unfold I5 at ag;obtain⟨c1,c2,c3⟩:=List.find?_range_eq_some.1 ag;have a0:l.countP (BH p)=1:=by simpa using c1
   have c2:=List.mem_range.1 c2;have Y:l.findIdx (BH p)<l.length:=by
    obtain⟨x,O,al⟩:=List.countP_pos_iff.1 (show 0<l.countP (BH p) by omega);exact List.findIdx_lt_length_of_exists ⟨x,O,al⟩
   rw [Pp Y];have al:l[l.findIdx (BH p)].1=(p:Int)∨l[l.findIdx (BH p)].2=(p:Int):=by
    have key:∀x:PR,BH p x=true->x.1=(p:Int)∨x.2=(p:Int):=λx h=>by unfold BH at h;simpa using h
    exact key _ List.findIdx_getElem
   have O:=ac _ (List.getElem_mem Y);obtain⟨a1,x2,a2⟩:=O;have hle:(l.eraseIdx (l.findIdx (BH p))).length=k:=by rw [List.length_eraseIdx_of_lt Y];omega
   have aq:∀x∈l.eraseIdx (l.findIdx (BH p)),VP n x:=λx O=>ac x (List.mem_of_mem_eraseIdx O);generalize l[l.findIdx (BH p)]=x at*;obtain⟨o,av⟩:∃o:Nat,x.1+x.2 - (p:Int)=(o:Int):=⟨(x.1+x.2 - (p:Int)).toNat,by omega⟩;have Z:T (λj=>j==p)=sg (gN w p):=by rw [K,Pu (by omega)]
   have aw:QK p x (T (λj=>j==p))=G5 (dP p x (gN w p)):=by
    rw [Z];unfold QK dP G5;by_cases h:0<gN w p
    ·rw [if_pos (TL.2 h),if_pos h]
    ·rw [if_neg (λe=>h (TL.1 e)),if_neg h]
   by_cases h:gN w p=0
   ·rw [if_pos h,if_pos (by rw [Z];exact Me.2 h)];rfl
   ·rw [if_neg h,if_neg (by rw [Z];exact λe=>h (Me.1 e))];rw [Sw am k _ _ (λA=>T λj=>if j=p then A (x.1+x.2 - (p:Int)).toNat else A j) _ hle aq (YI hw) ?_,List.map_append,List.map_singleton,aw]
    intro A;have ay:(x.1+x.2 - (p:Int)).toNat=o:=by omega
    rw [K,ay,WB (p:=p) (o:=o) (by omega) (by omega) (by omega) (ZX hw (by omega) (by omega) (by omega) av) A]
def UY(a b c d e f g:Int)(A:Nat->Bool):Int:=
 match A 0,A 1,A 2,A 3 with
 | false,false,false,false=>0
 | true,false,false,false=>a
 | false,true,false,false=>b
 | true,true,false,false=>e
 | false,false,true,false=>c
 | true,false,true,false=>f
 | false,true,true,false=> -g
 | true,true,true,false=> -d
 | false,false,false,true=>d
 | true,false,false,true=>g
 | false,true,false,true=> -f
 | true,true,false,true=> -c
 | false,false,true,true=> -e
 | true,false,true,true=> -b
 | false,true,true,true=> -a
 | true,true,true,true=>0
def Hc(x y z:Int):Bool:=(x != y || z==x)&&(x != 0 || z==y)&&(y != 0 || z==x)
theorem ae{x y z:Int}(h:x+y=z):Hc (sg x) (sg y) (sg z)=true:=by
 subst h;unfold Hc sg;by_cases K:x<0 <;> by_cases O:x=0 <;> by_cases U:y<0 <;> by_cases Y:y=0 <;> by_cases Z:x+y<0 <;> by_cases ac:x+y=0 <;> first | (exfalso;omega) | (simp only [K,O,U,Y,Z,ac,if_true,if_false];rfl) | (simp [K,O,U,Y,Z,ac]) | skip
def QU(a b c d e f g:Int):Bool:=Hc a b e&&Hc a c f&&Hc a d g&&Hc c d (-e)&&Hc b d (-f)&&Hc b c (-g)&&Hc e c (-d)&&Hc e d (-c)&&Hc f b (-d)&&Hc f d (-b)&&Hc g b (-c)&&Hc g c (-b)
def S3:List Int:= [-1,0,1]
theorem KI(x:Int):sg x∈S3:=by unfold sg S3;split <;> (try split) <;> simp
def JH(n:Nat)(P:((Nat->Bool)->Int)->Bool):Bool:=
 (if n<=3 then [0] else S3).all λd=>(if n<=2 then [0] else S3).all λc=>S3.all λa=>S3.all λb=>S3.all λe=>S3.all λf=>S3.all λg=> !QU a b c d e f g || P (UY a b c d e f g)
theorem Wj{n:Nat}{P:((Nat->Bool)->Int)->Bool}(h:JH n P=true){w:List Int}(hw:w.length=5)(K:∀j,n<=j->gN w j=0)(ac:n<=4)(ag:gN w 0+gN w 1+gN w 2+gN w 3=0):∃T,P T=true/\∀A,T A=sg (EV w A):=by
 have U:=K 4 (by omega);have hd:sg (gN w 3)∈(if n<=3 then [0] else S3):=by
  split
  ·rw [K 3 (by assumption)];simp [sg]
  ·exact KI _
 have Y:sg (gN w 2)∈(if n<=2 then [0] else S3):=by
  split
  ·rw [K 2 (by assumption)];simp [sg]
  ·exact KI _
 unfold JH at h;have O:=List.all_eq_true.1 (List.all_eq_true.1 (List.all_eq_true.1 (List.all_eq_true.1 (List.all_eq_true.1 (List.all_eq_true.1 (List.all_eq_true.1 h _ hd) _ Y) _ (KI (gN w 0))) _ (KI (gN w 1))) _ (KI (gN w 0+gN w 1))) _ (KI (gN w 0+gN w 2))) _ (KI (gN w 0+gN w 3));have Z:QU (sg (gN w 0)) (sg (gN w 1)) (sg (gN w 2)) (sg (gN w 3)) (sg (gN w 0+gN w 1)) (sg (gN w 0+gN w 2)) (sg (gN w 0+gN w 3))=true:=by
  unfold QU;simp only [Bool.and_eq_true,← TF];refine⟨⟨⟨⟨⟨⟨⟨⟨⟨⟨⟨?_,?_⟩,?_⟩,?_⟩,?_⟩,?_⟩,?_⟩,?_⟩,?_⟩,?_⟩,?_⟩,?_⟩ <;> exact ae (by omega)
 rw [Z] at O;refine⟨_,by simpa using O,λA=>?_⟩;unfold UY EV;rw [U];simp only [← TF];cases A 0 <;> cases A 1 <;> cases A 2 <;> cases A 3 <;> simp <;> first | rfl | (congr 1;omega) | (refine(Me.2 ?_).symm;omega)
def Ou(n:Nat)(T:(Nat->Bool)->Int)(P:PR->Bool)(m:Nat):List (List PR):=(Hr m ((Es n).filter P)).filterMap λS=>J5 n S.length S T []
def FD(n:Nat)(T:(Nat->Bool)->Int)(P:PR->Bool):List (List PR):=(((List.range n).map λm=>Ou n T P m).find? λl=> !l.isEmpty).getD []
theorem X4(l:List DT):((Et l).map G5).Perm (l.map G5):=by
 have ins:∀(d:DT) (l:List DT),(Ga d l).Perm (d::l):=by
  intro d l
  induction l with
  | nil=>exact List.Perm.refl _
  | cons z K O=>
   unfold Ga;split
   ·exact List.Perm.refl _
   ·exact(O.cons z).trans (List.Perm.swap d z K)
 refine Mh (P:=λl=>((Et l).map G5).Perm (l.map G5)) (List.Perm.refl _) (λl d h=>?_) l;rw [L3,List.map_append];exact((ins d _).map G5).trans (((h.cons (G5 d))).trans (List.perm_append_singleton (G5 d) _).symm)
def UX(s:List DT)(t:List PR):Prop:=(s.map G5).Perm t
theorem Yi{n:Nat}{w:List Int}{T:(Nat->Bool)->Int}(O:n<=5)(hw:w.length=5)(U:∀A,T A=sg (EV w A)){c:List PR}(Y:∀x∈c,VP n x):(Hz n w c=none/\J5 n c.length c T []=none)∨∃s t,Hz n w c=some s/\J5 n c.length c T []=some t/\UX s t:=by
 have h:=Sw O c.length c w T [] V Y hw U;unfold Hz;cases K:FB n c.length c w [] with
 | none=>rw [K] at h;exact .inl ⟨rfl,h.symm⟩
 | some r=>rw [K] at h;exact .inr ⟨Et r,r.map G5,rfl,h.symm,X4 r⟩
inductive FQ:List (List DT)->List (List PR)->Prop
 | nil:FQ [] []
 | cons {s t K O}:UX s t->FQ K O->FQ (s::K) (t::O)
theorem FQ.filterMap{n:Nat}{w:List Int}{T:(Nat->Bool)->Int}(U:n<=5)(hw:w.length=5)(Y:∀A,T A=sg (EV w A)):∀{C:List (List PR)},(∀c∈C,∀x∈c,VP n x)->FQ (C.filterMap (Hz n w)) (C.filterMap λS=>J5 n S.length S T [])
 | [],_=> .nil
 | c::C,h=>by
  have Z:=FQ.filterMap U hw Y (C:=C) λd hd=>h d (List.mem_cons_of_mem _ hd)
  rcases Yi U hw Y (h c List.mem_cons_self) with⟨K,O⟩ | ⟨s,t,K,O,ac⟩
  ·simp only [List.filterMap_cons,K,O];exact Z
  ·simp only [List.filterMap_cons,K,O];exact .cons ac Z
theorem FQ.PF{S:List (List DT)}{R:List (List PR)}(h:FQ S R):S.isEmpty=R.isEmpty:=by cases h <;> rfl
theorem S4{n:Nat}{w:List Int}{T:(Nat->Bool)->Int}{P:PR->Bool}{m:Nat}(K:n<=5)(hw:w.length=5)(O:∀A,T A=sg (EV w A)):FQ (Dg n w P m [] (Es n)) (Ou n T P m):=by
 unfold Dg Ou;simp only [List.nil_append];exact FQ.filterMap K hw O λc U x Y=>Pv (List.mem_filter.1 ((L4 U).2 Y)).1
theorem T1{n:Nat}{w:List Int}{T:(Nat->Bool)->Int}{P:PR->Bool}(K:n<=5)(hw:w.length=5)(O:∀A,T A=sg (EV w A)):FQ (FW n w P) (FD n T P):=by
 unfold FW FD;rw [List.find?_map,List.find?_map];have e:((λl:List (List DT)=> !l.isEmpty)∘λm=>Dg n w P m [] (Es n))=((λl:List (List PR)=> !l.isEmpty)∘λm=>Ou n T P m):=by
  funext m;simp only [Function.comp,(S4 (P:=P) (m:=m) K hw O).PF]
 rw [e];cases (List.range n).find? _ with
 | none=>exact .nil
 | some m=>exact S4 K hw O
def KV(w:List Int):Int:=gN w 0+gN w 1+gN w 2+gN w 3+gN w 4
theorem SE{w:List Int}{i v:Int}(hw:w.length=5)(K:0<=i)(O:i<5):KV (Fq w i v)=KV w+v:=by
 unfold KV;rw [G0 hw K O,G0 hw K O,G0 hw K O,G0 hw K O,G0 hw K O];obtain rfl | rfl | rfl | rfl | rfl:i=0∨i=1∨i=2∨i=3∨i=4:=by omega
 all_goals simp;omega
theorem XM{o:OW}(h:VO o):KV (CH o)=0:=by
 have Y:=h.n5;have:∀(ds:List DT) (w:List Int),w.length=5->KV w=0->(∀d∈ds,VD o.1.length d)->KV (ds.foldl I6 w)=0:=by
  intro ds
  induction ds with
  | nil=>exact λw _ hw _=>hw
  | cons d ds O=>
   intro w K hw hd;obtain⟨v1,v2,Z,v4,_⟩:=hd d List.mem_cons_self;have l1:(Fq w d.2.1 d.2.2).length=5:=by unfold Fq;rw [List.length_set];exact K
   refine O _ (by unfold I6 Fq;rw [List.length_set,List.length_set];exact K) ?_ λx U=>hd x (List.mem_cons_of_mem _ U);unfold I6;rw [SE l1 (by omega) (by omega),SE K (by omega) (by omega),hw];omega
 exact this _ _ V V h.ds
open Go Go.Conc Go.Proofs Go.Proofs.Tryz
end Pal
namespace Pal
def Zb(n:Nat)(w:List Int):Prop:=∀j,n<=j->gN w j=0
theorem ao{w:List Int}{i j:Nat}{v:Int}(h:i≠j):gN (w.set i v) j=gN w j:=by
 unfold gN;rw [List.getD_eq_getElem?_getD,List.getElem?_set_ne h,List.getD_eq_getElem?_getD]
theorem Zb.add{n:Nat}{w:List Int}{i v:Int}(h:Zb n w)(hi:i<n)(O:0<=i):Zb n (Fq w i v):=λj K=>by
 unfold Fq
 rw [ao (by omega)]
 exact h j K
theorem Zb.zero(n:Nat):Zb n (List.replicate 5 0):=λj _=>by
 unfold gN
 rw [List.getD_eq_getElem?_getD,List.getElem?_replicate]
 split <;> rfl
theorem YY{o:OW}(h:VO o):Zb o.1.length (CH o):=by
 have:∀(ds:List DT) (w:List Int),Zb o.1.length w->(∀d∈ds,VD o.1.length d)->Zb o.1.length (ds.foldl I6 w):=by
  intro ds
  induction ds with
  | nil=>exact λw hw _=>hw
  | cons d ds K=>
   intro w hw hd;obtain⟨v1,v2,O,v4,_⟩:=hd d List.mem_cons_self;exact K _ ((hw.add v4 O).add v2 v1) λx U=>hd x (List.mem_cons_of_mem _ U)
 exact this _ _ (Zb.zero _) h.ds
def HE(x y:Int)(d:DT):Bool:=decide (d.1=x)&&decide (d.2.1=y)
def cnt(x y:Int)(L:List (List DT)):Nat:=L.flatten.countP (HE x y)
theorem aj{F:Nat}{o:OW}{x y:Int}(av:100<F)(h:NV 40 o):∃e,f105 F o x y=some e/\((e≠0/\∃z,f70 F o [x,y]=some (z,e))∨(e=0/\f70 F o [x,y]=some (o,0)/\VO o/\(0<=x/\x<o.1.length)/\(0<=y/\y<o.1.length)/\x≠y)):=by
 obtain⟨r,ap,aw⟩:=T8 av h;have aq:f47 F o=some r:=(P1 F o).trans ap;have a2:=h.l1;have U:f105 F o x y=some (if r≠0 then r else if ¬(0<=x/\x<=(o.1.length:Int) - 1)∨¬(0<=y/\y<=(o.1.length:Int) - 1) then 3 else if x=y then 8 else 0):=by
  refine El ?_;unfold f105;refine Bq ap (Cn (λO=>Ay (by rw [if_pos O])) (λO=>?_));refine BB _ V (by omega) (by omega) (Bq (Jv _ _ _ _) ?_);refine Bu (S:=λc=>c=decide (¬(0<=x/\x<=(o.1.length:Int) - 1)∨¬(0<=y/\y<=(o.1.length:Int) - 1))) ?_ ?_
  ·refine Cn (λag=>Ay ?_) (λag=>?_)
   ·have:¬(0<=x/\x<=(o.1.length:Int) - 1):=by simp at ag;omega
    exact(decide_eq_true (.inl this)).symm
   ·have ay:0<=x/\x<=(o.1.length:Int) - 1:=by simpa using ag
    refine BB _ V (by omega) (by omega) (Bq (Jv _ _ _ _) (Ay ?_));by_cases Z:0<=y/\y<=(o.1.length:Int) - 1
    ·rw [decide_eq_true Z,decide_eq_false (λk=>k.elim (λk=>k ay) (λk=>k Z))];rfl
    ·rw [decide_eq_false Z,decide_eq_true (.inr Z)];rfl
  ·rintro c rfl;rw [if_neg O];refine Cn (λK=>Ay ?_) (λK=>?_)
   ·rw [if_pos (of_decide_eq_true K)]
   ·rw [if_neg (λk=>K (decide_eq_true k))];refine Cn (λhe=>Ay (by rw [if_pos he])) (λhe=>Ay (by rw [if_neg he]))
 by_cases O:r≠0
 ·refine⟨r,by rw [U,if_pos O],.inl ⟨O,([],[]),?_⟩⟩;refine El ?_;unfold f70;exact Bq aq (CK O (Ay V))
 have az:=aw.1 (Decidable.not_not.1 O);have Y:f70 F o [x,y]=some (if ¬(0<=x/\x<=(o.1.length:Int) - 1)∨¬(0<=y/\y<=(o.1.length:Int) - 1) then(([],[]),3) else if x=y then(([],[]),8) else(o,0)):=by
  refine El ?_;unfold f70;refine Bq aq (BV O ?_);refine Bu (S:=λq=>(q=Sum.inl (([],[]),3)/\(¬(0<=x/\x<=(o.1.length:Int) - 1)∨¬(0<=y/\y<=(o.1.length:Int) - 1)))∨(q=Sum.inr ()/\¬(¬(0<=x/\x<=(o.1.length:Int) - 1)∨¬(0<=y/\y<=(o.1.length:Int) - 1)))) ?_ ?_
  ·refine DX 2 (λi s=>s=(i:Int)/\∀j z,j<i-> [x,y][j]? =some z->0<=z/\z<=(o.1.length:Int) - 1) ⟨V,by simp⟩ (by omega) ?_ ?_
   ·rintro i s hi ⟨rfl,ac⟩;obtain⟨z,al⟩:∃z,[x,y][i]? =some z:=⟨_,List.getElem?_eq_getElem (by simp;omega)⟩;have a0:z=x∨z=y:=by
     have:=List.mem_of_getElem? al;simpa using this
    unfold NO;refine CK (by simp only [List.length_cons,List.length_nil];omega) (Bq (FM (m:=i) V al) ?_);refine BB _ V (by omega) (by omega) (Bq (ZJ _ _ _ _) ?_);refine Cn (λK=>Ay (.inl ⟨V,?_⟩)) (λK=>?_)
    ·have:¬(0<=z/\z<=(o.1.length:Int) - 1):=by simp at K;omega
     rcases a0 with rfl | rfl
     ·exact .inl this
     ·exact .inr this
    ·have a1:0<=z/\z<=(o.1.length:Int) - 1:=by simpa using K
     refine BB ((i+1:Nat):Int) (by simp) (by omega) (by omega) (Ay ⟨V,λj u am hu=>?_⟩);rcases Nat.lt_succ_iff_lt_or_eq.1 am with am | rfl
     ·exact ac j u am hu
     ·rw [al] at hu;cases hu;exact a1
   ·rintro s ⟨rfl,ac⟩;unfold NO;refine BV (by simp) (Ay ⟨_,V,.inr ⟨V,?_⟩⟩);rintro(k | k)
    ·exact k (ac 0 x (by omega) V)
    ·exact k (ac 1 y (by omega) V)
  ·rintro q (⟨rfl,k⟩ | ⟨rfl,k⟩)
   ·rw [Sum.elim_inl,if_pos k];exact Ay V
   ·rw [Sum.elim_inr,if_neg k];refine Bu (S:=λc=>c=decide (x=y)) ?_ ?_
    ·refine CK (by simp) (Bq (FM (m:=0) (b:=x) V V) ?_);exact Bq (FM (m:=1) (b:=y) V V) (Ay V)
    ·rintro c rfl;refine Cn (λK=>Ay ?_) (λK=>Ay ?_)
     ·rw [if_pos (of_decide_eq_true K)]
     ·rw [if_neg (λe=>K (decide_eq_true e))]
 rw [if_neg O] at U;by_cases k:¬(0<=x/\x<=(o.1.length:Int) - 1)∨¬(0<=y/\y<=(o.1.length:Int) - 1)
 ·rw [if_pos k] at U Y;exact⟨3,U,.inl ⟨by decide,_,Y⟩⟩
 ·rw [if_neg k] at U Y;by_cases e:x=y
  ·rw [if_pos e] at U Y;exact⟨8,U,.inl ⟨by decide,_,Y⟩⟩
  ·rw [if_neg e] at U Y;exact⟨0,U,.inr ⟨V,Y,az,by omega,by omega,e⟩⟩
theorem Y1{F:Nat}{x y:Int}{L:List (List DT)}(ap:2000<F)(aq:L.length<=1024)(U:∀s∈L,s.length<=10):BM (Pal.iter (Ml F x y L) F (0,0)) (λr=>r=((cnt x y L:Nat):Int)):=by
 have ac:∀i,i<=L.length->cnt x y (L.take i)<=10*i:=by
  intro i
  induction i with
  | zero=>intro _;unfold cnt;simp
  | succ i ag=>
   intro hi;have al:=ag (by omega);have Y:i<L.length:=by omega
   have av:=U _ (List.getElem_mem Y);have aw:=List.countP_le_length (p:=HE x y) (l:=L[i]);unfold cnt at al ⊢;rw [List.take_add_one,List.getElem?_eq_getElem Y,List.flatten_append,List.countP_append];simp only [Option.toList_some,List.flatten_cons,List.flatten_nil,List.append_nil];omega
 refine DX L.length (λi s=>s.2=(i:Int)/\s.1=((cnt x y (L.take i):Nat):Int)) ⟨V,V⟩ (by omega) ?_ ?_
 ·rintro i ⟨a,c⟩ hi ⟨O,K⟩;simp only at O K;subst O;subst K;have ay:=ac i (by omega);have az:=U _ (List.getElem_mem hi);unfold Ml;refine CK (by simp only;omega) (C7 (m:=i) V hi ?_);refine Bu (S:=λr=>r=((cnt x y (L.take (i+1)):Nat):Int)) ?_ ?_
  ·have am:cnt x y (L.take (i+1))=cnt x y (L.take i)+L[i].countP (HE x y):=by
    unfold cnt;rw [List.take_add_one,List.getElem?_eq_getElem hi,List.flatten_append,List.countP_append];simp only [Option.toList_some,List.flatten_cons,List.flatten_nil,List.append_nil]
   refine DX L[i].length (λj s=>s.2=(j:Int)/\s.1=((cnt x y (L.take i)+(L[i].take j).countP (HE x y):Nat):Int)) ⟨V,by simp⟩ (by omega) ?_ ?_
   ·rintro j ⟨a,c⟩ Z ⟨O,K⟩;simp only at O K;subst O;subst K;have hle:(L[i].take j).countP (HE x y)<=j:=by
     refine Nat.le_trans List.countP_le_length ?_;rw [List.length_take];omega
    have key:(L[i].take (j+1)).countP (HE x y)=(L[i].take j).countP (HE x y)+if HE x y L[i][j]=true then 1 else 0:=by
     rw [List.take_add_one,List.getElem?_eq_getElem Z,List.countP_append];simp only [Option.toList_some,List.countP_cons,List.countP_nil,Nat.zero_add]
    unfold NW;refine CK (by simp only;omega) (C7 (m:=j) V Z ?_);refine Bu (S:=λc=>c=HE x y L[i][j]) ?_ ?_
    ·unfold HE;refine Cn (λh=>Ay (by simp [h])) (λh=>Ay (by simp [h]))
    rintro c rfl;refine Bu (S:=λr=>r=((cnt x y (L.take i)+(L[i].take (j+1)).countP (HE x y):Nat):Int)) ?_ ?_
    ·refine Cn (λh=>?_) (λh=>?_)
     ·refine BB ((cnt x y (L.take i)+(L[i].take (j+1)).countP (HE x y):Nat):Int) ?_ (by omega) (by rw [key,if_pos h];omega) (Ay V);rw [key,if_pos h];simp only;omega
     ·exact Ay (by rw [key,if_neg h];rfl)
    ·rintro r rfl;exact BB ((j+1:Nat):Int) (by simp) (by omega) (by omega) (Ay ⟨V,V⟩)
   ·rintro⟨a,c⟩ ⟨O,K⟩;simp only at O K;subst O;unfold NW;rw [List.take_length] at K;exact BV (by simp) (Ay ⟨_,V,by rw [am];exact K⟩)
  ·rintro r rfl;exact BB ((i+1:Nat):Int) (by simp) (by omega) (by omega) (Ay ⟨V,V⟩)
 ·rintro⟨a,c⟩ ⟨O,K⟩;simp only at O K;subst O;unfold Ml;rw [List.take_length] at K;exact BV (by simp) (Ay ⟨_,V,K⟩)
theorem Sb{o:OW}(h:VO o)(P:PR->Bool):(FW o.1.length (CH o) P).length<=1024/\∃m,m<=5/\∀s∈FW o.1.length (CH o) P,s.length=m:=by
 obtain⟨-,hw⟩:=Mk (F:=101) (by omega) h;obtain⟨K,m,O,U⟩:=Ug (P:=P) h.n5 hw;exact⟨K,m,O,λs Y=>(U s Y).1⟩
theorem ZV(F:Nat)(a b:Int):f93 F a b=some (if a=0 then 2 else if a<b then 3 else 1):=by
 refine El ?_;unfold f93;refine Bu (S:=λq=>(q=Sum.inl 2/\a=0)∨(q=Sum.inr (if a<b then 3 else 1)/\¬a=0)) ?_ ?_
 ·refine Cn (λk=>Ay (.inl ⟨V,k⟩)) (λk=>?_);refine Cn (λK=>?_) (λK=>?_)
  ·refine BB 2 V (by omega) (by omega) (Bu (S:=λr=>r=3) (CK K (BB 3 V (by omega) (by omega) (Ay V))) ?_);rintro r rfl;exact Ay (.inr ⟨by rw [if_pos K],k⟩)
  ·refine Bu (S:=λr=>r=1) (BV K (Ay V)) ?_;rintro r rfl;exact Ay (.inr ⟨by rw [if_neg K],k⟩)
 ·rintro q (⟨rfl,k⟩ | ⟨rfl,k⟩)
  ·rw [Sum.elim_inl,if_pos k];exact Ay V
  ·rw [Sum.elim_inr,if_neg k];exact Ay V
theorem bC{F:Nat}{o:OW}{x y:Int}(Z:3000<F)(K:VO o)(ac:0<=x/\x<o.1.length)(ag:0<=y/\y<o.1.length)(U:x≠y):f70 F o [x,y]=some (o,0):=by
 obtain⟨e,Y,⟨he,z,O⟩ | ⟨rfl,O,-⟩⟩:=aj (x:=x) (y:=y) (show 100<F by omega) K.nv
 ·exfalso;have:f105 F o x y=some 0:=by
   refine El ?_;unfold f105;refine Bq (show f48 F o=some 0 from (P1 F o).symm.trans (Uv (by omega) K)) (BV (by simp) ?_);have al:=K.n5;refine BB _ V (by omega) (by omega) (Bq (Jv _ _ _ _) ?_);refine Bu (S:=λc=>c=false) ?_ ?_
   ·refine BV (by simp;omega) (BB _ V (by omega) (by omega) ?_);refine Bq (Jv _ _ _ _) (Ay ?_);simp;omega
   ·rintro c rfl;exact BV (by simp) (BV U (Ay V))
  rw [Y] at this;exact he (Option.some.inj this)
 ·exact O
open Go Go.Conc Go.Proofs Go.Proofs.Tryz
variable {E:LH}
variable {J:Judge Tryz.prog}
variable {J:Judge Tryz.prog}
variable {J:Judge Tryz.prog}
end Pal
namespace Pal
def cq(o:OW)(a b:Int):Bool:=o.2.any λd=>decide (d.1=a)&&decide (d.2.1=b)
def Fc(c:List Int):Int:=c.getD (c.length - 1) 0
def cW(o:OW)(c:List Int)(h:Nat):Bool:= !decide ((h:Int)∈c)&&(decide (c= []) || cq o (Fc c) h)
def cO(o:OW)(c:List Int)(i:Nat):List (List Int):=((List.range i).filter (cW o c)).map λh:Nat=>c++ [(h:Int)]
def ext(o:OW)(c:List Int):List (List Int):=cO o c o.1.length
theorem YA{w:List Int}{d:DT}(h:w.length=5):(I6 w d).length=5:=by unfold I6 Fq;rw [List.length_set,List.length_set];exact h
def n1(j:Int)(d:DT):Int:=(if j=d.2.1 then d.2.2 else 0)+(if j=d.1 then -d.2.2 else 0)
end Pal
