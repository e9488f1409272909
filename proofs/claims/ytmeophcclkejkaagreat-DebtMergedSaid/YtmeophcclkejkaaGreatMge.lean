/- DebtMerged: merged debts have the same nets and settlements: a part (5 of 8) of the proof of its row. -/
import Derived.Test.YtmeophcclkejkaaGreatMga
import Derived.Test.YtmeophcclkejkaaGreatMgb
import Derived.Test.YtmeophcclkejkaaGreatMgc
import Derived.Test.YtmeophcclkejkaaGreatMgd
set_option linter.all false
set_option maxRecDepth 100000
namespace Pal
open Go Go.Conc Go.Conc.Lib Go.Proofs Go.ConcR.Gen
theorem JL.uA{J:Judge Tryz.prog}{F:Fam}{Q:GP}{b:Frame}{n:Nat}{L:Env}{ds:Ld_}{k:Li_}{cs:Lf_}{s:St}{ops:Ao_}{i:Nat}{rest:List Nat}{d:Option Tmp}{x:Operand}{ty:TypeId}{p:String}{af:Ae_}{g:On_}(K:Fl b n L ops i=some ⟨d,.fieldAddr 140 x 0,ty,p,af,g⟩)(O:ev L x=some (.pointer (some F.uA)))(h:JL J Q b n (Au L d (.pointer (some F.uA))) ds (.inRegion ops rest::k) cs s):JL J Q b n L ds (.inRegion ops (i::rest)::k) cs s:=Am K (λρ h=>Jk (a:=F.uA) 0 0 Tryz.underlying140 (AN Tryz.type21) V V V (h _ _ O)) h
theorem Z9{P:Program}{J:Judge P}{Q:GP}{n:Nat}{L:Env}{ds:Ld_}{c:Code}{k:Li_}{cs:Lf_}{s:St}{b:Frame}(h:∀K,K=k->JL J Q b n L ds (.code c::K) cs s):JL J Q b n L ds (.code c::k) cs s:=h _ V
theorem UF{P:Program}{J:Judge P}{Q:GP}{n:Nat}{L:Env}{ds:Ld_}{k:Li_}{cs:Lf_}{s:St}{b:Frame}(h:∀K,K=k->JL J Q b n L ds K cs s):JL J Q b n L ds k cs s:=h _ V
theorem Im:(Tryz.prog.funcs[189]?).any (·.norace)=true:=by rw [Tryz.func189];rfl
theorem bU:(Tryz.prog.funcs[163]?).any (·.norace)=true:=by rw [Tryz.func163];rfl
theorem bB:(Tryz.prog.funcs[191]?).any (·.norace)=true:=by rw [Tryz.func191];rfl
theorem Qm:(Tryz.prog.funcs[211]?).any (·.norace)=true:=by rw [Tryz.func211];rfl
theorem PU:(Tryz.prog.info? 140).map (λi=>decide (i.size=0))=some false:=(congrArg (Option.map (λi=>decide (i.size=0))) Tryz.type140).trans V
abbrev G0:=Bool×Bool×Nat×M4×Int
def UD(a:G0):Prop:=(a.2.1=true->a.2.2.2.1.k=true)/\a.2.2.1<=4/\C7 a.2.2.2.1
def Qo(a:G0):LP:= .Cg a.1 a.2.1 a.2.2.1 a.2.2.2.1
theorem Yj{F:Fam}{sv aw:Bool}{it:Nat}{old:M4}{q:Nat}(h:old.l=false/\old.s=false):(mN sv aw old,q,#[Fam.Ca F.uA,Fam.Ew F.uA],some LP.len)∈F.BW (.Cg sv aw it old) old q:=by
 obtain⟨l,k,s,w⟩:=old;obtain⟨K,O⟩:=h;simp only at K O;subst K O;simp [Fam.BW,Fam.Fw,mN]
theorem Sw{F:Fam}{sv aw:Bool}{it:Nat}{old:M4}{q:Nat}(h:¬(old.l=false/\old.s=false))(x:LP)(K:x= .Ij sv∨x= .Cs sv):(mN sv aw old,q,#[Fam.Ca F.uA,Fam.Ew F.uA],some x)∈F.BW (.Cg sv aw it old) old q:=by
 obtain⟨l,k,s,w⟩:=old;show _∈F.Fw _ _ _ _ _ _;unfold Fam.Fw;rw [List.mem_append];right;rw [if_pos rfl,if_neg h];cases l <;> cases s <;> simp [mN] at h ⊢ <;> rcases K with rfl | rfl <;> simp
theorem Xw{F:Fam}{sv aw:Bool}{it:Nat}{old m:M4}{q:Nat}(h:m≠old):(m,q,#[Fam.Ca F.uA],some (LP.Ek sv aw it))∈F.BW (.Cg sv aw it old) m q:=by
 show _∈F.Fw _ _ _ _ _ _;unfold Fam.Fw;rw [List.mem_append];right;rw [if_neg h];exact List.mem_singleton.2 V
theorem YS{F:Fam}{sv:Bool}{it:Nat}{old:M4}{q:Nat}(K:old.l=true/\old.s=false)(O:it<4)(U:old.k=false)(Y:old.w≠0):(({old with k:=true}:M4),q,#[Fam.Ca F.uA,Fam.Ew F.uA],some (LP.Ek sv true (it+1)))∈F.BW (.Cg sv false it old) old q:=by
 show _∈F.Fw _ _ _ _ _ _;unfold Fam.Fw;rw [List.mem_append];left;rw [if_pos ⟨K.1,K.2,O⟩,if_pos ⟨rfl,U,Y⟩,if_pos rfl];exact List.mem_singleton.2 V
theorem Y7{F:Fam}{sv:Bool}{it:Nat}{old m:M4}{q:Nat}(K:old.l=true/\old.s=false)(O:it<4)(U:old.k=false)(Y:old.w≠0)(hm:m≠old):(m,q,#[Fam.Ca F.uA],some (LP.Ek sv false (it+1)))∈F.BW (.Cg sv false it old) m q:=by
 show _∈F.Fw _ _ _ _ _ _;unfold Fam.Fw;rw [List.mem_append];left;rw [if_pos ⟨K.1,K.2,O⟩,if_pos ⟨rfl,U,Y⟩,if_neg hm];exact List.mem_singleton.2 V
theorem P0{F:Fam}{sv aw:Bool}{it:Nat}{old m:M4}{q:Nat}(K:old.l=true/\old.s=false)(O:it<4)(U:¬(aw=false/\old.k=false/\old.w≠0)):(m,q,#[],some (LP.Cg sv aw (it+1) m))∈F.BW (.Cg sv aw it old) m q:=by
 show _∈F.Fw _ _ _ _ _ _;unfold Fam.Fw;rw [List.mem_append];left;rw [if_pos ⟨K.1,K.2,O⟩,if_neg U];exact List.mem_singleton.2 V
theorem GZ(m:M4)(h:m.s=true):m={m with l:=m.l || !m.s}:=by
 obtain⟨l,k,s,w⟩:=m;simp only at h;subst h;simp
set_option maxHeartbeats 4000000 in
theorem Wk{F:Fam}{n:Nat}{L:Env}{ds:Ld_}{k:Li_}{cs:Lf_}{s:St}{b:Frame}{ops:Ao_}{i:Nat}{rest:List Nat}{d:Option Tmp}{x:Operand}{ats:Array TypeId}{ty:TypeId}{pp:String}{af:Ae_}{g:On_}{kk:Nat}(ac:s.q=false)(cR:ops[i]? =some ⟨d,.call ⟨.value (.func 189),#[x],ats⟩,ty,pp,af,g⟩)(hw:AJ L ops ⟨d,.call ⟨.value (.func 189),#[x],ats⟩,ty,pp,af,g⟩=some true)(cT:((b.kind != .early)&&Bc n d)=true)(cV:ev L x=some (.pointer (some F.uA)))
  (h:JL (AP Tryz.prog false) (Stop Tryz.prog F (.lk kk .EF)) b n (Au L d (.tuple #[])) ds (.inRegion ops rest::k) cs s):
  JL (AP Tryz.prog false) (Stop Tryz.prog F (.lk kk (.Ek false false 0))) b n L ds (.inRegion ops (i::rest)::k) cs s:=by
 refine Ha (vs:= [.pointer (some F.uA)]) cR hw cT Tryz.func189 (by decide+kernel) V (by simp [evs,cV]) (Nat.le_of_ble_eq_true V) λb6 back=>C 20 V (JL.uA V V ?_);refine G9 (kk:=kk) (p:= .Ek false false 0) CU.stop ac V V V V V G3 Im V λca da b1=>⟨some (.Cg false false 0 ca),List.mem_singleton.2 V,?_⟩;refine C 3 V (Z9 λcW cX=>?_);have a1:∀X:Ph->GP,CU Tryz.prog F X->(∀p g s,Stop Tryz.prog F p g s->X p g s)->∀L',look L' 0=some (.pointer (some F.uA))->JL (AP Tryz.prog false) (X (.lk kk .len)) (base 189) Tryz.f189.ntmps L' [] cW (b6::cs) s:=by
  intro X O ay L' cY;rw [cX];refine Fg (L':= [(0,.pointer (some F.uA))]) ⟨cY,trivial⟩ (C 3 V ?_);refine K7 (kk:=kk) (p:= .len) O ac V (λ_ _=>V) V V V V (by simp) Oz (C 3 V ?_);refine Pm (kk:=kk) (p:= .KL) O ac V (λ_ _=>V) V V V V Tryz.underlying229 Tryz.underlying185 PU V (PN (kk:=kk) (p:= .J4) (ad:=F.uA) O ac V (λ_ _=>V) V V V V (by simp) Um V V ?_);refine JL.done (JL.fin V V (BB.none Tryz.func189 V) (back _ _ _ _ ?_));exact Np (λg s=>ay _ g s) h
 refine JL.block (IK ?_);refine Eu [(0,.pointer (some F.uA)),(2,iV 0),(3,.bool false),(4,.bool false),(5,iV ((0:Nat):Int)),(6,.int .i32 (ca:M4).num)] V (UF λcc a6=>?_);refine Uh (P:=Tryz.prog) (F:=F) (s:=s) (kk:=kk) (ph:=Qo) (ok:=UD) (head:=λ(X:Ph->GP) (a:G0)=>JL (AP Tryz.prog false) (X (.lk kk (Qo a))) (base 189) Tryz.f189.ntmps ([(0,.pointer (some F.uA)),(2,iV a.2.2.2.2),(3,.bool a.1),(4,.bool a.2.1),(5,iV (a.2.2.1:Int)),(6,.int .i32 (a.2.2.2.1:M4).num)]) [] cc (b6::cs) s) ?_ (false,false,0,ca,0) ⟨(λe=>by cases e),Nat.zero_le _,b1.2.2.1⟩;intro Y b2 db hC;have key:∀N (a:G0),4 - a.2.2.1<N->UD a->(λ(X:Ph->GP) (a:G0)=>JL (AP Tryz.prog false) (X (.lk kk (Qo a))) (base 189) Tryz.f189.ntmps ([(0,.pointer (some F.uA)),(2,iV a.2.2.2.2),(3,.bool a.1),(4,.bool a.2.1),(5,iV (a.2.2.1:Int)),(6,.int .i32 (a.2.2.2.1:M4).num)]) [] cc (b6::cs) s) Y a:=by
  intro N
  induction N with
  | zero=>intro a co;omega
  | succ N b3=>
   rintro⟨sv,aw,it,old,wt⟩ cZ b1;simp only at cZ;have c0:aw=true->old.k=true:=b1.1;have ce:C7 old:=b1.2.2;have a2:Cj old:=ce.Cj;show JL (AP Tryz.prog false) (Y (.lk kk (.Cg sv aw it old))) (base 189) Tryz.f189.ntmps [(0,.pointer (some F.uA)),(2,iV wt),(3,.bool sv),(4,.bool aw),(5,iV (it:Int)),(6,.int .i32 (old:M4).num)] [] cc (b6::cs) s;rw [a6];refine C 2 V (Bw (λL s'=>s=s'/\L= [(0,.pointer (some F.uA)),(2,iV wt),(3,.bool sv),(4,.bool aw),(5,iV (it:Int)),(6,.int .i32 (old:M4).num)]) ?_ ?_)
   rotate_left
   ·intro az;refine C 3 V (Am (v:=CM (BA old&&& 5)) V (λρ h=>Ey (c:=5) a2 (h _ _ V) (h _ _ V) (by decide)) ?_);refine C 2 V (LV (q:=((BA old&&& 5:Nat):Int)=1) (i:=17) V (λcp=>?_) (λcp=>?_))
    ·refine Am (v:=iV (it:Int)) V (λρ h=>Yl.move (h _ _ V)) (JL.canSpin (it:=(it:Int)) ac V V V V ZK V (λDX=>?_) ?_)
     ·refine Am (v:= .bool true) V (λρ h=>LU (h _ _ V) (h _ _ V)) ?_;have a3:=(cu old).1 cp;refine C 5 V ?_;have b4:it<4:=by omega
      refine C 1 V (Am (v:= .bool (!aw)) V (λρ h=>Yl.not (h _ _ V)) ?_);refine C 1 V (Km (c:= !aw) (i:=23) V (λc1=>?_) (λc1=>?_))
      ·refine Am (v:= .int .i32 (old:M4).num) V (λρ h=>Yl.move (h _ _ V)) (Am (v:=CM (BA old&&& 2)) V (λρ h=>Ey (c:=2) a2 (h _ _ V) (h _ _ V) (by decide)) ?_);refine C 3 V (LV (q:=((BA old&&& 2:Nat):Int)=0) (i:=28) V (λc2=>?_) (λc2=>?_))
       ·refine Am (v:= .int .i32 (old:M4).num) V (λρ h=>Yl.move (h _ _ V)) (Am (v:=CM old.w) V (λρ h=>IN a2 (h _ _ V) (h _ _ V)) ?_);refine C 3 V (LV (q:=(old.w:Int)≠0) (i:=33) V (λc3=>?_) (λc3=>?_))
        ·have c4:aw=false:=by simpa using c1
         subst c4;have ct:=(Qq old).1 c2;have cw:old.w≠0:=by omega
         refine C 2 V (JL.uA V V ?_);refine C 2 V (Am (v:= .int .i32 ({old with k:=true}:M4).num) V (λρ h=>N8 (c:=2) a2 (by decide) (QR old) V (h _ _ V) (h _ _ V)) ?_);refine Sd (kk:=kk) (p:= .Cg sv false it old) (old:=old) (nw:={old with k:=true}) b2 ac V V V V V Od V V V (λq a4=>⟨some (.Ek sv true (it+1)),YS a3 b4 ct cw,?_⟩) (λm q hm a4=>⟨some (.Ek sv false (it+1)),Y7 a3 b4 ct cw hm,?_⟩)
         ·refine Am (v:= .bool true) V (λρ h=>LU (h _ _ V) (h _ _ V)) (C 7 V ?_);refine JL.ext (v:= .tuple #[]) V V V L3 V V (C 4 V ?_);refine Am (v:=iV ((it+1:Nat):Int)) V (λρ h=>FC (h _ _ V) (h _ _ V) (by unfold Av;rw [if_pos (by omega)];congr 1)) (C 6 V ?_);refine JL.uA V V (G9 (kk:=kk) (p:= .Ek sv true (it+1)) b2 ac V V V V V G3 Im V λa7 cy bv=>⟨some (.Cg sv true (it+1) a7),List.mem_singleton.2 V,?_⟩);refine C 3 V (JL.again ?_);rw [← a6];exact Eu [(0,.pointer (some F.uA)),(2,iV wt),(3,.bool sv),(4,.bool true),(5,iV ((it+1:Nat):Int)),(6,.int .i32 (a7:M4).num)] V (b3 (sv,true,it+1,a7,wt) (by show 4 - (it+1)<N;omega) ⟨bv.2.2.2,(by show it+1<=4;omega),bv.2.2.1⟩)
         ·refine Am (v:= .bool false) V (λρ h=>LU (h _ _ V) (h _ _ V)) (C 5 V ?_);refine JL.ext (v:= .tuple #[]) V V V L3 V V (C 4 V ?_);refine Am (v:=iV ((it+1:Nat):Int)) V (λρ h=>FC (h _ _ V) (h _ _ V) (by unfold Av;rw [if_pos (by omega)];congr 1)) (C 6 V ?_);refine JL.uA V V (G9 (kk:=kk) (p:= .Ek sv false (it+1)) b2 ac V V V V V G3 Im V λa7 cy bv=>⟨some (.Cg sv false (it+1) a7),List.mem_singleton.2 V,?_⟩);refine C 3 V (JL.again ?_);rw [← a6];exact Eu [(0,.pointer (some F.uA)),(2,iV wt),(3,.bool sv),(4,.bool false),(5,iV ((it+1:Nat):Int)),(6,.int .i32 (a7:M4).num)] V (b3 (sv,false,it+1,a7,wt) (by show 4 - (it+1)<N;omega) ⟨bv.2.2.2,(by show it+1<=4;omega),bv.2.2.1⟩)
        ·refine Io V V V (C 12 V ?_);refine JL.ext (v:= .tuple #[]) V V V L3 V V (C 4 V ?_);refine Am (v:=iV ((it+1:Nat):Int)) V (λρ h=>FC (h _ _ V) (h _ _ V) (by unfold Av;rw [if_pos (by omega)];congr 1)) (C 6 V ?_);refine JL.uA V V (G9 (kk:=kk) (p:= .Cg sv aw it old) b2 ac V V V V V G3 Im V λm q a4=>⟨some (.Cg sv aw (it+1) m),P0 a3 b4 (λe=>c3 (by omega)),?_⟩);refine C 3 V (JL.again ?_);rw [← a6];exact Eu [(0,.pointer (some F.uA)),(2,iV wt),(3,.bool sv),(4,.bool aw),(5,iV ((it+1:Nat):Int)),(6,.int .i32 (m:M4).num)] V (b3 (sv,aw,it+1,m,wt) (by show 4 - (it+1)<N;omega) ⟨a4.2.2.2.2.2,(by show it+1<=4;omega),a4.2.2.2.2.1⟩)
       ·refine Io V V V (C 17 V ?_);refine JL.ext (v:= .tuple #[]) V V V L3 V V (C 4 V ?_);refine Am (v:=iV ((it+1:Nat):Int)) V (λρ h=>FC (h _ _ V) (h _ _ V) (by unfold Av;rw [if_pos (by omega)];congr 1)) (C 6 V ?_);refine JL.uA V V (G9 (kk:=kk) (p:= .Cg sv aw it old) b2 ac V V V V V G3 Im V λm q a4=>⟨some (.Cg sv aw (it+1) m),P0 a3 b4 (λe=>c2 ((Qq old).2 e.2.1)),?_⟩);refine C 3 V (JL.again ?_);rw [← a6];exact Eu [(0,.pointer (some F.uA)),(2,iV wt),(3,.bool sv),(4,.bool aw),(5,iV ((it+1:Nat):Int)),(6,.int .i32 (m:M4).num)] V (b3 (sv,aw,it+1,m,wt) (by show 4 - (it+1)<N;omega) ⟨a4.2.2.2.2.2,(by show it+1<=4;omega),a4.2.2.2.2.1⟩)
      ·refine Io V V V (C 22 V ?_);refine JL.ext (v:= .tuple #[]) V V V L3 V V (C 4 V ?_);refine Am (v:=iV ((it+1:Nat):Int)) V (λρ h=>FC (h _ _ V) (h _ _ V) (by unfold Av;rw [if_pos (by omega)];congr 1)) (C 6 V ?_);refine JL.uA V V (G9 (kk:=kk) (p:= .Cg sv aw it old) b2 ac V V V V V G3 Im V λm q a4=>⟨some (.Cg sv aw (it+1) m),P0 a3 b4 (λe=>by rw [e.1] at c1;cases c1),?_⟩);refine C 3 V (JL.again ?_);rw [← a6];exact Eu [(0,.pointer (some F.uA)),(2,iV wt),(3,.bool sv),(4,.bool aw),(5,iV ((it+1:Nat):Int)),(6,.int .i32 (m:M4).num)] V (b3 (sv,aw,it+1,m,wt) (by show 4 - (it+1)<N;omega) ⟨a4.2.2.2.2.2,(by show it+1<=4;omega),a4.2.2.2.2.1⟩)
     ·refine Am (v:= .bool false) V (λρ h=>LU (h _ _ V) (h _ _ V)) (C 3 V ?_);exact AB (az _ _ ⟨V,V⟩) V
    ·refine Io V V V (C 5 V ?_);exact AB (az _ _ ⟨V,V⟩) V
   rintro _ _ ⟨rfl,rfl⟩;refine C 6 V (Bw (λL s'=>s=s'/\L= [(0,.pointer (some F.uA)),(2,iV wt),(3,.bool sv),(4,.bool aw),(5,iV (it:Int)),(6,.int .i32 (old:M4).num),(7,.int .i32 ({old with l:=old.l || !old.s}:M4).num)]) ?_ ?_)
   rotate_left
   ·intro az;refine C 3 V (Am (v:=CM (BA old&&& 4)) V (λρ h=>Ey (c:=4) a2 (h _ _ V) (h _ _ V) (by decide)) ?_);refine C 2 V (FU (p:=((BA old&&& 4:Nat):Int)=0) V (λc=>?_) (λc=>?_))
    ·refine JL.region (C 1 V ?_);refine Am (v:= .int .i32 ({old with l:=true}:M4).num) V (λρ h=>N8 (c:=1) a2 (by decide) (cI old) V (h _ _ V) (h _ _ V)) (C 2 V ?_);refine Fg ?_ (az _ _ ⟨V,V⟩);exact⟨V,V,V,V,V,V,congrArg (λm:M4=>some (Value.int .i32 m.num)) (by rw [(HJ old).1 c];simp),trivial⟩
    ·refine JL.skip (Fg ?_ (az _ _ ⟨V,V⟩));exact⟨V,V,V,V,V,V,congrArg (λm:M4=>some (Value.int .i32 m.num)) ((Bool.eq_false_or_eq_true old.s).elim (GZ old) (λhh=>absurd ((HJ old).2 hh) c)),trivial⟩
   rintro _ _ ⟨rfl,rfl⟩;have dc:Cj {old with l:=old.l || !old.s}:=a2;refine JL.seq (Bw (λL s'=>s=s'/\L= [(0,.pointer (some F.uA)),(2,iV wt),(3,.bool sv),(4,.bool aw),(5,iV (it:Int)),(6,.int .i32 (old:M4).num),(7,.int .i32 ({old with l:=old.l || !old.s,w:=if old.l=true∨old.s=true then old.w+1 else old.w}:M4).num)]) ?_ ?_)
   rotate_left
   ·intro az;refine C 3 V (Am (v:=CM (BA old&&& 5)) V (λρ h=>Ey (c:=5) a2 (h _ _ V) (h _ _ V) (by decide)) ?_);refine C 2 V (FU (p:=((BA old&&& 5:Nat):Int)≠0) V (λc=>?_) (λc=>?_))
    ·refine JL.region (C 1 V ?_);refine Am (v:= .int .i32 ({old with l:=old.l || !old.s,w:=old.w+1}:M4).num) V (λρ h=>Yo (m:={old with l:=old.l || !old.s}) ce (h _ _ V) (h _ _ V)) (C 2 V ?_);refine Fg ?_ (az _ _ ⟨V,V⟩);exact⟨V,V,V,V,V,V,congrArg (λm:M4=>some (Value.int .i32 m.num)) (by rw [if_pos (by have:=λe=>c ((Mp old).2 e);cases dd:old.l <;> cases de:old.s <;> simp_all)]),trivial⟩
    ·refine JL.skip (Fg ?_ (az _ _ ⟨V,V⟩));exact⟨V,V,V,V,V,V,congrArg (λm:M4=>some (Value.int .i32 m.num)) (by rw [if_neg (by have:=(Mp old).1 (Decidable.not_not.1 c);rw [this.1,this.2];simp)]),trivial⟩
   rintro _ _ ⟨rfl,rfl⟩;have cN:Cj ({old with l:=old.l || !old.s,w:=if old.l=true∨old.s=true then old.w+1 else old.w}:M4):=by unfold C7 at ce;unfold Cj;simp only;split <;> omega
   refine JL.seq (Bw (λL s'=>s=s'/\L= [(0,.pointer (some F.uA)),(2,iV wt),(3,.bool sv),(4,.bool aw),(5,iV (it:Int)),(6,.int .i32 (old:M4).num),(7,.int .i32 ({old with l:=old.l || !old.s,s:=old.s || (sv&&old.l),w:=if old.l=true∨old.s=true then old.w+1 else old.w}:M4).num)]) ?_ ?_)
   rotate_left
   ·intro az;refine C 4 V (Km (c:=sv) (i:=61) V (λc1=>?_) (λc1=>?_))
    ·refine Am (v:= .int .i32 (old:M4).num) V (λρ h=>Yl.move (h _ _ V)) (Am (v:=CM (BA old&&& 1)) V (λρ h=>Ey (c:=1) a2 (h _ _ V) (h _ _ V) (by decide)) ?_);refine C 3 V (FU (p:=((BA old&&& 1:Nat):Int)≠0) V (λc=>?_) (λc=>?_))
     ·refine JL.region (C 1 V ?_);refine Am (v:= .int .i32 ({old with s:=true,l:=old.l || !old.s,w:=if old.l=true∨old.s=true then old.w+1 else old.w}:M4).num) V (λρ h=>N8 (c:=4) (m:={old with l:=old.l || !old.s,w:=if old.l=true∨old.s=true then old.w+1 else old.w}) cN (by decide) (cJ _) V (h _ _ V) (h _ _ V)) ?_
      refine C 2 V (Fg ?_ (az _ _ ⟨V,V⟩));exact⟨V,V,V,V,V,V,congrArg (λm:M4=>some (Value.int .i32 m.num)) (by rcases Bool.eq_false_or_eq_true old.l with hh | hh <;> first | exact absurd ((QB old).2 hh) c | (rw [c1,hh];simp)),trivial⟩
     ·refine JL.skip (Fg ?_ (az _ _ ⟨V,V⟩));exact⟨V,V,V,V,V,V,congrArg (λm:M4=>some (Value.int .i32 m.num)) (by have:=(QB old).1 (Decidable.not_not.1 c);rw [this];simp),trivial⟩
    ·refine Io V V V (C 6 V ?_);refine Fg ?_ (az _ _ ⟨V,V⟩);exact⟨V,V,V,V,V,V,congrArg (λm:M4=>some (Value.int .i32 m.num)) (by rw [c1];simp),trivial⟩
   rintro _ _ ⟨rfl,rfl⟩;have cO:Cj ({old with l:=old.l || !old.s,s:=old.s || (sv&&old.l),w:=if old.l=true∨old.s=true then old.w+1 else old.w}:M4):=cN
   refine JL.seq (Bw (λL s'=>s=s'/\L= [(0,.pointer (some F.uA)),(2,iV wt),(3,.bool sv),(4,.bool aw),(5,iV (it:Int)),(6,.int .i32 (old:M4).num),(7,.int .i32 (mN sv aw old:M4).num)]) ?_ ?_)
   rotate_left
   ·intro az;refine C 4 V (Pv (t:=aw) V (λc=>?_) (λc=>?_))
    ·have cP:old.k=true:=c0 c;refine C 4 V ?_;refine Am (v:=CM (BA ({old with l:=old.l || !old.s,s:=old.s || (sv&&old.l),w:=if old.l=true∨old.s=true then old.w+1 else old.w}:M4)&&& 2)) V (λρ h=>Ey (c:=2) (m:={old with l:=old.l || !old.s,s:=old.s || (sv&&old.l),w:=if old.l=true∨old.s=true then old.w+1 else old.w}) cO (h _ _ V) (h _ _ V) (by decide)) ?_
     refine Am (v:= .bool false) V (λρ h=>Yl.to (Yl.eql (h _ _ V) (h _ _ V)) (by rw [decide_eq_false (λe=>by have q:=(Qq _).1 e;simp only at q;rw [cP] at q;cases q)])) (C 5 V ?_);refine Am (v:= .int .i32 ({old with k:=false,l:=old.l || !old.s,s:=old.s || (sv&&old.l),w:=if old.l=true∨old.s=true then old.w+1 else old.w}:M4).num) V (λρ h=>Yl.PM (m:={old with l:=old.l || !old.s,s:=old.s || (sv&&old.l),w:=if old.l=true∨old.s=true then old.w+1 else old.w}) cO cP (h _ _ V) (h _ _ V)) ?_
     refine C 2 V (Fg ?_ (az _ _ ⟨V,V⟩));exact⟨V,V,V,V,V,V,congrArg (λm:M4=>some (Value.int .i32 m.num)) (by simp [mN,c]),trivial⟩
    ·refine JL.skip (Fg ?_ (az _ _ ⟨V,V⟩));exact⟨V,V,V,V,V,V,congrArg (λm:M4=>some (Value.int .i32 m.num)) (by simp [mN,c]),trivial⟩
   rintro _ _ ⟨rfl,rfl⟩;refine C 4 V (JL.uA V V ?_);refine C 2 V (λT c5=>(AP Tryz.prog false).stop (hC (sv,aw,it,old,wt) _ b1 λX df c6 O ay b5=>?_));refine Pu (kk:=kk) (p:= .Cg sv aw it old) (old:=old) (nw:=mN sv aw old) c6 ac V V V V V Od V V V (λq a4=>?_) (λm q hm a4=>⟨some (.Ek sv aw it),Xw hm,?_⟩) T c5
   ·by_cases a3:old.l=false/\old.s=false
    ·refine⟨some .len,Yj a3,?_⟩;refine C 6 V (Am (v:=CM (BA old&&& 5)) V (λρ h=>Ey (c:=5) a2 (h _ _ V) (h _ _ V) (by decide)) ?_);refine Am (v:= .bool true) V (λρ h=>Yl.to (Yl.eql (h _ _ V) (h _ _ V)) (by rw [decide_eq_true ((Mp old).2 a3)])) (C 3 V ?_);exact a1 X O ay _ V
    ·by_cases cQ:wt=0
     ·refine⟨some ((.Ij sv)),Sw a3 _ (.inl V),?_⟩;refine C 6 V (Am (v:=CM (BA old&&& 5)) V (λρ h=>Ey (c:=5) a2 (h _ _ V) (h _ _ V) (by decide)) ?_);refine Am (v:= .bool false) V (λρ h=>Yl.to (Yl.eql (h _ _ V) (h _ _ V)) (by rw [decide_eq_false (λe=>a3 ((Mp old).1 e))])) ?_;refine C 13 V (Am (v:= .bool true) V (λρ h=>Yl.to (Yl.eql (h _ _ V) (h _ _ V)) (by rw [decide_eq_true cQ])) ?_);refine C 3 V (Pd (kk:=kk) (p:= .Ij sv) O ac V V V V V Ql Qm λm a5 v al=>⟨some (.Cs sv),List.mem_singleton.2 V,?_⟩);refine C 6 V (Am (v:= .pointer (some F.qA)) V (λρ h=>Jk (a:=F.uA) 0 1 Tryz.underlying140 MW V V V (h _ _ V)) ?_);refine C 1 V (R5 (kk:=kk) (sv:=sv) O ac V V V V Uc V V ?_);refine JL.done ?_;cases sv
      ·rw [if_neg (by decide)];refine C 4 V (Pd (kk:=kk) (p:= .FY) O ac V V V V V Ql Qm λc7 c8 v2 c9=>⟨some (.EB (decide (IntKind.i64.wrap (v2 - v)>1000000))),by (cases decide (IntKind.i64.wrap (v2 - v)>1000000) <;> simp [Fam.BW]),?_⟩);refine C 1 V (Am (v:= .int .i64 (IntKind.i64.wrap (v2 - v))) V (λρ h=>Yl.sub (h _ _ V) (h _ _ V)) ?_);refine C 4 V ?_;generalize decide (IntKind.i64.wrap (v2 - v)>1000000)=av;refine C 4 V (JL.uA V V ?_);refine G9 (kk:=kk) (p:= .EB av) O ac V V V V V G3 Im V ?_;intro m ci a0;have a8:C7 m:=a0.2.2;have am:Cj m:=a8.Cj;by_cases ag:m.s=true
       ·refine⟨some (.Ej (!av || m.w==1)),by simp [Fam.BW,ag],?_⟩;refine C 2 V ?_;obtain⟨bw,bx,bz⟩:=a0.1 ag;refine C 4 V (Am (v:=CM (BA m&&& 4)) V (λρ h=>Ey (c:=4) am (h _ _ V) (h _ _ V) (by decide)) ?_);refine Am (v:= .bool true) V (λρ h=>Yl.to (HB (h _ _ V) (h _ _ V)) (by have b0:(((BA m&&& 4:Nat):Int)≠0):=(λe=>by rw [(HJ m).1 e] at ag;cases ag);rw [decide_eq_true b0])) ?_;refine C 6 V (Am (v:=CM (BA m&&& 3)) V (λρ h=>Ey (c:=3) am (h _ _ V) (h _ _ V) (by decide)) ?_);refine Am (v:= .bool false) V (λρ h=>Yl.to (HB (h _ _ V) (h _ _ V)) (by rw [(Ol m).2 ⟨bw,bx⟩];rfl)) (C 2 V ?_);refine Am (v:=CM m.w) V (λρ h=>IN am (h _ _ V) (h _ _ V)) (Am (v:= .bool false) V (λρ h=>Yl.to (Yl.eql (h _ _ V) (h _ _ V)) (by rw [decide_eq_false (λe=>bz (by omega))])) ?_);refine C 12 V (Am (v:= .bool (!av)) V (λρ h=>Yl.not (h _ _ V)) ?_);refine C 1 V (Km (c:= !av) (i:=119) V (λd1=>?_) (λd1=>?_))
        ·refine Io V V V (C 5 V ?_);have hex:(!av || m.w==1)=true:=by rw [d1];simp
         rw [hex];refine C 2 V (Am (v:= .int .i32 (-11)) V (λρ h=>Yl.to (Yl.sub (h _ _ V) (h _ _ V)) V) ?_);refine C 6 V (JL.uA V V ?_);refine C 1 V (G7 (kk:=kk) (p:= .Ej true) (dl:= -11) O ac V V V V V Hg V V λK a5 al=>⟨⟨true,K.k,false,K.w - 1⟩,some .len,?_,List.mem_singleton.2 V,?_⟩)
         ·obtain⟨a9,bb,be,w3⟩:=K;obtain⟨U,g2,Z,ap,bi,aq⟩:=al;simp only at U g2 Z ap;subst U g2 Z;have bn:w3<134217728:=aq;have e:(⟨false,false,true,w3⟩:M4).num+(-11)=((8*(w3 - 1)+1:Nat):Int):=by simp only [M4.num,Bool.toNat_true,Bool.toNat_false];omega
          rw [e,Fs (by omega)];simp only [M4.num,Bool.toNat_true,Bool.toNat_false];omega
         exact C 2 V (a1 X O ay _ V)
        ·refine Am (v:= .int .i32 (m:M4).num) V (λρ h=>Yl.move (h _ _ V)) (Am (v:=CM m.w) V (λρ h=>IN am (h _ _ V) (h _ _ V)) ?_);refine C 3 V (FU (p:=(m.w:Int)=1) V (λd2=>?_) (λd2=>?_))
         ·have hex:(!av || m.w==1)=true:=by rw [d1];simp;omega
          rw [hex];refine C 2 V (Am (v:= .int .i32 (-11)) V (λρ h=>Yl.to (Yl.sub (h _ _ V) (h _ _ V)) V) ?_);refine C 6 V (JL.uA V V ?_);refine C 1 V (G7 (kk:=kk) (p:= .Ej true) (dl:= -11) O ac V V V V V Hg V V λK a5 al=>⟨⟨true,K.k,false,K.w - 1⟩,some .len,?_,List.mem_singleton.2 V,?_⟩)
          ·obtain⟨a9,bb,be,w3⟩:=K;obtain⟨U,g2,Z,ap,bi,aq⟩:=al;simp only at U g2 Z ap;subst U g2 Z;have bn:w3<134217728:=aq;have e:(⟨false,false,true,w3⟩:M4).num+(-11)=((8*(w3 - 1)+1:Nat):Int):=by simp only [M4.num,Bool.toNat_true,Bool.toNat_false];omega
           rw [e,Fs (by omega)];simp only [M4.num,Bool.toNat_true,Bool.toNat_false];omega
          exact C 2 V (a1 X O ay _ V)
         ·have hex:(!av || m.w==1)=false:=by rw [d1];simp;omega
          rw [hex];refine C 5 V (JL.uA V V ?_);refine C 1 V (G7 (kk:=kk) (p:= .Ej false) (dl:= -7) O ac V V V V V Hg V V λK a5 al=>⟨⟨true,K.k,true,K.w - 1⟩,some .len,?_,List.mem_singleton.2 V,?_⟩)
          ·obtain⟨a9,bb,be,w3⟩:=K;obtain⟨U,g2,Z,ap,bi,aq⟩:=al;simp only at U g2 Z ap;subst U g2 Z;have bn:w3<134217728:=aq;have e:(⟨false,false,true,w3⟩:M4).num+(-7)=((8*(w3 - 1)+5:Nat):Int):=by simp only [M4.num,Bool.toNat_true,Bool.toNat_false];omega
           rw [e,Fs (by omega)];simp only [M4.num,Bool.toNat_true,Bool.toNat_false];omega
          exact C 2 V (a1 X O ay _ V)
       ·refine⟨some (.Cg av true 0 m),by simp [Fam.BW,ag],?_⟩;refine C 2 V ?_;have bo:m.s=false:=by simpa using ag
        refine C 4 V (Am (v:=CM (BA m&&& 4)) V (λρ h=>Ey (c:=4) am (h _ _ V) (h _ _ V) (by decide)) ?_);refine Am (v:= .bool false) V (λρ h=>Yl.to (HB (h _ _ V) (h _ _ V)) (by rw [(HJ m).2 bo];rfl)) (C 11 V ?_);refine JL.again ?_;rw [← a6];exact Eu [(0,.pointer (some F.uA)),(2,iV v),(3,.bool av),(4,.bool true),(5,iV ((0:Nat):Int)),(6,.int .i32 (m:M4).num)] V (b5 (av,true,0,m,v) ⟨λ_=>a0.2.1 bo,Nat.zero_le _,a8⟩)
      ·rw [if_pos rfl];refine C 15 V (JL.uA V V ?_);refine G9 (kk:=kk) (p:= .EB true) O ac V V V V V G3 Im V ?_;intro m ci a0;have a8:C7 m:=a0.2.2;have am:Cj m:=a8.Cj;by_cases ag:m.s=true
       ·refine⟨some (.Ej (!true || m.w==1)),by simp [Fam.BW,ag],?_⟩;refine C 2 V ?_;obtain⟨bw,bx,bz⟩:=a0.1 ag;refine C 4 V (Am (v:=CM (BA m&&& 4)) V (λρ h=>Ey (c:=4) am (h _ _ V) (h _ _ V) (by decide)) ?_);refine Am (v:= .bool true) V (λρ h=>Yl.to (HB (h _ _ V) (h _ _ V)) (by have b0:(((BA m&&& 4:Nat):Int)≠0):=(λe=>by rw [(HJ m).1 e] at ag;cases ag);rw [decide_eq_true b0])) ?_;refine C 6 V (Am (v:=CM (BA m&&& 3)) V (λρ h=>Ey (c:=3) am (h _ _ V) (h _ _ V) (by decide)) ?_);refine Am (v:= .bool false) V (λρ h=>Yl.to (HB (h _ _ V) (h _ _ V)) (by rw [(Ol m).2 ⟨bw,bx⟩];rfl)) (C 2 V ?_);refine Am (v:=CM m.w) V (λρ h=>IN am (h _ _ V) (h _ _ V)) (Am (v:= .bool false) V (λρ h=>Yl.to (Yl.eql (h _ _ V) (h _ _ V)) (by rw [decide_eq_false (λe=>bz (by omega))])) ?_);refine C 12 V (Am (v:= .bool (!true)) V (λρ h=>Yl.not (h _ _ V)) ?_);refine C 1 V (Km (c:= !true) (i:=119) V (λd1=>?_) (λd1=>?_))
        ·refine Io V V V (C 5 V ?_);have hex:(!true || m.w==1)=true:=by rw [d1];simp
         rw [hex];refine C 2 V (Am (v:= .int .i32 (-11)) V (λρ h=>Yl.to (Yl.sub (h _ _ V) (h _ _ V)) V) ?_);refine C 6 V (JL.uA V V ?_);refine C 1 V (G7 (kk:=kk) (p:= .Ej true) (dl:= -11) O ac V V V V V Hg V V λK a5 al=>⟨⟨true,K.k,false,K.w - 1⟩,some .len,?_,List.mem_singleton.2 V,?_⟩)
         ·obtain⟨a9,bb,be,w3⟩:=K;obtain⟨U,g2,Z,ap,bi,aq⟩:=al;simp only at U g2 Z ap;subst U g2 Z;have bn:w3<134217728:=aq;have e:(⟨false,false,true,w3⟩:M4).num+(-11)=((8*(w3 - 1)+1:Nat):Int):=by simp only [M4.num,Bool.toNat_true,Bool.toNat_false];omega
          rw [e,Fs (by omega)];simp only [M4.num,Bool.toNat_true,Bool.toNat_false];omega
         exact C 2 V (a1 X O ay _ V)
        ·refine Am (v:= .int .i32 (m:M4).num) V (λρ h=>Yl.move (h _ _ V)) (Am (v:=CM m.w) V (λρ h=>IN am (h _ _ V) (h _ _ V)) ?_);refine C 3 V (FU (p:=(m.w:Int)=1) V (λd2=>?_) (λd2=>?_))
         ·have hex:(!true || m.w==1)=true:=by rw [d1];simp;omega
          rw [hex];refine C 2 V (Am (v:= .int .i32 (-11)) V (λρ h=>Yl.to (Yl.sub (h _ _ V) (h _ _ V)) V) ?_);refine C 6 V (JL.uA V V ?_);refine C 1 V (G7 (kk:=kk) (p:= .Ej true) (dl:= -11) O ac V V V V V Hg V V λK a5 al=>⟨⟨true,K.k,false,K.w - 1⟩,some .len,?_,List.mem_singleton.2 V,?_⟩)
          ·obtain⟨a9,bb,be,w3⟩:=K;obtain⟨U,g2,Z,ap,bi,aq⟩:=al;simp only at U g2 Z ap;subst U g2 Z;have bn:w3<134217728:=aq;have e:(⟨false,false,true,w3⟩:M4).num+(-11)=((8*(w3 - 1)+1:Nat):Int):=by simp only [M4.num,Bool.toNat_true,Bool.toNat_false];omega
           rw [e,Fs (by omega)];simp only [M4.num,Bool.toNat_true,Bool.toNat_false];omega
          exact C 2 V (a1 X O ay _ V)
         ·have hex:(!true || m.w==1)=false:=by rw [d1];simp;omega
          rw [hex];refine C 5 V (JL.uA V V ?_);refine C 1 V (G7 (kk:=kk) (p:= .Ej false) (dl:= -7) O ac V V V V V Hg V V λK a5 al=>⟨⟨true,K.k,true,K.w - 1⟩,some .len,?_,List.mem_singleton.2 V,?_⟩)
          ·obtain⟨a9,bb,be,w3⟩:=K;obtain⟨U,g2,Z,ap,bi,aq⟩:=al;simp only at U g2 Z ap;subst U g2 Z;have bn:w3<134217728:=aq;have e:(⟨false,false,true,w3⟩:M4).num+(-7)=((8*(w3 - 1)+5:Nat):Int):=by simp only [M4.num,Bool.toNat_true,Bool.toNat_false];omega
           rw [e,Fs (by omega)];simp only [M4.num,Bool.toNat_true,Bool.toNat_false];omega
          exact C 2 V (a1 X O ay _ V)
       ·refine⟨some (.Cg true true 0 m),by simp [Fam.BW,ag],?_⟩;refine C 2 V ?_;have bo:m.s=false:=by simpa using ag
        refine C 4 V (Am (v:=CM (BA m&&& 4)) V (λρ h=>Ey (c:=4) am (h _ _ V) (h _ _ V) (by decide)) ?_);refine Am (v:= .bool false) V (λρ h=>Yl.to (HB (h _ _ V) (h _ _ V)) (by rw [(HJ m).2 bo];rfl)) (C 11 V ?_);refine JL.again ?_;rw [← a6];exact Eu [(0,.pointer (some F.uA)),(2,iV v),(3,.bool true),(4,.bool true),(5,iV ((0:Nat):Int)),(6,.int .i32 (m:M4).num)] V (b5 (true,true,0,m,v) ⟨λ_=>a0.2.1 bo,Nat.zero_le _,a8⟩)
     ·refine⟨some ((.Cs sv)),Sw a3 _ (.inr V),?_⟩;refine C 6 V (Am (v:=CM (BA old&&& 5)) V (λρ h=>Ey (c:=5) a2 (h _ _ V) (h _ _ V) (by decide)) ?_);refine Am (v:= .bool false) V (λρ h=>Yl.to (Yl.eql (h _ _ V) (h _ _ V)) (by rw [decide_eq_false (λe=>a3 ((Mp old).1 e))])) ?_;refine C 13 V (Am (v:= .bool false) V (λρ h=>Yl.to (Yl.eql (h _ _ V) (h _ _ V)) (by rw [decide_eq_false cQ])) ?_);refine C 7 V (Am (v:= .pointer (some F.qA)) V (λρ h=>Jk (a:=F.uA) 0 1 Tryz.underlying140 MW V V V (h _ _ V)) ?_);refine C 1 V (R5 (kk:=kk) (sv:=sv) O ac V V V V Uc V V ?_);refine JL.done ?_;cases sv
      ·rw [if_neg (by decide)];refine C 4 V (Pd (kk:=kk) (p:= .FY) O ac V V V V V Ql Qm λc7 c8 v2 c9=>⟨some (.EB (decide (IntKind.i64.wrap (v2 - wt)>1000000))),by (cases decide (IntKind.i64.wrap (v2 - wt)>1000000) <;> simp [Fam.BW]),?_⟩);refine C 1 V (Am (v:= .int .i64 (IntKind.i64.wrap (v2 - wt))) V (λρ h=>Yl.sub (h _ _ V) (h _ _ V)) ?_);refine C 4 V ?_;generalize decide (IntKind.i64.wrap (v2 - wt)>1000000)=av;refine C 4 V (JL.uA V V ?_);refine G9 (kk:=kk) (p:= .EB av) O ac V V V V V G3 Im V ?_;intro m ci a0;have a8:C7 m:=a0.2.2;have am:Cj m:=a8.Cj;by_cases ag:m.s=true
       ·refine⟨some (.Ej (!av || m.w==1)),by simp [Fam.BW,ag],?_⟩;refine C 2 V ?_;obtain⟨bw,bx,bz⟩:=a0.1 ag;refine C 4 V (Am (v:=CM (BA m&&& 4)) V (λρ h=>Ey (c:=4) am (h _ _ V) (h _ _ V) (by decide)) ?_);refine Am (v:= .bool true) V (λρ h=>Yl.to (HB (h _ _ V) (h _ _ V)) (by have b0:(((BA m&&& 4:Nat):Int)≠0):=(λe=>by rw [(HJ m).1 e] at ag;cases ag);rw [decide_eq_true b0])) ?_;refine C 6 V (Am (v:=CM (BA m&&& 3)) V (λρ h=>Ey (c:=3) am (h _ _ V) (h _ _ V) (by decide)) ?_);refine Am (v:= .bool false) V (λρ h=>Yl.to (HB (h _ _ V) (h _ _ V)) (by rw [(Ol m).2 ⟨bw,bx⟩];rfl)) (C 2 V ?_);refine Am (v:=CM m.w) V (λρ h=>IN am (h _ _ V) (h _ _ V)) (Am (v:= .bool false) V (λρ h=>Yl.to (Yl.eql (h _ _ V) (h _ _ V)) (by rw [decide_eq_false (λe=>bz (by omega))])) ?_);refine C 12 V (Am (v:= .bool (!av)) V (λρ h=>Yl.not (h _ _ V)) ?_);refine C 1 V (Km (c:= !av) (i:=119) V (λd1=>?_) (λd1=>?_))
        ·refine Io V V V (C 5 V ?_);have hex:(!av || m.w==1)=true:=by rw [d1];simp
         rw [hex];refine C 2 V (Am (v:= .int .i32 (-11)) V (λρ h=>Yl.to (Yl.sub (h _ _ V) (h _ _ V)) V) ?_);refine C 6 V (JL.uA V V ?_);refine C 1 V (G7 (kk:=kk) (p:= .Ej true) (dl:= -11) O ac V V V V V Hg V V λK a5 al=>⟨⟨true,K.k,false,K.w - 1⟩,some .len,?_,List.mem_singleton.2 V,?_⟩)
         ·obtain⟨a9,bb,be,w3⟩:=K;obtain⟨U,g2,Z,ap,bi,aq⟩:=al;simp only at U g2 Z ap;subst U g2 Z;have bn:w3<134217728:=aq;have e:(⟨false,false,true,w3⟩:M4).num+(-11)=((8*(w3 - 1)+1:Nat):Int):=by simp only [M4.num,Bool.toNat_true,Bool.toNat_false];omega
          rw [e,Fs (by omega)];simp only [M4.num,Bool.toNat_true,Bool.toNat_false];omega
         exact C 2 V (a1 X O ay _ V)
        ·refine Am (v:= .int .i32 (m:M4).num) V (λρ h=>Yl.move (h _ _ V)) (Am (v:=CM m.w) V (λρ h=>IN am (h _ _ V) (h _ _ V)) ?_);refine C 3 V (FU (p:=(m.w:Int)=1) V (λd2=>?_) (λd2=>?_))
         ·have hex:(!av || m.w==1)=true:=by rw [d1];simp;omega
          rw [hex];refine C 2 V (Am (v:= .int .i32 (-11)) V (λρ h=>Yl.to (Yl.sub (h _ _ V) (h _ _ V)) V) ?_);refine C 6 V (JL.uA V V ?_);refine C 1 V (G7 (kk:=kk) (p:= .Ej true) (dl:= -11) O ac V V V V V Hg V V λK a5 al=>⟨⟨true,K.k,false,K.w - 1⟩,some .len,?_,List.mem_singleton.2 V,?_⟩)
          ·obtain⟨a9,bb,be,w3⟩:=K;obtain⟨U,g2,Z,ap,bi,aq⟩:=al;simp only at U g2 Z ap;subst U g2 Z;have bn:w3<134217728:=aq;have e:(⟨false,false,true,w3⟩:M4).num+(-11)=((8*(w3 - 1)+1:Nat):Int):=by simp only [M4.num,Bool.toNat_true,Bool.toNat_false];omega
           rw [e,Fs (by omega)];simp only [M4.num,Bool.toNat_true,Bool.toNat_false];omega
          exact C 2 V (a1 X O ay _ V)
         ·have hex:(!av || m.w==1)=false:=by rw [d1];simp;omega
          rw [hex];refine C 5 V (JL.uA V V ?_);refine C 1 V (G7 (kk:=kk) (p:= .Ej false) (dl:= -7) O ac V V V V V Hg V V λK a5 al=>⟨⟨true,K.k,true,K.w - 1⟩,some .len,?_,List.mem_singleton.2 V,?_⟩)
          ·obtain⟨a9,bb,be,w3⟩:=K;obtain⟨U,g2,Z,ap,bi,aq⟩:=al;simp only at U g2 Z ap;subst U g2 Z;have bn:w3<134217728:=aq;have e:(⟨false,false,true,w3⟩:M4).num+(-7)=((8*(w3 - 1)+5:Nat):Int):=by simp only [M4.num,Bool.toNat_true,Bool.toNat_false];omega
           rw [e,Fs (by omega)];simp only [M4.num,Bool.toNat_true,Bool.toNat_false];omega
          exact C 2 V (a1 X O ay _ V)
       ·refine⟨some (.Cg av true 0 m),by simp [Fam.BW,ag],?_⟩;refine C 2 V ?_;have bo:m.s=false:=by simpa using ag
        refine C 4 V (Am (v:=CM (BA m&&& 4)) V (λρ h=>Ey (c:=4) am (h _ _ V) (h _ _ V) (by decide)) ?_);refine Am (v:= .bool false) V (λρ h=>Yl.to (HB (h _ _ V) (h _ _ V)) (by rw [(HJ m).2 bo];rfl)) (C 11 V ?_);refine JL.again ?_;rw [← a6];exact Eu [(0,.pointer (some F.uA)),(2,iV wt),(3,.bool av),(4,.bool true),(5,iV ((0:Nat):Int)),(6,.int .i32 (m:M4).num)] V (b5 (av,true,0,m,wt) ⟨λ_=>a0.2.1 bo,Nat.zero_le _,a8⟩)
      ·rw [if_pos rfl];refine C 15 V (JL.uA V V ?_);refine G9 (kk:=kk) (p:= .EB true) O ac V V V V V G3 Im V ?_;intro m ci a0;have a8:C7 m:=a0.2.2;have am:Cj m:=a8.Cj;by_cases ag:m.s=true
       ·refine⟨some (.Ej (!true || m.w==1)),by simp [Fam.BW,ag],?_⟩;refine C 2 V ?_;obtain⟨bw,bx,bz⟩:=a0.1 ag;refine C 4 V (Am (v:=CM (BA m&&& 4)) V (λρ h=>Ey (c:=4) am (h _ _ V) (h _ _ V) (by decide)) ?_);refine Am (v:= .bool true) V (λρ h=>Yl.to (HB (h _ _ V) (h _ _ V)) (by have b0:(((BA m&&& 4:Nat):Int)≠0):=(λe=>by rw [(HJ m).1 e] at ag;cases ag);rw [decide_eq_true b0])) ?_;refine C 6 V (Am (v:=CM (BA m&&& 3)) V (λρ h=>Ey (c:=3) am (h _ _ V) (h _ _ V) (by decide)) ?_);refine Am (v:= .bool false) V (λρ h=>Yl.to (HB (h _ _ V) (h _ _ V)) (by rw [(Ol m).2 ⟨bw,bx⟩];rfl)) (C 2 V ?_);refine Am (v:=CM m.w) V (λρ h=>IN am (h _ _ V) (h _ _ V)) (Am (v:= .bool false) V (λρ h=>Yl.to (Yl.eql (h _ _ V) (h _ _ V)) (by rw [decide_eq_false (λe=>bz (by omega))])) ?_);refine C 12 V (Am (v:= .bool (!true)) V (λρ h=>Yl.not (h _ _ V)) ?_);refine C 1 V (Km (c:= !true) (i:=119) V (λd1=>?_) (λd1=>?_))
        ·refine Io V V V (C 5 V ?_);have hex:(!true || m.w==1)=true:=by rw [d1];simp
         rw [hex];refine C 2 V (Am (v:= .int .i32 (-11)) V (λρ h=>Yl.to (Yl.sub (h _ _ V) (h _ _ V)) V) ?_);refine C 6 V (JL.uA V V ?_);refine C 1 V (G7 (kk:=kk) (p:= .Ej true) (dl:= -11) O ac V V V V V Hg V V λK a5 al=>⟨⟨true,K.k,false,K.w - 1⟩,some .len,?_,List.mem_singleton.2 V,?_⟩)
         ·obtain⟨a9,bb,be,w3⟩:=K;obtain⟨U,g2,Z,ap,bi,aq⟩:=al;simp only at U g2 Z ap;subst U g2 Z;have bn:w3<134217728:=aq;have e:(⟨false,false,true,w3⟩:M4).num+(-11)=((8*(w3 - 1)+1:Nat):Int):=by simp only [M4.num,Bool.toNat_true,Bool.toNat_false];omega
          rw [e,Fs (by omega)];simp only [M4.num,Bool.toNat_true,Bool.toNat_false];omega
         exact C 2 V (a1 X O ay _ V)
        ·refine Am (v:= .int .i32 (m:M4).num) V (λρ h=>Yl.move (h _ _ V)) (Am (v:=CM m.w) V (λρ h=>IN am (h _ _ V) (h _ _ V)) ?_);refine C 3 V (FU (p:=(m.w:Int)=1) V (λd2=>?_) (λd2=>?_))
         ·have hex:(!true || m.w==1)=true:=by rw [d1];simp;omega
          rw [hex];refine C 2 V (Am (v:= .int .i32 (-11)) V (λρ h=>Yl.to (Yl.sub (h _ _ V) (h _ _ V)) V) ?_);refine C 6 V (JL.uA V V ?_);refine C 1 V (G7 (kk:=kk) (p:= .Ej true) (dl:= -11) O ac V V V V V Hg V V λK a5 al=>⟨⟨true,K.k,false,K.w - 1⟩,some .len,?_,List.mem_singleton.2 V,?_⟩)
          ·obtain⟨a9,bb,be,w3⟩:=K;obtain⟨U,g2,Z,ap,bi,aq⟩:=al;simp only at U g2 Z ap;subst U g2 Z;have bn:w3<134217728:=aq;have e:(⟨false,false,true,w3⟩:M4).num+(-11)=((8*(w3 - 1)+1:Nat):Int):=by simp only [M4.num,Bool.toNat_true,Bool.toNat_false];omega
           rw [e,Fs (by omega)];simp only [M4.num,Bool.toNat_true,Bool.toNat_false];omega
          exact C 2 V (a1 X O ay _ V)
         ·have hex:(!true || m.w==1)=false:=by rw [d1];simp;omega
          rw [hex];refine C 5 V (JL.uA V V ?_);refine C 1 V (G7 (kk:=kk) (p:= .Ej false) (dl:= -7) O ac V V V V V Hg V V λK a5 al=>⟨⟨true,K.k,true,K.w - 1⟩,some .len,?_,List.mem_singleton.2 V,?_⟩)
          ·obtain⟨a9,bb,be,w3⟩:=K;obtain⟨U,g2,Z,ap,bi,aq⟩:=al;simp only at U g2 Z ap;subst U g2 Z;have bn:w3<134217728:=aq;have e:(⟨false,false,true,w3⟩:M4).num+(-7)=((8*(w3 - 1)+5:Nat):Int):=by simp only [M4.num,Bool.toNat_true,Bool.toNat_false];omega
           rw [e,Fs (by omega)];simp only [M4.num,Bool.toNat_true,Bool.toNat_false];omega
          exact C 2 V (a1 X O ay _ V)
       ·refine⟨some (.Cg true true 0 m),by simp [Fam.BW,ag],?_⟩;refine C 2 V ?_;have bo:m.s=false:=by simpa using ag
        refine C 4 V (Am (v:=CM (BA m&&& 4)) V (λρ h=>Ey (c:=4) am (h _ _ V) (h _ _ V) (by decide)) ?_);refine Am (v:= .bool false) V (λρ h=>Yl.to (HB (h _ _ V) (h _ _ V)) (by rw [(HJ m).2 bo];rfl)) (C 11 V ?_);refine JL.again ?_;rw [← a6];exact Eu [(0,.pointer (some F.uA)),(2,iV wt),(3,.bool true),(4,.bool true),(5,iV ((0:Nat):Int)),(6,.int .i32 (m:M4).num)] V (b5 (true,true,0,m,wt) ⟨λ_=>a0.2.1 bo,Nat.zero_le _,a8⟩)
   ·refine JL.done (C 4 V ?_);refine JL.uA V V (G9 (kk:=kk) (p:= .Ek sv aw it) O ac V V V V V G3 Im V λa7 cy bv=>⟨some (.Cg sv aw it a7),List.mem_singleton.2 V,?_⟩);refine C 3 V (JL.again ?_);rw [← a6];exact Eu [(0,.pointer (some F.uA)),(2,iV wt),(3,.bool sv),(4,.bool aw),(5,iV (it:Int)),(6,.int .i32 (a7:M4).num)] V (b5 (sv,aw,it,a7,wt) ⟨bv.2.2.2,b1.2.1,bv.2.2.1⟩)
 exact λa co=>key 5 a (by omega) co
set_option maxHeartbeats 4000000 in
theorem VB{F:Fam}{n:Nat}{L:Env}{ds:Ld_}{k:Li_}{cs:Lf_}{s:St}{b:Frame}{ops:Ao_}{i:Nat}{rest:List Nat}{d:Option Tmp}{x:Operand}{ats:Array TypeId}{ty:TypeId}{pp:String}{af:Ae_}{g:On_}{kk:Nat}(K:s.q=false)(O:ops[i]? =some ⟨d,.call ⟨.value (.func 162),#[x],ats⟩,ty,pp,af,g⟩)(hw:AJ L ops ⟨d,.call ⟨.value (.func 162),#[x],ats⟩,ty,pp,af,g⟩=some true)(U:((b.kind != .early)&&Bc n d)=true)(Y:ev L x=some (.pointer (some F.uA)))
  (h:JL (AP Tryz.prog false) (Stop Tryz.prog F (.lk kk .EF)) b n (Au L d (.tuple #[])) ds (.inRegion ops rest::k) cs s):
  JL (AP Tryz.prog false) (Stop Tryz.prog F (.lk kk .F0)) b n L ds (.inRegion ops (i::rest)::k) cs s:=by
 refine Ha (vs:= [.pointer (some F.uA)]) O hw U Tryz.func162 (by decide+kernel) V (by simp [evs,Y]) (Nat.le_of_ble_eq_true V) λac back=>C 2 V (K7 (kk:=kk) (p:= .F0) CU.stop K V (λ_ _=>V) V V V V (by simp) Uu ?_);refine C 6 V (JL.uA V V ?_);refine Sd (kk:=kk) (p:= .He) (old:=M4.zero) (nw:=⟨true,false,false,0⟩) CU.stop K V V V V V Od V V V (λq Z=>⟨some .len,by simp [Fam.BW],?_⟩) (λm q hm Z=>⟨some (.Ek false false 0),by simp [Fam.BW,hm],?_⟩)
 ·refine JL.done (C 5 V ?_);refine K7 (kk:=kk) (p:= .len) CU.stop K V (λ_ _=>V) V V V V (by simp) Oz (C 3 V ?_);refine Pm (kk:=kk) (p:= .KL) CU.stop K V (λ_ _=>V) V V V V Tryz.underlying229 Tryz.underlying185 PU V (PN (kk:=kk) (p:= .J4) (ad:=F.uA) CU.stop K V (λ_ _=>V) V V V V (by simp) Um V V ?_);exact JL.done (JL.ret V V (BB.none Tryz.func162 V) (back _ _ _ _ h))
 ·refine JL.done (C 4 V ?_);refine Wk (kk:=kk) K V V V V (JL.done ?_);exact JL.fin V V (BB.none Tryz.func162 V) (back _ _ _ _ h)
set_option maxHeartbeats 4000000 in
theorem V2{F:Fam}{n:Nat}{L:Env}{ds:Ld_}{k:Li_}{cs:Lf_}{s:St}{b:Frame}{ops:Ao_}{i:Nat}{rest:List Nat}{d:Option Tmp}{x:Operand}{ats:Array TypeId}{ty:TypeId}{pp:String}{af:Ae_}{g:On_}{kk:Nat}(K:s.q=false)(O:ops[i]? =some ⟨d,.call ⟨.value (.func 121),#[x],ats⟩,ty,pp,af,g⟩)(hw:AJ L ops ⟨d,.call ⟨.value (.func 121),#[x],ats⟩,ty,pp,af,g⟩=some true)(U:((b.kind != .early)&&Bc n d)=true)(Y:ev L x=some (.pointer (some F.uA)))
  (h:JL (AP Tryz.prog false) (Stop Tryz.prog F (.lk kk .EF)) b n (Au L d (.tuple #[])) ds (.inRegion ops rest::k) cs s):
  JL (AP Tryz.prog false) (Stop Tryz.prog F (.lk kk .F0)) b n L ds (.inRegion ops (i::rest)::k) cs s:=by
 refine Ha (vs:= [.pointer (some F.uA)]) O hw U Tryz.func121 (by decide+kernel) V (by simp [evs,Y]) (Nat.le_of_ble_eq_true V) λZ back=>C 3 V (Am (v:= .pointer (some F.uA)) V (λρ h=>Jk (a:=F.uA) 1 0 Tryz.underlying142 (AN Tryz.type140) V V V (h _ _ V)) ?_);refine VB (kk:=kk) K V V V V (JL.done ?_);exact JL.fin V V (BB.none Tryz.func121 V) (back _ _ _ _ h)
def IA(m:M4):LP:=if m.l=false/\m.k=false/\m.s=false/\m.w≠0 then .EJ m else .Fc
def QO(m:M4):LP:=if m.s=true then .EY true else if m.k=false/\m.w≠0 then .EJ {m with l:=false} else .Fc
set_option maxHeartbeats 4000000 in
theorem VE{F:Fam}{n:Nat}{L:Env}{ds:Ld_}{k:Li_}{cs:Lf_}{s:St}{b:Frame}{ops:Ao_}{i:Nat}{rest:List Nat}{d:Option Tmp}{x Z:Operand}{nw:M4}{ats:Array TypeId}{ty:TypeId}{pp:String}{af:Ae_}{g:On_}{kk:Nat}(U:s.q=false)(a3:ops[i]? =some ⟨d,.call ⟨.value (.func 191),#[x,Z],ats⟩,ty,pp,af,g⟩)(hw:AJ L ops ⟨d,.call ⟨.value (.func 191),#[x,Z],ats⟩,ty,pp,af,g⟩=some true)(a4:((b.kind != .early)&&Bc n d)=true)(a5:ev L x=some (.pointer (some F.uA)))(a6:ev L Z=some (.int .i32 nw.num))(al:nw.l=false)(a7:C7 nw)(ac:Cj nw)
  (h:JL (AP Tryz.prog false) (Stop Tryz.prog F (.lk kk .Fc)) b n (Au L d (.tuple #[])) ds (.inRegion ops rest::k) cs s):
  JL (AP Tryz.prog false) (Stop Tryz.prog F (.lk kk (if nw.s=true then .EY true else if nw.k=false/\nw.w≠0 then .EJ nw else .Fc))) b n L ds (.inRegion ops (i::rest)::k) cs s:=by
 refine Ha (vs:= [.pointer (some F.uA),.int .i32 nw.num]) a3 hw a4 Tryz.func191 (by decide+kernel) V (by simp [evs,a5,a6]) (Nat.le_of_ble_eq_true V) λam back=>C 4 V (Am (v:= .int .i32 ({nw with l:=true}:M4).num) V (λρ h=>Za ac al (h _ _ V) (h _ _ V)) ?_);refine Am (v:=CM (BA ({nw with l:=true}:M4)&&& 1)) V (λρ h=>Ey (c:=1) (m:={nw with l:=true}) ac (h _ _ V) (h _ _ V) (by decide)) (Am (v:= .bool false) V (λρ h=>Yl.to (Yl.eql (h _ _ V) (h _ _ V)) (by rw [decide_eq_false (λe=>by have q:=(QB _).1 e;cases q)])) ?_);refine C 6 V (Am (v:=CM (BA nw&&& 4)) V (λρ h=>Ey (c:=4) ac (h _ _ V) (h _ _ V) (by decide)) ?_);refine C 2 V (FU (p:=((BA nw&&& 4:Nat):Int)=0) V (λc=>?_) (λc=>?_))
 ·have ap:=(HJ nw).1 c;rw [if_neg (by rw [ap];exact Bool.false_ne_true)];refine C 6 V ?_;refine IK ?_;refine Eu [(0,.pointer (some F.uA)),(4,.int .i32 nw.num)] V ?_;refine UF λaq av=>?_;have a8:(if nw.k=false/\nw.w≠0 then LP.EJ nw else .Fc)=IA nw:=by unfold IA;rw [al,ap];simp
  rw [a8];refine Uh (P:=Tryz.prog) (F:=F) (s:=s) (kk:=kk) (ph:=λm=>LP.EJ m) (ok:=C7) (head:=λ(X:Ph->GP) (a:M4)=>JL (AP Tryz.prog false) (X (.lk kk (IA a))) (base 191) Tryz.f191.ntmps ([(0,.pointer (some F.uA)),(4,.int .i32 (a:M4).num)]) [] aq (am::cs) s) ?_ nw a7;intro Y bx aw hC old ay;have K:Cj old:=ay.Cj;show JL (AP Tryz.prog false) (Y (.lk kk (IA old))) (base 191) Tryz.f191.ntmps [(0,.pointer (some F.uA)),(4,.int .i32 old.num)] [] aq (am::cs) s;rw [av];refine C 5 V (Am (v:=CM old.w) V (λρ h=>IN K (h _ _ V) (h _ _ V)) ?_);refine C 2 V (LV (q:=(old.w:Int)=0) (i:=17) V (λc2=>?_) (λc2=>?_))
  ·have O:IA old= .Fc:=by unfold IA;rw [if_neg (λe=>e.2.2.2 (by omega))]
   refine C 6 V ?_;rw [O];exact JL.ret V V (BB.none Tryz.func191 V) (back _ _ _ _ (Np (λg s=>aw _ g s) h))
  ·refine Am (v:= .int .i32 (old:M4).num) V (λρ h=>Yl.move (h _ _ V)) (Am (v:=CM (BA old&&& 7)) V (λρ h=>Ey (c:=7) K (h _ _ V) (h _ _ V) (by decide)) ?_);refine C 3 V (FU (p:=((BA old&&& 7:Nat):Int)≠0) V (λc3=>?_) (λc3=>?_))
   ·have O:IA old= .Fc:=by unfold IA;rw [if_neg (λe=>c3 ((Un old).2 ⟨e.1,e.2.1,e.2.2.1⟩))]
    rw [O];exact JL.ret V V (BB.none Tryz.func191 V) (back _ _ _ _ (Np (λg s=>aw _ g s) h))
   ·have a9:=(Un old).1 (Decidable.not_not.1 c3);obtain⟨l0,bz,b0,w0⟩:=old;obtain⟨z1,az,a0⟩:=a9;simp only at z1 az a0 c2;subst z1 az a0;have a1:w0≠0:=by omega
    have O:IA ⟨false,false,false,w0⟩= .EJ ⟨false,false,false,w0⟩:=by unfold IA;rw [if_pos ⟨rfl,rfl,rfl,a1⟩]
    rw [O];refine C 4 V (Am (v:= .int .i32 (⟨false,false,false,w0 - 1⟩:M4).num) V (λρ h=>Zb (m:=⟨false,false,false,w0⟩) K a1 (h _ _ V) (h _ _ V)) ?_);refine Am (v:= .int .i32 (⟨false,true,false,w0 - 1⟩:M4).num) V (λρ h=>N8 (c:=2) (m:=⟨false,false,false,w0 - 1⟩) (by unfold Cj at K ⊢;simp only at K ⊢;omega) (by decide) (QR _) V (h _ _ V) (h _ _ V)) (C 7 V ?_);refine JL.uA V V (C 2 V ?_);refine λT bb=>(AP Tryz.prog false).stop (hC ⟨false,false,false,w0⟩ _ ay λX b1 be a2 bi bn=>?_);refine Pu (kk:=kk) (p:= .EJ ⟨false,false,false,w0⟩) (old:=⟨false,false,false,w0⟩) (nw:=⟨false,true,false,w0 - 1⟩) be U V V V V V Od V V V (λq bo=>⟨some (.EY false),by simp [Fam.BW],?_⟩) (λm q hm bo=>⟨some .Hj,by simp [Fam.BW,hm],?_⟩) T bb
    ·refine JL.done (C 5 V ?_);refine Am (v:= .pointer (some F.qA)) V (λρ h=>Jk (a:=F.uA) 0 1 Tryz.underlying140 MW V V V (h _ _ V)) (RI (kk:=kk) (st:=false) a2 U V V V V T6 V V ?_);exact JL.done (JL.ret V V (BB.none Tryz.func191 V) (back _ _ _ _ (Np (λg s=>bi _ g s) h)))
    ·refine JL.done (C 5 V ?_);refine JL.uA V V (G9 (kk:=kk) (p:= .Hj) a2 U V V V V V G3 bB V λag b2 bv=>⟨some (IA ag),List.mem_singleton.2 V,?_⟩);refine C 3 V (JL.again ?_);rw [← av];exact Eu [(0,.pointer (some F.uA)),(4,.int .i32 ag.num)] V (bn ag bv)
 ·have bw:nw.s=true:=by rcases Bool.eq_false_or_eq_true nw.s with hh | hh;exact hh;exact absurd ((HJ nw).2 hh) c
  rw [if_pos bw];refine C 3 V (Am (v:= .pointer (some F.qA)) V (λρ h=>Jk (a:=F.uA) 0 1 Tryz.underlying140 MW V V V (h _ _ V)) ?_);refine RI (kk:=kk) (st:=true) CU.stop U V V V V T6 V V (JL.done ?_);exact JL.fin V V (BB.none Tryz.func191 V) (back _ _ _ _ h)
set_option maxHeartbeats 4000000 in
theorem Vd{F:Fam}{n:Nat}{L:Env}{ds:Ld_}{k:Li_}{cs:Lf_}{s:St}{b:Frame}{ops:Ao_}{i:Nat}{rest:List Nat}{d:Option Tmp}{x:Operand}{ats:Array TypeId}{ty:TypeId}{pp:String}{af:Ae_}{g:On_}{kk:Nat}(K:s.q=false)(al:ops[i]? =some ⟨d,.call ⟨.value (.func 163),#[x],ats⟩,ty,pp,af,g⟩)(hw:AJ L ops ⟨d,.call ⟨.value (.func 163),#[x],ats⟩,ty,pp,af,g⟩=some true)(am:((b.kind != .early)&&Bc n d)=true)(ap:ev L x=some (.pointer (some F.uA)))
  (h:JL (AP Tryz.prog false) (Stop Tryz.prog F .HV) b n (Au L d (.tuple #[])) ds (.inRegion ops rest::k) cs s):
  JL (AP Tryz.prog false) (Stop Tryz.prog F (.lk kk .Gx)) b n L ds (.inRegion ops (i::rest)::k) cs s:=by
 refine Ha (vs:= [.pointer (some F.uA)]) al hw am Tryz.func163 (by decide+kernel) V (by simp [evs,ap]) (Nat.le_of_ble_eq_true V) λa0 back=>C 6 V (JL.uA V V ?_);refine G9 (kk:=kk) (p:= .Gx) CU.stop K V V V V V G3 bU V λa1 a2 a3=>⟨some .J9,List.mem_singleton.2 V,?_⟩;refine C 4 V (Pm (kk:=kk) (p:= .J9) CU.stop K V (λ_ _=>V) V V V V Tryz.underlying229 Tryz.underlying185 PU V ?_);refine PN (kk:=kk) (p:= .J6) (ad:=F.uA) CU.stop K V (λ_ _=>V) V V V V (by simp) cz V V (C 2 V ?_);refine K7 (kk:=kk) (p:= .J1) CU.stop K V (λ_ _=>V) V V V V (by simp) Uu (C 5 V ?_);refine JL.uA V V (G7 (kk:=kk) (p:= .HP) (dl:= -1) CU.stop K V V V V V Hg V V λm q Y=>⟨{m with l:=false},some (QO m),?_,List.mem_singleton.2 V,?_⟩)
 ·obtain⟨aq,O,U,w3⟩:=m;obtain⟨Z,av⟩:=Y;simp only at Z;subst Z;have a4:w3<134217728:=av;have a5:=Bool.toNat_le O;have a6:=Bool.toNat_le U;have e:(⟨true,O,U,w3⟩:M4).num+(-1)=((2*O.toNat+4*U.toNat+8*w3:Nat):Int):=by simp only [M4.num,Bool.toNat_true];omega
  rw [e,Fs (by omega)];simp only [M4.num,Bool.toNat_false];omega
 ·have ac:C7 m:=Y.2;have aw:Cj ({m with l:=false}:M4):=(show C7 ({m with l:=false}:M4) from ac).Cj;refine C 8 V ?_;refine FU (p:=({m with l:=false}:M4).num≠0) V (λc=>?_) (λc=>?_)
  ·refine JL.region (C 2 V ?_);refine VE (kk:=kk) (nw:={m with l:=false}) K V V V V V V ac aw (C 2 V ?_);refine K7 (kk:=kk) (p:= .Fc) CU.stop K V (λ_ _=>V) V V V V (by simp) Oz (JL.done ?_);exact JL.fin V V (BB.none Tryz.func163 V) (back _ _ _ _ h)
  ·have ay:({m with l:=false}:M4).num=0:=Decidable.not_not.1 c;have ag:m.k=false/\m.s=false/\m.w=0:=by
    obtain⟨aq,O,U,w3⟩:=m;cases O <;> cases U <;> simp [M4.num] at ay ⊢ <;> omega
   have az:QO m= .Fc:=by unfold QO;rw [if_neg (by rw [ag.2.1];exact Bool.false_ne_true),if_neg (λe=>e.2 ag.2.2)]
   rw [az];refine C 2 V (K7 (kk:=kk) (p:= .Fc) CU.stop K V (λ_ _=>V) V V V V (by simp) Oz ?_);exact JL.done (JL.fin V V (BB.none Tryz.func163 V) (back _ _ _ _ h))
theorem JO.Yh{F:Fam}{n:Nat}{M:Env}{ds:Ld_}{cs:Lf_}{s:St}{b:Frame}{kk:Nat}(K:b.roundOf=none)(O:s.q=false)(h:JO (AP Tryz.prog false) (Stop Tryz.prog F .HV) b n M ds cs s):
  JO (AP Tryz.prog false) (Stop Tryz.prog F (.lk kk .Gx)) b n M (dcall 122 #[.pointer (some F.uA)]::ds) cs s:=by
 refine JO.enter (vs:= [.pointer (some F.uA)]) K Tryz.func122 (by decide+kernel) V (Nat.le_of_ble_eq_true V) λT U todo=>C 3 V (Am (v:= .pointer (some F.uA)) V (λρ h=>Jk (a:=F.uA) 1 0 Tryz.underlying142 (AN Tryz.type140) V V V (h _ _ V)) ?_);refine Vd (kk:=kk) O V V V V (JL.done ?_);exact JL.out V (JO.leaveD V Tryz.func122 V (.inl V) (h T U todo))
end Pal
namespace Pal
open Go Go.Conc
open Go.ConcN (upd)
variable {ops:Ao_}{rest:List Nat}{f:FuncId}{ats:Array TypeId}{ty t u:TypeId}{pp:String}{af:Ae_}{g:On_}{kk:Nat}
section
variable {P:Program}{F:Fam}{n:Nat}{L L':Env}{ds:Ld_}{k:Li_}{cs:Lf_}{s s':St}{b:Frame}
variable {i:Nat}{d:Option Tmp}{x y z:Operand}{tw:TypeId}
theorem Vk{m:Nat}(h:Bj P t=some m)(w:World):(Go.sizeOf t).run P w= .ok m w:=by
 unfold Bj at h;simp only [Go.sizeOf,typeInfo,bind,Sem.bind,program,Sem.run];cases hi:P.info? t with
 | none=>rw [hi] at h;cases h
 | some j=>rw [hi] at h;simp at h;subst h;rfl
theorem YP{w:World}{K:Nat->Value}(h:F.FD w K)(O:kk<F.n):w.cell? ⟨F.fd,kk,none⟩=some (K kk)/\w.frozen? ⟨F.fd,kk,none⟩=false:=by
 unfold Fam.FD Fam.Ix at h;constructor
 ·simp [World.cell?,h,O]
 ·simp [World.frozen?,h]
theorem Vz{w:World}{O:Nat->Value}{v:Value}(h:F.FD w O)(ac:kk<F.n):w.setCell ⟨F.fd,kk,none⟩ v=F.Hk w (upd O kk v):=by
 unfold Fam.Hk World.setCell;congr 1;apply Array.ext_getElem?;intro i;unfold Fam.FD Fam.Ix at h;rw [Array.getElem?_modify];have U:F.fd<w.heap.size:=by
  rcases Nat.lt_or_ge F.fd w.heap.size with K | K
  ·exact K
  ·simp [Array.getElem?_eq_none K] at h
 by_cases e:F.fd=i
 ·subst e;rw [Array.getElem?_setIfInBounds_self_of_lt U,h];simp only [if_true,Option.map_some,Fam.Ix,Option.some.injEq,Obj.cells.injEq,and_true];apply Array.ext
  ·simp
  ·intro j ag Y;by_cases e2:kk=j
   ·subst e2;simp [upd]
   ·have Z:¬j=kk:=λe=>e2 e.symm;simp [upd,Z];rw [Array.getElem_setIfInBounds (by simpa using Y),if_neg e2];simp
 ·rw [Array.getElem?_setIfInBounds_ne e,if_neg e]
theorem VG{X:Ph->GP}(av:CU P F X){a:Option Addr}{l c:Nat}(aw:s.q=false)(Y:kk<F.n)
  (ay:ops[i]? =some ⟨d,.store t x y,ty,pp,af,g⟩) (Z:b.roundOf=none) (hw:AJ L ops ⟨d,.store t x y,ty,pp,af,g⟩=some true) (U:((b.kind != .early)&&Bc n d)=true)
  (az:Bj P t=some 1) (a0:(P.funcs[b.fn]?).any (·.norace)=false) (a1:ev L x=some (.pointer (some ⟨F.fd,kk,none⟩))) (a2:ev L y=some (.slice a l c)) (hm:F.msg kk (.slice a l c) s.E)
  (h:JL (AP P false) (X (.lk kk .Gx)) b n (Au L d undef) ds (.inRegion ops rest::k) cs s):
  JL (AP P false) (X (.lk kk .EF)) b n L ds (.inRegion ops (i::rest)::k) cs s:=λT K=>by
 simp only [Bool.and_eq_true] at U
 refine(AP P _).stop (av _ _ _ {
  run:=rfl,offers:=rfl,quiet:=(by simp [Fam.CI]),live:=λ_=>aw,act:=(by simp [Fam.act]),IZ:=(by simp),Fb:=(by simp),go:=(by simp),lk:=λk' l e a3=>by cases e;exact absurd rfl a3
  Cs:=(by simp),store:=λk' e=>?_,fin:=(by simp)})
 cases e
 refine⟨_,hm,G (fr b (CG T d undef) ds (.inRegion ops rest::k)) cs,rfl,λw a4 ac=>?_,h _ (K.put U.2 _)⟩
 obtain⟨c1,c2⟩:=YP ac Y
 have ag:execOp (⟨T,ds⟩:Act).eval ⟨d,.store t x y,ty,pp,af,g⟩=(do Instr.storeAt t (.pointer (some ⟨F.fd,kk,none⟩)) (.slice a l c);pure Next.skip):=by
  rw [KV];simp only [execOp,K.ev a1,K.ev a2]
 have al:(Value.slice a l c).cells= #[.slice a l c]:=rfl;have am:(Value.slice a l c).oneCell'=true:=rfl;have ap:(Addr.add ⟨F.fd,kk,none⟩ 0)=⟨F.fd,kk,none⟩:=by rw [DO rfl];rfl
 have aq:=Vk (P:=P) az w;have O:=run_store P w ⟨F.fd,kk,none⟩ (.slice a l c) .plain am;rw [c1] at O;simp only [c2,Bool.false_eq_true,if_false] at O;rw [BM Z,BM Z,stepG_none (a:=⟨T,ds⟩) (w':=F.Hk w (upd a4 kk (.slice a l c))) ay (B7 K hw) (by simpa using U.1) (by
  rw [ag]
  simp [Instr.storeAt,Instr.sureAddr,storeVar,al,aq,storeCells,ap,O,Vz ac Y,Result.andThen]),Ee]
 have e2:listed P b.fn ⟨T,ds⟩ ⟨d,.store t x y,ty,pp,af,g⟩ w= #[⟨.cell ⟨F.fd,kk,none⟩,true,false⟩]:=by
  unfold listed;rw [ag];have a5:=events_store (P:=P) (w:=w) (es:= #[]) ⟨F.fd,kk,none⟩ (.slice a l c) .plain am;have a6:(do Instr.storeAt t (.pointer (some ⟨F.fd,kk,none⟩)) (.slice a l c);pure Next.skip:Sem Next).events P w #[]= #[⟨.cell ⟨F.fd,kk,none⟩,true,false⟩]:=by
   simp [Instr.storeAt,Instr.sureAddr,storeVar,al,aq,storeCells,ap,O,c1,c2,a5,Result.evThen]
  rw [a6,seen_def];simp [seenStep,a0]
 rw [e2]
end
end Pal
namespace Pal
open Go Go.Conc Go.Proofs
open Go.Proofs.Tryz
open Go.Conc.Lib Go.ConcR.Gen
theorem bZ:(Tryz.prog.funcs[117]?).any (·.norace)=false:=by rw [func117];rfl
def Kz(fu_:Nat)(K:A5)(p:Ay)(j:Nat):Option (List Int):=
 (f120 fu_ K).bind λO=>
 (f119 fu_ ([O]:List (List (AE))) ((j:Nat):Int) p ([]:List ((Nat×Bq)×Bool))).bind λU=>
 some U.1
set_option maxHeartbeats 1000000 in
theorem aN{F:Fam}{j:Nat}{E:LH}{ap a1 aq:Aq}{Z c2 av ac op ag al am oi kf off:Nat}{p:Ay}{O:A5}(a3:At E ac op [.slice ap p.length Z])(a4:Al Az E ap Z p)(a5:At E ag al [sV a1 O.1 c2,sV aq O.2 av])(a6:Al (rL rI) E a1 c2 O.1)(a7:Al Az E aq av O.2)(hi:At E am oi [iV ((j:Nat):Int)])(a8:At E kf off [.slice (some ⟨F.fd,0,none⟩) F.n F.n]){fu_:Nat}{r:List Int}(az:Kz fu_ O p j=some r)(a0:j<F.n)(a9:∀E' a c,Le E E'->Al rI E' a c r->(r= []->a=none)->F.msg j (.slice a r.length c) E'):
  Way Tryz.prog false (Stop Tryz.prog F (F.start j)) (born Tryz.prog ⟨.fn (.func 117) [.pointer (some F.sA),Ak ac op,Ak ag al,Ak am oi,.pointer (some F.uA),Ak kf off].toArray,#[]⟩) ⟨E,λ_=>none,false⟩:=by
 refine X5 (fn:=Tryz.f117) (vs:= [.pointer (some F.sA),Ak ac op,Ak ag al,Ak am oi,.pointer (some F.uA),Ak kf off]) func117 (by decide+kernel) V (by simp) (Nat.le_of_ble_eq_true V) ?_;obtain⟨H,bb⟩:∃H:LH,H=λ_=>none:=⟨_,V⟩;rw [← bb];have be:Ap E H []:=trivial;refine(?_:JL (AP Tryz.prog false) (Stop Tryz.prog F (.lk j .F0)) (baseD 117) Tryz.f117.ntmps (Ga 0 [.pointer (some F.sA),Ak ac op,Ak ag al,Ak am oi,.pointer (some F.uA),Ak kf off]) [] [.code _] [Lq Tryz.prog] (Aj E H []));unfold Kz at az;refine C 2 V (JL.defer (vs:= [.pointer (some F.sA)]) V V V V V ?_);refine C 3 V (Di 0 a3 BC V V V ?_);refine JS.makeMap V V V be λr1 bi=>Am (v:= .agg #[sV ap p Z,.map (some r1)]) V (λρ h=>C3 [(0,1),(1,1)] h (Dr type153) underlying153 ⟨V,AN type80,V,AN type151,trivial⟩ V V) (JS.box (v:= .agg #[sV ap p Z,.map (some r1)]) V V V bi V λct bn=>?_);refine C 3 V (Dp 1 bn V λcw K bo bv=>?_);refine EV 5 λaw=>C8 0 aw V V (JN 1 aw (a5.Ah K) F6 DK V V V ?_);refine Dz 4 aw 0 (hi.Ah K) Bb V V V V ?_;obtain⟨a2,bw,bx⟩:=bs az;refine JG.call (i:=2) (vs:= [.agg #[sV a1 O.1 c2,sV aq O.2 av]]) (Zg (a6.Ah K) (a7.Ah K) bw) (by decide+kernel) V V V (A8 func120 V) V bv ?_;rintro _ cy _ U ⟨bz,b0,rfl,rfl,b1⟩ b2;refine JG.one (i:=3) V (by decide+kernel) (Take.EZ (pp:=(rL (rM rI false rI false))) [sV bz a2 b0] ([a2]:List (List AE)) b2 V V V underlying158 Jz MS (by decide) V V V ⟨⟨_,_,V,b1⟩,trivial⟩ λcN cO b3 b4=>?_);refine Dd [5,6] (Cm 3 b3 b4 V λcP Y b5 b6=>?_);obtain⟨ca,cc,ce⟩:=bs bx;refine Cx 0 (aP b5 (bo.Ah (U.Ad Y)) (a4.Ah ((K.Ad U).Ad Y)) Bt.nil cc) V V (A8 func119 V) b6 V ?_;rintro _ cQ _ ay ⟨cR,cT,cV,rfl,rfl,ci,co,cW⟩ cX;refine C 3 V ?_;have cp:r=ca.1:=(Option.some.inj ce).symm;subst cp;refine JL.region (V2 (kk:=j) V V V V V ?_);refine C 3 V (JL.defer (vs:= [.pointer (some F.uA)]) V V V V V ?_);refine C 2 V (Di 0 (a8.Ah (((K.Ad U).Ad Y).Ad ay)) F5 V V V ?_);refine Di 0 (hi.Ah (((K.Ad U).Ad Y).Ad ay)) Bb V V V (C 1 V ?_);refine Am (v:= Ak F.fd j) V (λρ h=>Yl.to (Fq (xs:=List.replicate F.n ()) (m:=((j:Nat):Int)) (xv:=()) (List.length_replicate) (by simp [ix,a0]) underlying22 GF (h _ _ V) (h _ _ V)) (by show Ak F.fd (j*1)=_;rw [Nat.mul_one])) (VG (kk:=j) CU.stop V a0 V V V V GF bZ V V (a9 _ _ _ (((K.Ad U).Ad Y).Ad ay) ci co) ?_);exact JL.done (JL.out V (JO.Yh (kk:=j) V V (JO.bg Tryz.Kt V V (JO.leaveD V func117 V (.inr V) VI))))
theorem OL.ZG{e:TypeId}{E:LH}{r c:Nat}{seg:Seg}{xs:Lv_}(h:OL e rV E (AS r) c seg xs)(Y:c=xs.length):seg= [(r,.cells xs.toArray e (0,0))]:=by
 obtain⟨wss,ag,K,Z⟩:=h;rcases ag with⟨al,_⟩ | ⟨bk,f,am,e2,ac,ap,O⟩
 ·cases al
 cases am;have hw:wss=xs.map λx=> [x]:=by
  apply List.ext_getElem?;intro i;rw [List.getElem?_map];cases U:xs[i]? with
  | none=>rw [List.getElem?_eq_none (by rw [K];exact List.getElem?_eq_none_iff.1 U)];rfl
  | some x=>
   have hi:i<wss.length:=by rw [K];exact(List.getElem?_eq_some_iff.1 U).1
   have:=(Z i x wss[i] U (List.getElem?_eq_getElem hi)).1;rw [List.getElem?_eq_getElem hi,this];rfl
 have aq:wss.flatten=xs:=by
  rw [hw];clear hw O Z K ac ap Y
  induction xs with
  | nil=>rfl
  | cons x xs av=>simp [av]
 rw [aq] at O;have ay:rV.n=1:=V;have aw:f.toList=xs:=by
  rw [O];rw [List.take_of_length_le (by rw [Array.length_toList,ac,Y];exact Nat.le_refl _)]
 rw [e2,← aw]
noncomputable def KF:Code:=match(Tryz.f77.body).bind (Jl 0) with | some (.loop c)=>c | _=> .skip
noncomputable def UL:Code:=match(Tryz.f77.body).bind (Jl 2) with | some (.loop c)=>c | _=> .skip
set_option maxHeartbeats 1000000 in
theorem YW{F:Fam}{n:Nat}(aw:F.n=n)(bx:0<n)(bz:n<=1000){E:LH}{ap a1 al:Aq}{am c2 aq:Nat}{p:Ay}{O:A5}(ay:Al Az E ap am p)(az:Al (rL rI) E a1 c2 O.1)(a0:Al Az E al aq O.2)(hlen:p.length=n){Y Z kf:Nat}(a2:At E Y 0 [.slice ap p.length am])(a3:At E Z 0 [sV a1 O.1 c2,sV al O.2 aq])(a4:At E kf 0 [.slice (some ⟨F.fd,0,none⟩) F.n F.n]){fu_:Nat}{xs:Nat->List Int}(a5:∀j,j<n->Kz fu_ O p j=some (xs j))(a6:∀j,j<n->∀E' a c,Al rI E' a c (xs j)->(xs j= []->a=none)->F.msg j (.slice a (xs j).length c) E'){j:Nat}(ac:j<n){ag H:LH}(hle:Le E ag)(a7:Ap ag H []){k:Li_}{cs:Lf_}
  (h:∀U,Le E U->Ap U H []->JL (AP Tryz.prog true) (Stop Tryz.prog F (F.ED j)) (base 77) Tryz.f77.ntmps [(2,Ak Z 0),(3,Ak Y 0),(6,.pointer (some F.uA)),(7,.pointer (some F.sA)),(8,Ak kf 0),(19,iV (p.length:Int)),(20,iV ((j+1:Nat):Int))] [] (.inLoop KF::k) cs (Aj U H [])):
  JL (AP Tryz.prog true) (Stop Tryz.prog F (.Gg j)) (base 77) Tryz.f77.ntmps [(2,Ak Z 0),(3,Ak Y 0),(6,.pointer (some F.uA)),(7,.pointer (some F.sA)),(8,Ak kf 0),(19,iV (p.length:Int)),(20,iV ((j:Nat):Int))] [] (.code KF:: .inLoop KF::k) cs (Aj ag H []):=by
 refine C 2 V (Am (v:= .bool true) V (λρ h=>Yl.to (Yl.lss (h _ _ V) (h _ _ V)) (by rw [decide_eq_true (show((j:Nat):Int)<(p.length:Int) by omega)])) ?_);refine C 9 V (BT a7 Ce λrn a8=>?_);refine BL 0 a8 AI λa9=>?_;refine Dp 0 a9 V λU bb be bi=>H9 (S':= []) (by simp) bi λbn=>?_;have K:=hle.trans bb;refine C 3 V (Wd Tryz.Kt V V V V V V ?_);refine C 2 V (Am (v:= .func (.func 117) #[] ([.pointer (some F.sA),Ak Y 0,Ak Z 0,Ak rn 0,.pointer (some F.uA),Ak kf 0]:Lv_).toArray) V (λρ h=>KU (by simp) (by simp [h (.tmp 7) _ rfl,h (.tmp 3) _ rfl,h (.tmp 2) _ rfl,h (.tmp 9) _ rfl,h (.tmp 6) _ rfl,h (.tmp 8) _ rfl])) ?_);have av:=aN (F:=F) (j:=j) (a2.Ah K) (ay.Ah K) (a3.Ah K) (az.Ah K) (a0.Ah K) be (a4.Ah K) (a5 j ac) (by rw [aw];exact ac) (λE' a c _ bo bv=>a6 j ac E' a c bo bv);refine Zs (fi:= #[]) V V V V V V V (by first | exact av | (simp only [List.append_toArray,List.nil_append,Array.append_empty,Array.empty_append];exact av)) ?_
 refine C 3 V ?_;have bw:Av (((j:Nat):Int)+1)=some (((j+1:Nat)):Int):=by unfold Av;rw [if_pos (by omega)];simp
 refine Bx bw V V V (C 2 V ?_);exact AB (h U K bn) V
theorem VC{F:Fam}{n:Nat}(Y:F.n=n)(aw:0<n)(ay:n<=1000){E:LH}{ap a1 ag:Aq}{al c2 am:Nat}{p:Ay}{O:A5}(az:Al Az E ap al p)(a0:Al (rL rI) E a1 c2 O.1)(a2:Al Az E ag am O.2)(hlen:p.length=n){Z ac kf:Nat}(a3:At E Z 0 [.slice ap p.length al])(a4:At E ac 0 [sV a1 O.1 c2,sV ag O.2 am])(a5:At E kf 0 [.slice (some ⟨F.fd,0,none⟩) F.n F.n]){fu_:Nat}{xs:Nat->List Int}(a6:∀j,j<n->Kz fu_ O p j=some (xs j))(a7:∀j,j<n->∀E' a c,Al rI E' a c (xs j)->(xs j= []->a=none)->F.msg j (.slice a (xs j).length c) E'){H:LH}{k:Li_}{cs:Lf_}
  (h:∀K,Le E K->Ap K H []->JL (AP Tryz.prog true) (Stop Tryz.prog F .Dk) (base 77) Tryz.f77.ntmps [(2,Ak ac 0),(3,Ak Z 0),(6,.pointer (some F.uA)),(7,.pointer (some F.sA)),(8,Ak kf 0),(19,iV (p.length:Int)),(20,iV (p.length:Int))] [] (.code KF:: .inLoop KF::k) cs (Aj K H [])):
  ∀(m j:Nat),j+m=n->0<m->∀U,Le E U->Ap U H []->JL (AP Tryz.prog true) (Stop Tryz.prog F (.Gg j)) (base 77) Tryz.f77.ntmps [(2,Ak ac 0),(3,Ak Z 0),(6,.pointer (some F.uA)),(7,.pointer (some F.sA)),(8,Ak kf 0),(19,iV (p.length:Int)),(20,iV ((j:Nat):Int))] [] (.code KF:: .inLoop KF::k) cs (Aj U H []):=by
 intro m
 induction m with
 | zero=>intro j _ a8;cases a8
 | succ m a9=>
  intro j bi _ U hle bb;refine YW Y aw ay az a0 a2 hlen a3 a4 a5 a6 a7 (by omega) hle bb λK aq av=>JL.again ?_;by_cases hm:m=0
  ·subst hm;have be:j+1=F.n:=by rw [Y];omega
   have e:F.ED j= .Dk:=by unfold Fam.ED;rw [if_pos be]
   rw [e];have e2:((j+1:Nat):Int)=(p.length:Int):=by rw [hlen];omega
   rw [e2];exact h K aq av
  ·have e:F.ED j= .Gg (j+1):=by unfold Fam.ED;rw [if_neg (by rw [Y];omega)]
   rw [e];exact a9 (j+1) (by omega) (by omega) K aq av
def Ov(fu_:Nat)(K:A5)(p:Ay)(j:Nat):List Int:=(Kz fu_ K p j).getD []
def Mm(n:Nat)(xs:Nat->List Int):(List Int)×Bool:=match(List.range n).find? (λj=> !(xs j).isEmpty) with | some j=>(xs j,true) | none=>([],false)
def f77(fu_:Nat)(K:A5)(p:Ay):Option ((List Int)×Bool):= if p.length=0 then some ([],true) else if p.length<=1000/\(List.range p.length).all (λj=>(Kz fu_ K p j).isSome)=true then some (Mm p.length (Ov fu_ K p)) else none
theorem WY{n:Nat}{xs:Nat->List Int}{i:Nat}(hi:i<n)(K:xs i≠ [])(O:∀k,k<i->xs k= []):Mm n xs=(xs i,true):=by
 unfold Mm;have:(List.range n).find? (λj=> !(xs j).isEmpty)=some i:=by
  rw [List.find?_range_eq_some];refine⟨by simp [K],by simpa using hi,λj U=>by simp [O j U]⟩
 rw [this]
theorem Wm{n:Nat}{xs:Nat->List Int}(K:∀k,k<n->xs k= []):Mm n xs=([],false):=by
 unfold Mm;have:(List.range n).find? (λj=> !(xs j).isEmpty)=none:=by
  rw [List.find?_eq_none];intro j O;simp [K j (List.mem_range.1 O)]
 rw [this]
theorem Yw{E:LH}{a:Aq}{c:Nat}{xs:List Int}(h:Al rI E a c xs)(K:xs≠ []):a.isNone=false:=by
 rcases h.2 with⟨e,_⟩ | ⟨bk,off,e,_⟩
 ·exact absurd e K
 ·rw [e];rfl
set_option maxHeartbeats 1000000 in
theorem Zi{J:Judge Tryz.prog}{Q:Gs_}{Y:Frame}{cs:Lf_}{fd n:Nat}{f:Nat->Value}{xs:Nat->List Int}(ay:n<=1000){E H:LH}{k:Li_}(ag:Ap E H [[(fd,.cells (Array.ofFn λi:Fin n=>f i) 28 (0,0))]])(hm:∀k,k<n->∃a c,f k= .slice a (xs k).length c/\Al rI E a c (xs k)/\(xs k= []->a=none))
  (al:∀i a c L',i<n->xs i≠ []->(∀k,k<i->xs k= [])->Al rI E a c (xs i)->look L' 4=some (.slice a (xs i).length c)->look L' 5=some (.bool true)->∀k',JL J Q (base 77) Tryz.f77.ntmps L' [] (.code .ret::k') (Y::cs) (Aj E H [[(fd,.cells (Array.ofFn λi:Fin n=>f i) 28 (0,0))]]))
  (am:(∀k,k<n->xs k= [])->JL J Q (base 77) Tryz.f77.ntmps [] [] k (Y::cs) (Aj E H [[(fd,.cells (Array.ofFn λi:Fin n=>f i) 28 (0,0))]])):
  ∀m i,i+m=n->(∀k,k<i->xs k= [])->JL J Q (base 77) Tryz.f77.ntmps [(27,.slice (AS fd) n n),(28,iV (n:Int)),(29,iV (i:Int))] [] (.code UL:: .inLoop UL:: .inBlock 2::k) (Y::cs) (Aj E H [[(fd,.cells (Array.ofFn λi:Fin n=>f i) 28 (0,0))]]):=by
 intro m
 induction m with
 | zero=>
  intro i hi K;refine C 2 V (Am (v:= .bool false) V (λρ h=>Yl.to (Yl.lss (h _ _ V) (h _ _ V)) (by rw [decide_eq_false (show ¬((i:Int)<(n:Int)) by omega)])) ?_);refine C 4 V (Eu [] V ?_);exact am λk az=>K k (by omega)
 | succ m ap=>
  intro i hi K;have O:i<n:=by omega
  obtain⟨a,c,aq,ac,av⟩:=hm i O;refine C 2 V (Am (v:= .bool true) V (λρ h=>Yl.to (Yl.lss (h _ _ V) (h _ _ V)) (by rw [decide_eq_true (show(i:Int)<(n:Int) by omega)])) ?_);refine C 8 V (Am (v:= Ak fd i) V (λρ h=>Yl.to (Fq (xs:=List.replicate n ()) (m:=((i:Nat):Int)) (xv:=()) (List.length_replicate) (by simp [ix,O]) underlying22 GF (h _ _ V) (h _ _ V)) (by show Ak fd (i*1)=_;rw [Nat.mul_one])) ?_);refine Am (v:= .slice a (xs i).length c) V (λρ h=>Yl.load Kd (h _ _ V) (BY (j:=0) (off:=i) ag V (by simp [O,aq]))) (C 5 V ?_);refine Am (v:= .bool (!a.isNone)) V (λρ h=>WJ underlying28 (h _ _ V) (h _ _ V)) (JL.done ?_);by_cases U:xs i= []
  ·have Z:(!a.isNone)=false:=by rw [av U];rfl
   rw [Z];refine C 4 V ?_;have aw:Av (((i:Nat):Int)+1)=some (((i+1:Nat)):Int):=by unfold Av;rw [if_pos (by omega)];simp
   refine Bx aw V V V ?_;refine C 2 V ?_;refine JL.again ?_;refine Fg ?_ (ap (i+1) (by omega) (λk a0=>by
    by_cases e:k=i
    ·subst e;exact U
    ·exact K k (by omega)))
   exact⟨V,V,V,trivial⟩
  ·have Z:(!a.isNone)=true:=by rw [Yw ac U];rfl
   rw [Z];exact C 7 V (al i a c _ O U K ac V V _)
set_option maxHeartbeats 2000000 in
theorem b8{E:LH}{a1:Aq}{c2:Nat}{a8:Aq}{a9:Nat}{ap:Aq}{bb:Nat}{O:A5}{p:Ay}(cc:Al (rL rI) E a1 c2 O.1)(ce:Al Az E a8 a9 O.2)(ci:Al Az E ap bb p){fu_:Nat}{r:(List Int)×Bool}(U:f77 fu_ O p=some r):
  AQ (GK Tryz.prog) 77 [.agg #[sV a1 O.1 c2,sV a8 O.2 a9],sV ap p bb] E [] (λw E' B'=>∃(be:Aq) (bi:Nat),w= .tuple #[sV be r.1 bi,.bool r.2]/\B'= []/\Al rI E' be bi r.1):=by
 refine NY func77 V V λQ dh cs H co Y=>?_;unfold f77 at U;refine C 2 V (Du co λcp di ct cw cy=>?_);refine Du cy λcN dj bn am cO=>?_;refine H9 (S':= []) (by simp) cO λbo=>?_;have bv:=ct.Ad bn;refine C 6 V (Di 0 am BC V V V ?_);refine JL.ln underlying80 V V V (C 2 V ?_);refine FU (p:=(p.length:Int)=0) V (λcP=>?_) (λcP=>?_)
 ·rw [if_pos (by omega)] at U;have Z:=(Option.some.inj U).symm;subst Z;refine C 5 V (A2 func77 V V ?_);exact Y _ _ _ _ bv V ⟨none,0,V,V,Al.nil⟩ bo
 rw [if_neg (by omega)] at U;split at U
 rotate_left
 ·cases U
 rename_i hb;obtain⟨bw,cQ⟩:=hb;have Z:=(Option.some.inj U).symm;have ag:∀j,j<p.length->Kz fu_ O p j=some (Ov fu_ O p j):=λj az=>by
  have aq:=List.all_eq_true.1 cQ j (List.mem_range.2 az);obtain⟨x,a0⟩:=Option.isSome_iff_exists.1 aq;unfold Ov;rw [a0];rfl
 generalize dk:Ov fu_ O p=xs at ag Z;have bx:0<p.length:=by omega
 refine C 3 V (BT bo (Dr type142) λmu cR=>?_);refine C 3 V (BT cR (Dr type148) λwg cT=>?_);refine JL.done (H9 (S':= [[(mu,.cells #[.int .i32 0,.int .u32 0] 142 (0,0))],[(wg,.cells #[.int .u64 0,.int .u32 0] 148 (0,0))]]) (by simp [Value.cells]) cT λcV=>?_);refine C 2 V (Di 0 am BC V V V ?_);refine JL.ln underlying80 V V V ?_;have cW:Lo (p.length:Int) (Value.slice none 0 0)=some (List.replicate p.length nS):=by unfold Lo;rw [if_pos (by omega)];simp
 refine JS.make (pp:=rV) cW V V V V V underlying22 GF (Ed type28) (by decide) LF (by decide) ⟨V,V⟩ cV λfd dn cX bz=>?_;have cY:=OL.ZG cX V;subst cY;obtain⟨K,b0⟩:∃K,K=List.replicate p.length (Value.slice none 0 0):=⟨_,V⟩;have b1:(List.replicate p.length (Value.slice none 0 0)).length=p.length:=by simp
 rw [← b0] at bz b1 ⊢;rw [b1];refine BT bz (Dr type22) λkf cZ=>?_;refine BL 3 cZ FQ λc0=>?_;refine Dp 3 c0 V λac av b2 c1=>H9 (S':= [[(mu,.cells #[.int .i32 0,.int .u32 0] 142 (0,0))],[(wg,.cells #[.int .u64 0,.int .u32 0] 148 (0,0))],[(fd,.cells K.toArray 28 (0,0))]]) (by simp) c1 λal=>?_;have aw:=bv.Ad av;refine C 4 V (Di 0 (am.Ah av) BC V V V ?_);refine JL.ln underlying80 V V V (C 3 V ?_);refine IK (Eu [(2,Ak cp 0),(3,Ak cN 0),(6,.pointer (some (⟨mu,0,none⟩:Addr))),(7,.pointer (some (⟨wg,0,none⟩:Addr))),(8,Ak kf 0),(19,iV (p.length:Int)),(20,iV ((0:Nat):Int))] V ?_);have b3:=Nd.iff.1 al;intro T c3;let F:Fam:=⟨wg,mu,fd,148,142,28,p.length,λkk v E=>kk<p.length/\∃a c,v= .slice a (xs kk).length c/\Al rI E a c (xs kk)/\(xs kk= []->a=none),λg s=>(GK Tryz.prog).ok Q g s⟩;have ay:=b3.1;simp only [List.flatten_cons,List.flatten_nil,List.append_nil,List.cons_append,List.nil_append,List.map_cons,List.map_nil,List.nodup_cons,List.mem_cons,List.not_mem_nil,not_or,or_false,not_false_eq_true,and_true,List.nodup_nil] at ay;have c4:(Aj ac H [[(mu,.cells #[.int .i32 0,.int .u32 0] 142 (0,0))],[(wg,.cells #[.int .u64 0,.int .u32 0] 148 (0,0))],[(fd,.cells K.toArray 28 (0,0))]]).H fd=some (F.Ix λ_=> nS):=by
  rw [IY (j:=2) al rfl];have:(Array.ofFn λ_:Fin p.length=>Value.slice none 0 0)=K.toArray:=by
   rw [b0];apply Array.ext
   ·simp
   ·intro i aq b4;simp
  show some (Obj.cells K.toArray 28 (0,0))=some (Obj.cells (Array.ofFn λ_:Fin p.length=>Value.slice none 0 0) 28 (0,0));rw [this]
 refine YU F (f₀:=λ_=> .slice none 0 0) (show 1<=p.length by omega) (show p.length<134217728 by omega) ?_ ay.1.1 (λe=>ay.2 e.symm) (λe=>ay.1.2 e.symm) (IY (j:=1) al V) (IY (j:=0) al V) c4 ?_ (λg s h=>h)
 ·rintro kk v dp dq c5 ⟨aq,a,c,b4,a2,a3⟩;exact⟨aq,a,c,b4,a2.Ah c5,a3⟩
 have c6:=Vy al;show Way Tryz.prog true (Stop Tryz.prog F (.Gg 0)) _ (⟨(Aj ac H [[(mu,.cells #[.int .i32 0,.int .u32 0] 142 (0,0))],[(wg,.cells #[.int .u64 0,.int .u32 0] 148 (0,0))],[(fd,.cells K.toArray 28 (0,0))]]).E,JJ (Aj ac H [[(mu,.cells #[.int .i32 0,.int .u32 0] 142 (0,0))],[(wg,.cells #[.int .u64 0,.int .u32 0] 148 (0,0))],[(fd,.cells K.toArray 28 (0,0))]]).H wg mu fd,false⟩:St);rw [show(Aj ac H [[(mu,.cells #[.int .i32 0,.int .u32 0] 142 (0,0))],[(wg,.cells #[.int .u64 0,.int .u32 0] 148 (0,0))],[(fd,.cells K.toArray 28 (0,0))]]).E=ac from rfl,c6];have c7:Ap ac H []:=trivial;have c8:H fd=none:=(b3.2 (fd,.cells K.toArray 28 (0,0)) (by simp)).2;refine VC (F:=F) (n:=p.length) V bx bw (ci.Ah aw) (cc.Ah aw) (ce.Ah aw) V (am.Ah av) (cw.Ah (bn.Ad av)) b2 ag (λj az E' a c c9 da=>⟨az,a,c,V,c9,da⟩) (λdb b5 dr=>?_) p.length 0 (by omega) bx ac Aw c7 T c3;refine C 2 V ?_;refine Am (v:= .bool false) V (λρ h=>Yl.to (Yl.lss (h _ _ V) (h _ _ V)) (by rw [decide_eq_false (show ¬((p.length:Int)<(p.length:Int)) by omega)])) ?_;refine C 6 V ?_;refine JL.wait Tryz.Kt (F:=F) (show p.length<2147483648 by omega) V V V V V (Q:=Q) (λg s h=>h) λa4 f b6 dc dt dd=>?_;have a5:Ap a4 H [[(fd,F.Ix f)]]:=Nd.iff.2 ⟨by simp,λq ag=>by
  simp at ag;subst ag;exact⟨dc,c8⟩⟩
 have es:(⟨a4,F.JV (Aj db H []).H f,false⟩:St)=Aj a4 H [[(fd,F.Ix f)]]:=by
  unfold Aj mk;congr 1
 rw [es];have ca:=(aw.Ad b5).Ad b6;refine C 4 V (Di 0 (b2.Ah (b5.Ad b6)) F5 V V V ?_);refine JL.ln underlying22 V V V (C 3 V ?_);refine IK (Eu [(27,.slice (AS fd) p.length p.length),(28,iV (p.length:Int)),(29,iV ((0:Nat):Int))] V ?_);refine Zi (n:=p.length) (f:=f) (xs:=xs) bw a5 (λk Y=>?_) (λi a c L' hi a0 a6 de a2 a3 k'=>?_) (λa6=>?_) p.length 0 (by omega) (λk Y=>absurd Y (Nat.not_lt_zero _))
 ·obtain⟨_,a,c,df,e2,dg⟩:=dd k Y;exact⟨a,c,df,e2,dg⟩
 ·rw [WY hi a0 a6] at Z;subst Z;exact JL.ret (v:= .tuple #[.slice a (xs i).length c,.bool true]) V V (BB.list func77 V (vs:= [.slice a (xs i).length c,.bool true]) ⟨a2,a3,trivial⟩) (Rj a5 λa7=>Y _ _ _ _ ca V ⟨a,c,V,V,de⟩ a7)
 ·rw [Wm a6] at Z;subst Z;refine C 5 V (A2 func77 V V ?_);exact Rj a5 λa7=>Y _ _ _ _ ca V ⟨none,0,V,V,Al.nil⟩ a7
end Pal
namespace Pal
open Go Go.Conc Go.Proofs
open Go.Proofs.Tryz
def TY(fu_:Nat)(Z:A5×Int)(O:AT)(K:Int):Option (Br Int ((Ay×(List Int)×Int)⊕(Unit))):= if K<(O.length:Int) then((ix O K).bind λU=> (f77 fu_ Z.1 U).bind λY=> if Y.2=true then(some (.done (Sum.inl (U,Y.1,0)))) else((Av (K+1)).bind λac=> some (.more ac))) else(some (.done (Sum.inr ())))
def f27(fu_:Nat)(p0:A5):Option (Ay×(List Int)×Int):= (f70 fu_ p0 ([])).bind λK=> if K.2≠0 then(some ([],[],K.2)) else((f71 fu_ K.1 0).bind λO=> (f76 fu_ O).bind λU=> Option.bind (iter (TY fu_ K U) fu_ 0) λY=> Sum.elim (λr=>some r) (λZ=> some ([],[],11)) Y)
theorem bC{E:LH}{a1:Aq}{c2:Nat}{al:Aq}{am:Nat}{p0:A5}(ce:Al (rL rI) E a1 c2 p0.1)(ci:Al Az E al am p0.2){fu_:Nat}{r:Ay×(List Int)×Int}(a8:f27 fu_ p0=some r):AQ (GK Tryz.prog) 27 [.agg #[sV a1 p0.1 c2,sV al p0.2 am]] E [] (λw E' B'=>∃(a9:Aq) (bb:Nat) (be:Aq) (bi:Nat),w= .tuple #[sV a9 r.1 bb,sV be r.2.1 bi,iV r.2.2]/\B'= []/\Al Az E' a9 bb r.1/\Al rI E' be bi r.2.1):=by
 refine Bo func27 λQ dF cs H co a2=>?_;unfold f27 at a8;refine C 2 V (Du co λcp dG Y ct cw=>?_);refine C 6 V (B9 ct DZ Ck V V ?_);obtain⟨K,cy,cN⟩:=bs a8;refine BU (Ks (ce.Ah Y) (ci.Ah Y) Al.nil cy) V V Ke cw ?_;rintro _ dH _ a3 ⟨ap,aq,av,aw,rfl,rfl,bn,bo⟩ cO;refine C 3 V (BT cO Hu λbv cP=>?_);refine BL 3 cP DK λcQ=>?_;refine Dp 3 cQ V λdI O bw bx=>C 8 V (A0 cN (λcR cT=>?_) (λcR cV=>?_))
 ·refine C 7 V ?_;obtain rfl:=oi cT;exact A2 func27 V V (a2 ((Y.Ad a3).Ad O) V ⟨none,0,none,0,V,V,Al.nil,Al.nil⟩ bx)
 ·refine C 3 V (B9 bw F6 DK V V ?_);obtain⟨dJ,cW,cX⟩:=bs cV;refine BU (Qy (bn.Ah O) (bo.Ah O) cW) V V OU bx ?_;rintro _ dK dL Z ⟨ay,az,_,rfl,rfl,cY⟩ cZ;obtain⟨ac,c0,c1⟩:=bs cX;refine C 5 V (Cx 4 (Z6 cY c0) V V (A8 func76 V) cZ V ?_);rintro _ c3 c4 ag ⟨rfl,c5,a4⟩ c6;refine Fg (L':= [(23,.tuple #[]),(0,.agg #[.slice a1 p0.1.length c2,.slice al p0.2.length am]),(1,Ak cp 0),(2,.slice none 0 0),(3,.slice none 0 0),(4,iV 0),(13,.agg #[.slice a1 p0.1.length c2,.slice al p0.2.length am]),(14,.tuple #[.agg #[.slice ap K.1.1.length aq,.slice av K.1.2.length aw],iV K.2]),(12,.tuple #[.agg #[.slice ap K.1.1.length aq,.slice av K.1.2.length aw],iV K.2]),(15,.agg #[.slice ap K.1.1.length aq,.slice av K.1.2.length aw]),(16,iV K.2),(5,Ak bv 0),(6,iV K.2),(17,iV K.2),(18,.bool (decide (K.2≠0))),(20,.agg #[.slice ap K.1.1.length aq,.slice av K.1.2.length aw]),(21,.slice ay ac.length az),(7,.slice ay ac.length az),(22,.slice ay ac.length az)]) ⟨V,V,V,V,V,V,V,V,V,V,V,V,V,V,V,V,by rw [a4];rfl,by rw [a4];rfl,by rw [a4];rfl,trivial⟩ ?_;refine C 5 V (JL.ln underlying83 V V V ?_);obtain⟨bz,c7,b0⟩:=bs c1;refine C 2 V (Bw (λL s=>∃(b1:Unit) (b2:LH),bz=Sum.inr b1/\Jm c3 H b2 [] [] L s) ?_ ?_)
  ·rintro _ _ ⟨b1,b2,rfl,rfl,rfl,c8,c9⟩;have da:=elim_inr b0;refine C 6 V ?_;obtain rfl:=oi da;exact A2 func27 V V (a2 (((((Y.Ad a3).Ad O).Ad Z).Ad ag).Ad c8) V ⟨none,0,none,0,V,V,Al.nil,Al.nil⟩ c9)
  ·intro db;refine JL.block (Ef c7 (λa5=> [c4]) (λa5=> [(5,Ak bv 0),(24,sV ay ac az),(25,iV (ac.length:Int)),(26,iV a5)]) Aw c6 ?_);rintro a5 dc U a6 b3 ⟨dM,a0⟩ dd;have b4:=a0;unfold TY at b4;refine C 5 V (A0 b4 (λde df=>?_) (λde dg=>?_))
   ·obtain⟨dh,di,dj⟩:=bs df;refine C 5 V (PF 0 (c5.Ah U) di V V V V V V underlying83 Bf ?_);rintro dN dO f93 _ dk ⟨b5,b6,rfl,ca⟩ dn dQ dR dS dT;refine Am (v:= sV b5 dh b6) V (λρ h=>Yl.load BC (h _ _ V) (BY (j:=0) a6 dk (dn 0 _ V))) (C 4 V ?_);refine B9 (bw.Ah ((Z.Ad ag).Ad U)) F6 DK V V ?_;obtain⟨dU,dp,dq⟩:=bs dj;refine C 1 V (BU (b8 (bn.Ah (((O.Ad Z).Ad ag).Ad U)) (bo.Ah (((O.Ad Z).Ad ag).Ad U)) ca dp) V V (A8 func77 V) a6 ?_);rintro _ dV _ a7 ⟨dr,dt,rfl,rfl,du⟩ cc;refine C 10 V (CF dq (λdv dw=>?_) (λdv dx=>?_))
    ·refine C 8 V (JS.drop 0 cc V λdy=>?_);obtain rfl:=oi dw;obtain rfl:=b3 _ a0;have dz:=elim_inl b0;obtain rfl:=oi dz;exact A2 func27 V V (a2 ((((((Y.Ad a3).Ad O).Ad Z).Ad ag).Ad U).Ad a7) V ⟨b5,b6,dr,dt,V,V,(ca.Ah a7),du⟩ dy)
    ·obtain⟨dA,dB,dC⟩:=bs dx;refine C 3 V (Bx dB V V V ?_);refine C 2 V ?_;obtain rfl:=oi dC;exact dd dA (U.Ad a7) cc V a0
   ·refine JL.exit V (JS.drop 0 a6 V λdD=>?_);obtain rfl:=oi dg;have dE:bz=(Sum.inr ()):=(b3 _ a0).symm;exact AB (db _ _ ⟨(),dc,dE,V,V,U,dD⟩) V
variable {J:Judge Tryz.prog}{E:LH}
def Uj(fu_:Nat)(p0:List Int)(K:Ay×Int):Option (Br (Ay×Int) (Ay)):= (Av (K.2+2)).bind λO=> if O<(p0.length:Int) then((ix p0 K.2).bind λU=> (Av (K.2+1)).bind λY=> (ix p0 Y).bind λZ=> (Av (K.2+2)).bind λac=> (ix p0 ac).bind λag=> (Eh K.1 ([(U,Z,ag)]:Ay)).bind λal=> (Av (K.2+3)).bind λam=> some (.more (al,am))) else(some (.done K.1))
def f67(fu_:Nat)(p0:List Int):Option (Ay):= Option.bind (iter (Uj fu_ p0) fu_ ([],0)) λK=> some K
theorem Oj{a1:Aq}{c2:Nat}{p0:List Int}(aq:Al rI E a1 c2 p0){fu_:Nat}{r:Ay}(a2:f67 fu_ p0=some r):AQ J 67 [sV a1 p0 c2] E [] (λw E' B'=>∃(a3:Aq) (a4:Nat) (g0:Seg),w= sV a3 r a4/\B'=g0/\OL 27 Az E' a3 a4 g0 r):=by
 refine Bo func67 λQ dc cs H be bi=>?_;unfold f67 at a2;obtain⟨a5,bn,bo⟩:=bs a2;refine C 13 V (Bw (λL s=>∃(av:LH) (Y:Aq) (Z:Nat) (ac:Seg),Jn E H av [ac] [(3,sV Y a5 Z)] L s (OL 27 Az av Y Z ac a5)) ?_ ?_)
 ·rintro _ _ ⟨av,Y,Z,ac,rfl,rfl,bv,bw,bx⟩;refine C 5 V ?_;obtain rfl:=oi bo;exact A2 func67 V V (bi bv V ⟨Y,Z,ac,V,(by first | rfl | simp | (simp [Value.cells])),bx⟩ bw)
 ·intro bz;refine JL.block (C4 bn (λL s ag=>∃(al:LH) (am:Aq) (ap:Nat) (O:Seg),Jn E H al [O] [(0,sV a1 p0 c2),(3,sV am ag.1 ap),(4,iV ag.2)] L s (OL 27 Az al am ap O ag.1)) ⟨E,none,0,[],V,V,Aw,be,OL.nil⟩ ?_);rintro _ _ ag ⟨al,am,ap,O,rfl,rfl,U,a6,a7⟩ b0 ⟨dd,aw⟩ b1;have a8:=aw;unfold Uj at a8;obtain⟨de,b2,b3⟩:=bs a8;refine C 4 V (Bx b2 V V V ?_);refine C 1 V (JL.ln underlying28 V V V ?_);refine C 2 V (A0 b3 (λb4 b5=>?_) (λb4 b6=>?_))
  ·refine C 3 V (EV 17 λK=>?_);refine Ba K V [0,1,2] V ?_;obtain⟨ay,ca,cc⟩:=bs b5;refine FG 3 (aq.Ah U) ca K underlying28 AI ?_;rintro df dg _ rfl ce;refine Dz 4 K 0 ce Bb V V V V (Ba K V [5,6] V ?_);obtain⟨dh,ci,co⟩:=bs cc;refine AK 7 K V V (λρ h s' a9=>FC (h _ _ V) (h _ _ V) ci) ?_;obtain⟨az,cp,ct⟩:=bs co;refine FG 8 (aq.Ah U) cp K underlying28 AI ?_;rintro di dj _ rfl cw;refine Dz 9 K 0 cw Bb V V V V (Ba K V [10,11] V ?_);obtain⟨dk,cy,cN⟩:=bs ct;refine AK 12 K V V (λρ h s' a9=>FC (h _ _ V) (h _ _ V) cy) ?_;obtain⟨a0,cO,cP⟩:=bs cN;refine FG 13 (aq.Ah U) cO K underlying28 AI ?_;rintro dn dp _ rfl cQ;refine Dz 14 K 0 cQ Bb V V V V (AK (v:= .agg #[iV ay,iV az,iV a0]) 15 K V V (λρ h s' a9=>C3 [(0,1),(1,1),(2,1)] h BP underlying27 ⟨V,AN type3,V,AN type3,V,AN type3,trivial⟩ V V) ?_);refine JG.one (i:=16) V (by decide+kernel) (Take.EZ (pp:=Az) [.agg #[iV ay,iV az,iV a0]] ([(ay,az,a0)]:Ay) a6 V V V underlying23 Bn BP (by decide) V V V ⟨⟨_,_,V,V,⟨_,_,V,V,V⟩⟩,trivial⟩ λdq cR cT cV=>?_);refine Dd [17,18] (BE (S':= [O,cR]) V cV λcW=>?_);refine Cm 1 cT cW V λcX bb cY cZ=>?_;obtain⟨c0,c1,c3⟩:=bs cP;refine JM (pp:=Az) 0 c1 V V V V V V V underlying23 underlying23 Bn (Ed type27) BP V (by decide) (by decide) (a7.Ah bb) cY cZ V λc4 c5 c6 c7 c8=>?_;obtain⟨c9,da,db⟩:=bs c3;refine C 5 V (Bx da V V V ?_);refine C 2 V ?_;obtain rfl:=oi db;exact AB (b1 _ _ (c0,c9) ⟨cX,c4,c5,c6,V,V,(U.Ad bb),c8,c7⟩ aw) V
  ·refine JL.exit V ?_;obtain rfl:=oi b6;obtain rfl:=b0 _ aw;exact AB (bz _ _ ⟨al,am,ap,O,V,V,U,a6,a7⟩) V
def f110(fu_:Nat)(p0:List Int)(p1:List Int):Option (A5):= (f67 fu_ ([0,1,5,1,2,5,2,3,2,0,3,1,3,1,1]:List Int)).bind λK=> (f67 fu_ p1).bind λO=> (Eh K O).bind λU=> some (([p0,[],([3]:List Int),([1]:List Int)]:Bq),U)
theorem Qf{a1:Aq}{c2:Nat}{aw:Aq}{ay:Nat}{p0:List Int}{p1:List Int}(a8:Al rI E a1 c2 p0)(a9:Al rI E aw ay p1){fu_:Nat}{r:A5}(az:f110 fu_ p0 p1=some r):AQ J 110 [sV a1 p0 c2,sV aw p1 ay] E [] (λw E' B'=>∃(a0:Aq) (a2:Nat) (a3:Aq) (a4:Nat),w= .agg #[sV a0 r.1 a2,sV a3 r.2 a4]/\B'= []/\Al (rL rI) E' a0 a2 r.1/\Al Az E' a3 a4 r.2):=by
 refine Bo func110 λQ dc cs H bb be=>?_;unfold f110 at az;refine C 2 V (BT bb II λY bi=>?_);refine C 4 V (FV (pp:=rI) [iV 3] [3] V V V underlying28 AI Ce (by decide) V V V ⟨V,trivial⟩ bi λbn bo bv bw=>?_);refine FV (pp:=rI) [iV 1] [1] V V V underlying28 AI Ce (by decide) V V V ⟨V,trivial⟩ bw λbx bz b0 b1=>BE (S':= [[],[(Y,.cells #[nS,nS] 25 (0,0))],bo,bz]) V b1 λb2=>Cm 2 bv b2 V λdd ac b3 b4=>Cm 3 (b0.Ah ac) b4 V λde ag b5 b6=>FV (pp:=(rL rI)) [sV a1 p0 c2,nS,.slice (AS bn) (([3]:List Int)).length 1,.slice (AS bx) (([1]:List Int)).length 1] [p0,[],([3]:List Int),([1]:List Int)] V V V underlying22 GF LF (by decide) V V V ⟨⟨_,_,V,(a8.Ah (ac.Ad ag))⟩,⟨_,_,V,Al.nil⟩,⟨_,_,V,(b3.Ah ag)⟩,⟨_,_,V,b5⟩,trivial⟩ b6 λK al ca cc=>BE (S':= [[],[(Y,.cells #[nS,nS] 25 (0,0))],[],[],al]) V cc λce=>FV (pp:=rI) [iV 0,iV 1,iV 5,iV 1,iV 2,iV 5,iV 2,iV 3,iV 2,iV 0,iV 3,iV 1,iV 3,iV 1,iV 1] [0,1,5,1,2,5,2,3,2,0,3,1,3,1,1] V V V underlying28 AI Ce (by decide) V V V ⟨V,V,V,V,V,V,V,V,V,V,V,V,V,V,V,trivial⟩ ce λdf dg ci co=>Cm 5 ci co V λdh am cp ct=>?_;obtain⟨di,cw,cy⟩:=bs az;refine BU (Oj cp cw) V V MQ ct ?_;rintro _ dj cN ap ⟨dk,dn,_,rfl,rfl,cO⟩ cP;refine BE (S':= [[],[(Y,.cells #[nS,nS] 25 (0,0))],[],[],al,[],cN]) V cP λcQ=>?_;obtain⟨dp,cR,cT⟩:=bs cy;refine C 1 V (BU (Oj (a9.Ah (((ac.Ad ag).Ad am).Ad ap)) cR) V V MQ cQ ?_);rintro _ dq dr aq ⟨dt,du,_,rfl,rfl,cV⟩ cW;refine Cm 7 cV cW V λdv av cX cY=>?_;obtain⟨Z,cZ,c0⟩:=bs cT;refine JM (pp:=Az) 6 cZ V V V V V V V underlying23 underlying23 Bn (Ed type27) BP V (by decide) (by decide) (cO.Ah (aq.Ad av)) cX cY V λO U c1 c3 c4=>BE (S':= [[],[(Y,.cells #[nS,nS] 25 (0,0))],[],[],al,[],c1,[]]) V c4 λc5=>Am (v:= .agg #[.slice (AS K) (([p0,[],([3]:List Int),([1]:List Int)]:Bq)).length 4,sV O Z U]) V (λρ h=>C3 [(0,1),(1,1)] h II underlying25 ⟨V,AN type22,V,AN type23,trivial⟩ V V) (BL 1 c5 Ck λc6=>?_);refine JL.done (Cm 4 (ca.Ah (((am.Ad ap).Ad aq).Ad av)) c6 V λdw a5 c7 c8=>?_);refine Cm 6 (c3.Ah a5) c8 V λdx a6 c9 da=>BE (S':= [[],[(Y,.cells #[.slice (AS K) (([p0,[],([3]:List Int),([1]:List Int)]:Bq)).length 4,sV O Z U] 25 (0,0))],[],[],[],[],[],[]]) V da λa7=>?_;obtain rfl:=oi c0;refine JL.ret (v:= .agg #[.slice (AS K) (([p0,[],([3]:List Int),([1]:List Int)]:Bq)).length 4,sV O Z U]) V V (BB.list func110 V (vs:= [.agg #[.slice (AS K) (([p0,[],([3]:List Int),([1]:List Int)]:Bq)).length 4,sV O Z U]]) ⟨⟨_,V,Ld.many (vs:= [.slice (AS K) (([p0,[],([3]:List Int),([1]:List Int)]:Bq)).length 4,sV O Z U]) DZ Ck (G5 (off:=0) 1 a7 V V)⟩,trivial⟩) (Ez 1 a7 V λdb=>?_);exact be (((((((ac.Ad ag).Ad am).Ad ap).Ad aq).Ad av).Ad a5).Ad a6) V ⟨(AS K),4,O,U,V,V,(c7.Ah a6),c9⟩ db
def f63(fu_:Nat):Option (A5):= (f110 fu_ ([1,2,3]:List Int) ([])).bind λK=> some K
theorem Oh{fu_:Nat}{r:A5}(ac:f63 fu_=some r):AQ J 63 [] E [] (λw E' B'=>∃(ag:Aq) (al:Nat) (am:Aq) (ap:Nat),w= .agg #[sV ag r.1 al,sV am r.2 ap]/\B'= []/\Al (rL rI) E' ag al r.1/\Al Az E' am ap r.2):=by
 refine Bo func63 λQ be cs H av aw=>?_;unfold f63 at ac;refine C 2 V (BT av II λr1 ay=>?_);refine C 3 V (FV (pp:=rI) [iV 1,iV 2,iV 3] [1,2,3] V V V underlying28 AI Ce (by decide) V V V ⟨V,V,V,trivial⟩ ay λbi bn az a0=>?_);refine Cm 2 az a0 V λbo a1 a2 a3=>?_;obtain⟨K,a4,a5⟩:=bs ac;refine BU (Qf a2 Al.nil a4) V V OJ a3 ?_;rintro _ bv _ a6 ⟨O,U,Y,Z,rfl,rfl,a7,a8⟩ a9;refine BL 1 a9 Ck λaq=>?_;refine JL.done ?_;obtain rfl:=oi a5;refine JL.ret (v:= .agg #[sV O K.1 U,sV Y K.2 Z]) V V (BB.list func63 V (vs:= [.agg #[sV O K.1 U,sV Y K.2 Z]]) ⟨⟨_,V,Ld.many (vs:= [sV O K.1 U,sV Y K.2 Z]) DZ Ck (G5 (off:=0) 1 aq V V)⟩,trivial⟩) (Ez 1 aq V λbb=>?_);exact aw (a1.Ad a6) V ⟨O,U,Y,Z,V,V,a7,a8⟩ bb
def f64(fu_:Nat):Option (A5):= (f110 fu_ ([]) ([])).bind λK=> some K
theorem bF{fu_:Nat}{r:A5}(ac:f64 fu_=some r):AQ J 64 [] E [] (λw E' B'=>∃(ag:Aq) (al:Nat) (am:Aq) (ap:Nat),w= .agg #[sV ag r.1 al,sV am r.2 ap]/\B'= []/\Al (rL rI) E' ag al r.1/\Al Az E' am ap r.2):=by
 refine Bo func64 λQ a6 cs H av aw=>?_;unfold f64 at ac;refine C 2 V (BT av II λr1 ay=>?_);obtain⟨K,az,a0⟩:=bs ac;refine C 3 V (BU (Qf Al.nil Al.nil az) V V OJ ay ?_);rintro _ a7 _ a1 ⟨O,U,Y,Z,rfl,rfl,a2,a3⟩ a4;refine BL 1 a4 Ck λaq=>?_;refine JL.done ?_;obtain rfl:=oi a0;refine JL.ret (v:= .agg #[sV O K.1 U,sV Y K.2 Z]) V V (BB.list func64 V (vs:= [.agg #[sV O K.1 U,sV Y K.2 Z]]) ⟨⟨_,V,Ld.many (vs:= [sV O K.1 U,sV Y K.2 Z]) DZ Ck (G5 (off:=0) 1 aq V V)⟩,trivial⟩) (Ez 1 aq V λa5=>?_);exact aw a1 V ⟨O,U,Y,Z,V,V,a2,a3⟩ a5
def f65(fu_:Nat):Option (A5):= (f110 fu_ ([5,1]:List Int) ([])).bind λK=> some K
theorem bN{fu_:Nat}{r:A5}(ac:f65 fu_=some r):AQ J 65 [] E [] (λw E' B'=>∃(ag:Aq) (al:Nat) (am:Aq) (ap:Nat),w= .agg #[sV ag r.1 al,sV am r.2 ap]/\B'= []/\Al (rL rI) E' ag al r.1/\Al Az E' am ap r.2):=by
 refine Bo func65 λQ be cs H av aw=>?_;unfold f65 at ac;refine C 2 V (BT av II λr1 ay=>?_);refine C 3 V (FV (pp:=rI) [iV 5,iV 1] [5,1] V V V underlying28 AI Ce (by decide) V V V ⟨V,V,trivial⟩ ay λbi bn az a0=>?_);refine Cm 2 az a0 V λbo a1 a2 a3=>?_;obtain⟨K,a4,a5⟩:=bs ac;refine BU (Qf a2 Al.nil a4) V V OJ a3 ?_;rintro _ bv _ a6 ⟨O,U,Y,Z,rfl,rfl,a7,a8⟩ a9;refine BL 1 a9 Ck λaq=>?_;refine JL.done ?_;obtain rfl:=oi a5;refine JL.ret (v:= .agg #[sV O K.1 U,sV Y K.2 Z]) V V (BB.list func65 V (vs:= [.agg #[sV O K.1 U,sV Y K.2 Z]]) ⟨⟨_,V,Ld.many (vs:= [sV O K.1 U,sV Y K.2 Z]) DZ Ck (G5 (off:=0) 1 aq V V)⟩,trivial⟩) (Ez 1 aq V λbb=>?_);exact aw (a1.Ad a6) V ⟨O,U,Y,Z,V,V,a7,a8⟩ bb
def f66(fu_:Nat):Option (Ay):= (f67 fu_ ([0,1,1,0,2,3,0,3,2]:List Int)).bind λK=> some K
theorem cd{fu_:Nat}{r:Ay}(K:f66 fu_=some r):AQ J 66 [] E [] (λw E' B'=>∃(O:Aq) (U:Nat),w= sV O r U/\B'= []/\Al Az E' O U r):=by
 refine Bo func66 λQ a5 cs H Y Z=>?_;unfold f66 at K;refine C 6 V (FV (pp:=rI) [iV 0,iV 1,iV 1,iV 0,iV 2,iV 3,iV 0,iV 3,iV 2] [0,1,1,0,2,3,0,3,2] V V V underlying28 AI Ce (by decide) V V V ⟨V,V,V,V,V,V,V,V,V,trivial⟩ Y λr1 g2 ac ag=>?_);refine Cm 1 ac ag V λa6 al am ap=>?_;obtain⟨a7,aq,av⟩:=bs K;refine BU (Oj am aq) V V MQ ap ?_;rintro _ a8 a9 aw ⟨ay,az,_,rfl,rfl,a0⟩ a1;refine C 2 V (Cm 2 a0 a1 V λbb a2 a3 a4=>?_);obtain rfl:=oi av;exact A2 func66 V V (Z ((al.Ad aw).Ad a2) V ⟨ay,az,V,V,a3⟩ a4)
def N7(fu_:Nat)(p0:List Int)(p1:List Int)(K:Int):Option (Br Int ((Bool)⊕(Unit))):= Option.bind (if K<(p0.length:Int) then(some (decide (K<(p1.length:Int)))) else(some false)) λO=> if O=true then((ix p0 K).bind λU=> (ix p1 K).bind λY=> if U≠Y then(some (.done (Sum.inl false))) else((Av (K+1)).bind λZ=> some (.more Z))) else(some (.done (Sum.inr ())))
def f29(fu_:Nat)(p0:List Int)(p1:List Int):Option Bool:= Option.bind (iter (N7 fu_ p0 p1) fu_ 0) λK=> Sum.elim (λr=>some r) (λO=> some (decide ((p0.length:Int)=(p1.length:Int)))) K
theorem Mo{a1:Aq}{c2:Nat}{O:Aq}{U:Nat}{p0:List Int}{p1:List Int}(a6:Al rI E a1 c2 p0)(a7:Al rI E O U p1){fu_:Nat}{r:Bool}(aq:f29 fu_ p0 p1=some r):AQ J 29 [sV a1 p0 c2,sV O p1 U] E [] (λw E' B'=>w= .bool r/\B'= []):=by
 refine Bo func29 λQ cQ cs H a8 av=>?_;unfold f29 at aq;obtain⟨aw,a9,ay⟩:=bs aq;refine C 9 V (Bw (λL s=>∃(az:Unit) (a0:LH),aw=Sum.inr az/\Jm E H a0 [] [(0,sV a1 p0 c2),(1,sV O p1 U)] L s) ?_ ?_)
 ·rintro _ _ ⟨az,a0,rfl,rfl,rfl,bb,be⟩;have bi:=elim_inr ay;refine C 3 V (JL.ln underlying28 V V V ?_);refine C 1 V (JL.ln underlying28 V V V ?_);refine C 3 V ?_;obtain rfl:=oi bi;exact A2 func29 V V (av bb V ⟨V,V⟩ be)
 ·intro bn;refine JL.block (Ef a9 (λac=> []) (λac=> [(0,sV a1 p0 c2),(1,sV O p1 U),(5,iV ac)]) Aw a8 ?_);rintro ac al Y a2 a3 ⟨cR,ag⟩ bo;have a4:=ag;unfold N7 at a4;refine C 5 V (JL.ln underlying28 V V V ?_);obtain⟨bv,bw,bx⟩:=bs a4;refine C 2 V (G8 [] (λL s=>∃(am:LH),Jm al H am [] [(0,sV a1 p0 c2),(1,sV O p1 U),(5,iV ac),(15,.bool bv)] L s) ?_ ?_)
  ·rintro _ _ ⟨am,rfl,rfl,Z,ap⟩;refine JL.done (CF bx (λbz b0=>?_) (λbz b1=>?_))
   ·refine C 4 V (EV 8 λK=>?_);refine Ba K V [0,1] V ?_;obtain⟨cT,b2,b3⟩:=bs b0;refine FG 2 (a6.Ah (Y.Ad Z)) b2 K underlying28 AI ?_;rintro cV cW _ rfl b4;refine Dz 3 K 0 b4 Bb V V V V (Ba K V [4,5] V ?_);obtain⟨cX,b5,b6⟩:=bs b3;refine FG 6 (a7.Ah (Y.Ad Z)) b5 K underlying28 AI ?_;rintro cY cZ _ rfl ca;refine Dz 7 K 0 ca Bb V V V V (Dd [8] ?_);refine C 2 V (A0 b6 (λcc ce=>?_) (λcc ci=>?_))
    ·refine C 4 V ?_;obtain rfl:=oi ce;obtain rfl:=a3 _ ag;have co:=elim_inl ay;obtain rfl:=oi co;exact A2 func29 V V (av (Y.Ad Z) V ⟨V,V⟩ ap)
    ·obtain⟨cp,ct,cw⟩:=bs ci;refine C 4 V (Bx ct V V V ?_);refine C 2 V ?_;obtain rfl:=oi cw;exact bo cp (Y.Ad Z) ap V ag
   ·refine JL.exit V ?_;obtain rfl:=oi b1;have cy:aw=(Sum.inr ()):=(a3 _ ag).symm;exact AB (bn _ _ ⟨(),am,cy,V,V,(Y.Ad Z),ap⟩) V
  ·intro a5;refine GN 10 bw (λcN cO=>?_) (λcN cP=>?_)
   ·refine C 2 V (JL.ln underlying28 V V V ?_);refine C 2 V ?_;obtain rfl:=oi cO;exact AB (a5 _ _ ⟨al,V,V,Aw,a2⟩) V
   ·refine C 5 V ?_;obtain rfl:=oi cP;exact AB (a5 _ _ ⟨al,V,V,Aw,a2⟩) V
def N2(fu_:Nat)(p0:Ay)(p1:Ay)(K:Int):Option (Br Int ((Bool)⊕(Unit))):= Option.bind (if K<(p0.length:Int) then(some (decide (K<(p1.length:Int)))) else(some false)) λO=> if O=true then((ix p0 K).bind λU=> (ix p1 K).bind λY=> if U≠Y then(some (.done (Sum.inl false))) else((Av (K+1)).bind λZ=> some (.more Z))) else(some (.done (Sum.inr ())))
def f26(fu_:Nat)(p0:Ay)(p1:Ay):Option Bool:= Option.bind (iter (N2 fu_ p0 p1) fu_ 0) λK=> Sum.elim (λr=>some r) (λO=> some (decide ((p0.length:Int)=(p1.length:Int)))) K
theorem Of{a1:Aq}{c2:Nat}{O:Aq}{U:Nat}{p0:Ay}{p1:Ay}(a8:Al Az E a1 c2 p0)(a9:Al Az E O U p1){fu_:Nat}{r:Bool}(aw:f26 fu_ p0 p1=some r):AQ J 26 [sV a1 p0 c2,sV O p1 U] E [] (λw E' B'=>w= .bool r/\B'= []):=by
 refine Bo func26 λQ cT cs H bb ay=>?_;unfold f26 at aw;obtain⟨az,be,a0⟩:=bs aw;refine C 9 V (Bw (λL s=>∃(a2:Unit) (a3:LH),az=Sum.inr a2/\Jm E H a3 [] [(0,sV a1 p0 c2),(1,sV O p1 U)] L s) ?_ ?_)
 ·rintro _ _ ⟨a2,a3,rfl,rfl,rfl,bi,bn⟩;have bo:=elim_inr a0;refine C 3 V (JL.ln underlying23 V V V ?_);refine C 1 V (JL.ln underlying23 V V V ?_);refine C 3 V ?_;obtain rfl:=oi bo;exact A2 func26 V V (ay bi V ⟨V,V⟩ bn)
 ·intro bv;refine JL.block (Ef be (λam=> []) (λam=> [(0,sV a1 p0 c2),(1,sV O p1 U),(5,iV am)]) Aw bb ?_);rintro am aq Y a4 a5 ⟨cV,ap⟩ bw;have a6:=ap;unfold N2 at a6;refine C 5 V (JL.ln underlying23 V V V ?_);obtain⟨bx,bz,b0⟩:=bs a6;refine C 2 V (G8 [] (λL s=>∃(Z:LH),Jm aq H Z [] [(0,sV a1 p0 c2),(1,sV O p1 U),(5,iV am),(15,.bool bx)] L s) ?_ ?_)
  ·rintro _ _ ⟨Z,rfl,rfl,ac,av⟩;refine JL.done (CF b0 (λb1 b2=>?_) (λb1 b3=>?_))
   ·refine C 4 V (EV 8 λK=>?_);refine Ba K V [0,1] V ?_;obtain⟨ag,b4,b5⟩:=bs b2;refine FG 2 (a8.Ah (Y.Ad ac)) b4 K underlying23 Bn ?_;rintro cW cX _ ⟨_,_,rfl,rfl,⟨_,_,rfl,rfl,rfl⟩⟩ b6;refine JN 3 K b6 En Bn V V V (Ba K V [4,5] V ?_);obtain⟨al,ca,cc⟩:=bs b5;refine FG 6 (a9.Ah (Y.Ad ac)) ca K underlying23 Bn ?_;rintro cY cZ _ ⟨_,_,rfl,rfl,⟨_,_,rfl,rfl,rfl⟩⟩ ce;refine JN 7 K ce En Bn V V V (Dd [8] ?_);refine Am (v:= .bool (decide (ag≠al))) V (λρ h=>Td (E:=Z) (E':=Z) (ws:= [iV ag.1,iV ag.2.1,iV ag.2.2]) (ws':= [iV al.1,iV al.2.1,iV al.2.2]) (a:=ag) (b:=al) bY (by decide) (by decide+kernel) ⟨_,_,V,V,⟨_,_,V,V,V⟩⟩ ⟨_,_,V,V,⟨_,_,V,V,V⟩⟩ (h _ _ V) (h _ _ V)) (JL.done ?_);refine A0 cc (λci co=>?_) (λci cp=>?_)
    ·refine C 4 V ?_;obtain rfl:=oi co;obtain rfl:=a5 _ ap;have ct:=elim_inl a0;obtain rfl:=oi ct;exact A2 func26 V V (ay (Y.Ad ac) V ⟨V,V⟩ av)
    ·obtain⟨cw,cy,cN⟩:=bs cp;refine C 4 V (Bx cy V V V ?_);refine C 2 V ?_;obtain rfl:=oi cN;exact bw cw (Y.Ad ac) av V ap
   ·refine JL.exit V ?_;obtain rfl:=oi b3;have cO:az=(Sum.inr ()):=(a5 _ ap).symm;exact AB (bv _ _ ⟨(),Z,cO,V,V,(Y.Ad ac),av⟩) V
  ·intro a7;refine GN 10 bz (λcP cQ=>?_) (λcP cR=>?_)
   ·refine C 2 V (JL.ln underlying23 V V V ?_);refine C 2 V ?_;obtain rfl:=oi cQ;exact AB (a7 _ _ ⟨aq,V,V,Aw,a4⟩) V
   ·refine C 5 V ?_;obtain rfl:=oi cR;exact AB (a7 _ _ ⟨aq,V,V,Aw,a4⟩) V
def f18(fu_:Nat):Option Bool:= (f63 fu_).bind λag=> (f43 fu_ ag).bind λO=> (f63 fu_).bind λal=> (f33 fu_ al).bind λU=> (f63 fu_).bind λam=> (f22 fu_ am).bind λY=> (f63 fu_).bind λap=> (f24 fu_ ap).bind λZ=> (f64 fu_).bind λaq=> (f39 fu_ aq).bind λac=> (f65 fu_).bind λav=> (f27 fu_ av).bind λK=> Option.bind (if O.2=0 then(some (decide (U.2=0))) else(some false)) λaw=> Option.bind (if aw=true then(some (decide (Y.2=0))) else(some false)) λay=> Option.bind (if ay=true then(some (decide (Z.2=0))) else(some false)) λaz=> Option.bind (if az=true then(some (decide (ac.2=0))) else(some false)) λa0=> Option.bind (if a0=true then(some (decide (K.2.2=0))) else(some false)) λa1=> Option.bind (if a1=true then(some (decide (Z.1=16))) else(some false)) λa2=> Option.bind (if a2=true then((f29 fu_ O.1 ([(-6),1,3,2]:List Int)).bind λa3=> some a3) else(some false)) λa4=> Option.bind (if a4=true then((f29 fu_ U.1 ([1,2,3]:List Int)).bind λa5=> some a5) else(some false)) λa6=> Option.bind (if a6=true then((f66 fu_).bind λa7=> (f26 fu_ Y.1 a7).bind λa8=> some a8) else(some false)) λa9=> Option.bind (if a9=true then((f29 fu_ ac.1 ([0]:List Int)).bind λbb=> some bb) else(some false)) λbe=> Option.bind (if be=true then((f67 fu_ ([0,2,6,2,3,3,3,1,1]:List Int)).bind λbi=> (f26 fu_ K.1 bi).bind λbn=> some bn) else(some false)) λbo=> Option.bind (if bo=true then((f29 fu_ K.2.1 ([0,1,2]:List Int)).bind λbv=> some bv) else(some false)) λbw=> some bw
theorem Up{E:LH}{fu_:Nat}{r:Bool}(b2:f18 fu_=some r):AQ (GK Tryz.prog) 18 [] E [] (λw E' B'=>w= .bool r/\B'= []):=by
 refine Bo func18 λQ gW cs H db dc=>?_;unfold f18 at b2;obtain⟨gX,dd,de⟩:=bs b2;refine C 6 V (BU (Oh dd) V V MR db ?_);rintro _ gY _ df ⟨gZ,g0,g1,g3,rfl,rfl,dg,dh⟩ di;obtain⟨a6,dj,dk⟩:=bs de;refine BU (QC dg dh dj) V V OS di ?_;rintro _ g4 _ dn ⟨a7,a8,rfl,rfl,dp⟩ dq;obtain⟨g5,dr,dt⟩:=bs dk;refine C 8 V (BU (Oh dr) V V MR dq ?_);rintro _ g6 _ b3 ⟨g7,g8,g9,ha,rfl,rfl,du,dv⟩ dw;refine BE (S':= [[],[],[],[]]) V dw λdx=>?_;obtain⟨av,dy,dz⟩:=bs dt;refine BU (Uy du dv dy) V V (A8 func33 V) dx ?_;rintro _ hb _ b4 ⟨aw,ay,rfl,rfl,dA⟩ dB;obtain⟨hc,dC,dD⟩:=bs dz;refine C 8 V (BU (Oh dC) V V MR dB ?_);rintro _ hd _ bz ⟨he,hf,hg,hj,rfl,rfl,dE,dF⟩ dG;obtain⟨ag,dH,dI⟩:=bs dD;refine BU (QD dE dF dH) V V OT dG ?_;rintro _ hk _ b0 ⟨ap,aq,rfl,rfl,dJ⟩ dK;refine BE (S':= [[],[],[],[],[],[],[]]) V dK λdL=>?_;obtain⟨hl,dM,dN⟩:=bs dI;refine C 8 V (BU (Oh dM) V V MR dL ?_);rintro _ hm _ bn ⟨hn,ho,hp,hq,rfl,rfl,dO,dQ⟩ dR;obtain⟨az,dS,dT⟩:=bs dN;refine Cy (Qr dO dQ dS) V V OP dR λhr bo dU=>?_;obtain⟨hs,dV,dW⟩:=bs dT;refine C 8 V (BU (bF dV) V V (A8 func64 V) dU ?_);rintro _ ht _ bv ⟨hu,hv,hw,hx,rfl,rfl,dX,dY⟩ dZ;refine BE (S':= [[],[],[],[],[],[],[],[],[],[]]) V dZ λea=>?_;obtain⟨O,eb,ec⟩:=bs dW;refine BU (cq dX dY eb) V V (A8 func39 V) ea ?_;rintro _ hy _ bw ⟨al,am,rfl,rfl,ed⟩ ee;obtain⟨hz,ef,eg⟩:=bs ec;refine C 8 V (BU (bN ef) V V (A8 func65 V) ee ?_);rintro _ hA _ bb ⟨hB,hC,hD,hE,rfl,rfl,eh,ei⟩ ej;obtain⟨K,ek,el⟩:=bs eg;refine BU (bC eh ei ek) V V (A8 func27 V) ej ?_;rintro _ hF _ be ⟨Z,ac,U,Y,rfl,rfl,em,en⟩ eo;refine BE (S':= [[],[],[],[],[],[],[],[],[],[],[],[],[]]) V eo λb5=>?_;obtain⟨ep,er,et⟩:=bs el;refine C 13 V (Eg 6 52 [] [(1,sV a7 a6.1 a8),(3,sV aw av.1 ay),(5,sV ap ag.1 aq),(6,iV ag.2),(7,iV az.1),(8,iV az.2),(9,sV al O.1 am),(10,iV O.2),(11,sV Z K.1 ac),(12,sV U K.2.1 Y),(13,iV K.2.2),(50,.bool ep)] (λhG a0 b6=>?_) (λca=>?_))
 ·obtain⟨eu,ew,ex⟩:=bs et;refine C 1 V (Eg 10 48 [] [(1,sV a7 a6.1 a8),(3,sV aw av.1 ay),(5,sV ap ag.1 aq),(7,iV az.1),(8,iV az.2),(9,sV al O.1 am),(10,iV O.2),(11,sV Z K.1 ac),(12,sV U K.2.1 Y),(13,iV K.2.2),(54,.bool eu)] (λhH a1 cc=>?_) (λce=>?_))
  ·obtain⟨ey,ez,eA⟩:=bs ex;refine C 1 V (Eg 14 44 [] [(1,sV a7 a6.1 a8),(3,sV aw av.1 ay),(5,sV ap ag.1 aq),(7,iV az.1),(9,sV al O.1 am),(10,iV O.2),(11,sV Z K.1 ac),(12,sV U K.2.1 Y),(13,iV K.2.2),(58,.bool ey)] (λhI a2 ci=>?_) (λco=>?_))
   ·obtain⟨eB,eC,eD⟩:=bs eA;refine C 1 V (Eg 18 40 [] [(1,sV a7 a6.1 a8),(3,sV aw av.1 ay),(5,sV ap ag.1 aq),(7,iV az.1),(9,sV al O.1 am),(11,sV Z K.1 ac),(12,sV U K.2.1 Y),(13,iV K.2.2),(62,.bool eB)] (λhJ a3 cp=>?_) (λct=>?_))
    ·obtain⟨eE,eF,eG⟩:=bs eD;refine C 1 V (Eg 22 36 [] [(1,sV a7 a6.1 a8),(3,sV aw av.1 ay),(5,sV ap ag.1 aq),(7,iV az.1),(9,sV al O.1 am),(11,sV Z K.1 ac),(12,sV U K.2.1 Y),(66,.bool eE)] (λhK a4 cw=>?_) (λcy=>?_))
     ·obtain⟨eH,eI,eJ⟩:=bs eG;refine C 1 V (Eg 26 32 [] [(1,sV a7 a6.1 a8),(3,sV aw av.1 ay),(5,sV ap ag.1 aq),(9,sV al O.1 am),(11,sV Z K.1 ac),(12,sV U K.2.1 Y),(70,.bool eH)] (λhL a5 cN=>?_) (λcO=>?_))
      ·obtain⟨eK,eL,eM⟩:=bs eJ;refine C 1 V (Eg 31 27 [] [(3,sV aw av.1 ay),(5,sV ap ag.1 aq),(9,sV al O.1 am),(11,sV Z K.1 ac),(12,sV U K.2.1 Y),(75,.bool eK)] (λhM a9 cP=>?_) (λcQ=>?_))
       ·obtain⟨eN,eO,eP⟩:=bs eM;refine C 1 V (Eg 36 22 [] [(5,sV ap ag.1 aq),(9,sV al O.1 am),(11,sV Z K.1 ac),(12,sV U K.2.1 Y),(80,.bool eN)] (λhN bi cR=>?_) (λcT=>?_))
        ·obtain⟨eQ,eR,eS⟩:=bs eP;refine C 1 V (Eg 41 17 [] [(9,sV al O.1 am),(11,sV Z K.1 ac),(12,sV U K.2.1 Y),(85,.bool eQ)] (λhO bx cV=>?_) (λcW=>?_))
         ·obtain⟨eT,eU,eV⟩:=bs eS;refine C 1 V (Eg 46 12 [] [(11,sV Z K.1 ac),(12,sV U K.2.1 Y),(90,.bool eT)] (λhP b1 cX=>?_) (λcY=>?_))
          ·obtain⟨eW,eX,eY⟩:=bs eV;refine C 1 V (Eg 52 6 [] [(12,sV U K.2.1 Y),(96,.bool eW)] (λhQ cZ c0=>?_) (λc1=>?_))
           ·obtain⟨eZ,e0,e1⟩:=bs eY;refine C 1 V (Eg 57 1 [] [(101,.bool eZ)] (λhR e3 e4=>?_) (λc2=>?_))
            ·refine C 2 V ?_;obtain rfl:=oi e1;exact A2 func18 V V (dc (((((((((((((((((((((((df.Ad dn).Ad b3).Ad b4).Ad bz).Ad b0).Ad bn).Ad bo).Ad bv).Ad bw).Ad bb).Ad be).Ad a0).Ad a1).Ad a2).Ad a3).Ad a4).Ad a5).Ad a9).Ad bi).Ad bx).Ad b1).Ad cZ).Ad e3) V ⟨V,V⟩ e4)
            ·refine DD 97 e0 (λe5 e6=>?_) (λe5 e7=>?_)
             ·refine C 1 V (FV (pp:=rI) [iV 0,iV 1,iV 2] [0,1,2] V V V underlying28 AI Ce (by decide) V V V ⟨V,V,V,trivial⟩ c0 λhS hT e8 e9=>?_);refine Cm 0 e8 e9 V λhU c3 fa fb=>?_;obtain⟨hV,fc,fe⟩:=bs e6;refine Cy (Mo (en.Ah (((((((((((a0.Ad a1).Ad a2).Ad a3).Ad a4).Ad a5).Ad a9).Ad bi).Ad bx).Ad b1).Ad cZ).Ad c3)) fa fc) V V LC fb λhW ff fg=>BE (S':= [[],[]]) V fg λfh=>C 1 V ?_;obtain rfl:=oi fe;exact c2 (c3.Ad ff) fh V
             ·refine C 4 V ?_;obtain rfl:=oi e7;exact c2 Aw c0 V
           ·refine DD 91 eX (λfj fk=>?_) (λfj fl=>?_)
            ·refine C 1 V (FV (pp:=rI) [iV 0,iV 2,iV 6,iV 2,iV 3,iV 3,iV 3,iV 1,iV 1] [0,2,6,2,3,3,3,1,1] V V V underlying28 AI Ce (by decide) V V V ⟨V,V,V,V,V,V,V,V,V,trivial⟩ cX λhX hY fm fo=>?_);refine Cm 0 fm fo V λhZ c4 fp fq=>?_;obtain⟨h0,fs,fu⟩:=bs fk;refine BU (Oj fp fs) V V MQ fq ?_;rintro _ h1 fv c5 ⟨h2,h3,_,rfl,rfl,fw⟩ fx;refine BE (S':= [[],fv]) V fx λfy=>Cm 1 fw fy V λh4 c6 fz fA=>?_;obtain⟨h5,fB,fC⟩:=bs fu;refine Cy (Of (em.Ah ((((((((((((a0.Ad a1).Ad a2).Ad a3).Ad a4).Ad a5).Ad a9).Ad bi).Ad bx).Ad b1).Ad c4).Ad c5).Ad c6)) fz fB) V V MP fA λh6 fD fE=>C 1 V ?_;obtain rfl:=oi fC;exact c1 (((c4.Ad c5).Ad c6).Ad fD) fE V
            ·refine C 5 V ?_;obtain rfl:=oi fl;exact c1 Aw cX V
          ·refine DD 86 eU (λfF fG=>?_) (λfF fH=>?_)
           ·refine C 1 V (FV (pp:=rI) [iV 0] [0] V V V underlying28 AI Ce (by decide) V V V ⟨V,trivial⟩ cV λh7 h8 fI fJ=>?_);refine Cm 0 fI fJ V λh9 c7 fK fL=>?_;obtain⟨ia,fM,fN⟩:=bs fG;refine Cy (Mo (ed.Ah (((((((((((bb.Ad be).Ad a0).Ad a1).Ad a2).Ad a3).Ad a4).Ad a5).Ad a9).Ad bi).Ad bx).Ad c7)) fK fM) V V LC fL λic fO fP=>BE (S':= [[],[]]) V fP λfQ=>C 1 V ?_;obtain rfl:=oi fN;exact cY (c7.Ad fO) fQ V
           ·refine C 4 V ?_;obtain rfl:=oi fH;exact cY Aw cV V
         ·refine DD 81 eR (λfR fS=>?_) (λfR fT=>?_)
          ·obtain⟨ie,fU,fW⟩:=bs fS;refine C 1 V (BU (cd fU) V V (A8 func66 V) cR ?_);rintro _ ig _ c8 ⟨ih,ii,rfl,rfl,fX⟩ fY;obtain⟨ij,fZ,ga⟩:=bs fW;refine Cy (Of (dJ.Ah ((((((((((((((bn.Ad bo).Ad bv).Ad bw).Ad bb).Ad be).Ad a0).Ad a1).Ad a2).Ad a3).Ad a4).Ad a5).Ad a9).Ad bi).Ad c8)) fX fZ) V V MP fY λik gb gc=>C 1 V ?_;obtain rfl:=oi ga;exact cW (c8.Ad gb) gc V
          ·refine C 4 V ?_;obtain rfl:=oi fT;exact cW Aw cR V
        ·refine DD 76 eO (λgd ge=>?_) (λgd gf=>?_)
         ·refine C 1 V (FV (pp:=rI) [iV 1,iV 2,iV 3] [1,2,3] V V V underlying28 AI Ce (by decide) V V V ⟨V,V,V,trivial⟩ cP λil io gg gh=>?_);refine Cm 0 gg gh V λiq c9 gi gj=>?_;obtain⟨ir,gk,gl⟩:=bs ge;refine Cy (Mo (dA.Ah (((((((((((((((bz.Ad b0).Ad bn).Ad bo).Ad bv).Ad bw).Ad bb).Ad be).Ad a0).Ad a1).Ad a2).Ad a3).Ad a4).Ad a5).Ad a9).Ad c9)) gi gk) V V LC gj λiu gm gn=>BE (S':= [[],[]]) V gn λgp=>C 1 V ?_;obtain rfl:=oi gl;exact cT (c9.Ad gm) gp V
         ·refine C 4 V ?_;obtain rfl:=oi gf;exact cT Aw cP V
       ·refine DD 71 eL (λgq gr=>?_) (λgq gt=>?_)
        ·refine C 1 V (FV (pp:=rI) [iV (-6),iV 1,iV 3,iV 2] [(-6),1,3,2] V V V underlying28 AI Ce (by decide) V V V ⟨V,V,V,V,trivial⟩ cN λiv iw gu gv=>?_);refine Cm 0 gu gv V λiy da gw gx=>?_;obtain⟨iz,gy,gz⟩:=bs gr;refine Cy (Mo (dp.Ah ((((((((((((((((b3.Ad b4).Ad bz).Ad b0).Ad bn).Ad bo).Ad bv).Ad bw).Ad bb).Ad be).Ad a0).Ad a1).Ad a2).Ad a3).Ad a4).Ad a5).Ad da)) gw gy) V V LC gx λiA gA gB=>BE (S':= [[],[]]) V gB λgC=>C 1 V ?_;obtain rfl:=oi gz;exact cQ (da.Ad gA) gC V
        ·refine C 4 V ?_;obtain rfl:=oi gt;exact cQ Aw cN V
      ·refine DD 67 eI (λgD gE=>?_) (λgD gF=>?_)
       ·refine C 3 V ?_;obtain rfl:=oi gE;exact cO Aw cw V
       ·refine C 3 V ?_;obtain rfl:=oi gF;exact cO Aw cw V
     ·refine DD 63 eF (λgG gH=>?_) (λgG gI=>?_)
      ·refine C 3 V ?_;obtain rfl:=oi gH;exact cy Aw cp V
      ·refine C 3 V ?_;obtain rfl:=oi gI;exact cy Aw cp V
    ·refine DD 59 eC (λgJ gK=>?_) (λgJ gL=>?_)
     ·refine C 3 V ?_;obtain rfl:=oi gK;exact ct Aw ci V
     ·refine C 3 V ?_;obtain rfl:=oi gL;exact ct Aw ci V
   ·refine DD 55 ez (λgM gO=>?_) (λgM gP=>?_)
    ·refine C 3 V ?_;obtain rfl:=oi gO;exact co Aw cc V
    ·refine C 3 V ?_;obtain rfl:=oi gP;exact co Aw cc V
  ·refine DD 51 ew (λgQ gR=>?_) (λgQ gS=>?_)
   ·refine C 3 V ?_;obtain rfl:=oi gR;exact ce Aw b6 V
   ·refine C 3 V ?_;obtain rfl:=oi gS;exact ce Aw b6 V
 ·refine GN 47 er (λgT gU=>?_) (λgT gV=>?_)
  ·refine C 3 V ?_;obtain rfl:=oi gU;exact ca Aw b5 V
  ·refine C 3 V ?_;obtain rfl:=oi gV;exact ca Aw b5 V
def f20(fu_:Nat)(p0:List Int):Option ((CW)):= some (p0,0,2685821657736338717)
theorem bI{a1:Aq}{c2:Nat}{p0:List Int}(Z:Al rI E a1 c2 p0){fu_:Nat}{r:(CW)}(K:f20 fu_ p0=some r):AQ J 20 [sV a1 p0 c2] E [] (λw E' B'=>∃(O:Nat) (U:Aq) (Y:Nat),w= Ak O 0/\B'= [(O,.cells #[sV U r.1 Y,iV r.2.1,.int .u64 ((r.2.2:Nat):Int)] 74 (0,0))]/\Al rI E' U Y r.1):=by
 refine Bo func20 λQ ap cs H ac ag=>?_;unfold f20 at K;refine C 7 V (Am (v:= .agg #[sV a1 p0 c2,iV 0,.int .u64 ((2685821657736338717:Nat):Int)]) V (λρ h=>C3 [(0,1),(1,1),(2,1)] h (Dr type74) underlying74 ⟨V,AN type28,V,AN type3,V,AN type72,trivial⟩ V V) ?_);refine JS.box (v:= .agg #[sV a1 p0 c2,iV 0,.int .u64 ((2685821657736338717:Nat):Int)]) V V V ac V λal am=>C 2 V ?_;obtain rfl:=oi K;exact A2 func20 V V (ag Aw V ⟨al,a1,c2,V,(by first | rfl | simp | (simp [Value.cells])),Z⟩ am)
def f92(fu_:Nat)(p0:Int)(p1:Int)(p2:Int):Option Bool:= Option.bind (if p1<=p0 then(some (decide (p0<=p2))) else(some false)) λK=> some K
def f88(fu_:Nat)(p0:Int)(p1:Int×Int×Int)(p2:Int):Option Int:= (Av (p0 - 1)).bind λK=> (f92 fu_ p1.1 0 K).bind λO=> Option.bind (if(!O)=true then(some true) else((Av (p0 - 1)).bind λU=> (f92 fu_ p1.2.1 0 U).bind λY=> some (!Y))) λZ=> if Z=true then(some 3) else(if p1.1=p1.2.1 then(some 8) else((f92 fu_ p1.2.2 1 p2).bind λac=> if(!ac)=true then(some 1) else(some 0)))
def Mf(fu_:Nat)(p0:A5)(O:Int)(K:Int):Option (Br Int ((Int)⊕(Unit))):= (ix p0.1 O).bind λU=> if K<(U.length:Int) then((ix p0.1 O).bind λY=> (ix Y K).bind λZ=> (f92 fu_ Z 1 9).bind λac=> if(!ac)=true then(some (.done (Sum.inl 1))) else((Av (K+1)).bind λag=> some (.more ag))) else(some (.done (Sum.inr ())))
def Mh(fu_:Nat)(p0:A5)(K:Int):Option (Br Int ((Int)⊕(Unit))):= if K<(p0.1.length:Int) then((ix p0.1 K).bind λO=> if 3<(O.length:Int) then(some (.done (Sum.inl 6))) else(Option.bind (iter (Mf fu_ p0 K) fu_ 0) λU=> Sum.elim (λr=>some (.done (Sum.inl r))) (λZ=> (Av (K+1)).bind λY=> some (.more Y)) U)) else(some (.done (Sum.inr ())))
def Qg(fu_:Nat)(p0:A5)(K:Int):Option (Br Int ((Int)⊕(Unit))):= if K<(p0.2.length:Int) then((ix p0.2 K).bind λU=> (f88 fu_ (p0.1.length:Int) U 9).bind λO=> if O≠0 then(some (.done (Sum.inl O))) else((Av (K+1)).bind λY=> some (.more Y))) else(some (.done (Sum.inr ())))
def f48(fu_:Nat)(p0:A5):Option Int:= if(p0.1.length:Int)<2 then(some 7) else(if 5<(p0.1.length:Int) then(some 6) else(Option.bind (iter (Mh fu_ p0) fu_ 0) λK=> Sum.elim (λr=>some r) (λU=> if 8<(p0.2.length:Int) then(some 6) else(Option.bind (iter (Qg fu_ p0) fu_ 0) λO=> Sum.elim (λr=>some r) (λY=> some 0) O)) K))
def f83(fu_:Nat)(p0:CW):Option (Nat×(CW)):= (Av (p0.2.1+1)).bind λO=> Option.bind (if O<=(p0.1.length:Int) then((Av (O - 1)).bind λU=> (ix p0.1 U).bind λY=> some (((((CX O)*11400714819323198485) % 2 ^ 64) ^^^ (((CX Y)*14029467366897019727) % 2 ^ 64)) % 2 ^ 64)) else(some (((CX O)*11400714819323198485) % 2 ^ 64))) λK=> some (((((((((((p0.2.2 ^^^ K) % 2 ^ 64)*18397679294719823053) % 2 ^ 64) ^^^ (((((p0.2.2 ^^^ K) % 2 ^ 64)*18397679294719823053) % 2 ^ 64)>>>33)) % 2 ^ 64)*14181476777654086739) % 2 ^ 64) ^^^ (((((((((p0.2.2 ^^^ K) % 2 ^ 64)*18397679294719823053) % 2 ^ 64) ^^^ (((((p0.2.2 ^^^ K) % 2 ^ 64)*18397679294719823053) % 2 ^ 64)>>>33)) % 2 ^ 64)*14181476777654086739) % 2 ^ 64)>>>29)) % 2 ^ 64)>>>11,(p0.1,O,(((((p0.2.2 ^^^ K) % 2 ^ 64)*18397679294719823053) % 2 ^ 64) ^^^ (((((p0.2.2 ^^^ K) % 2 ^ 64)*18397679294719823053) % 2 ^ 64)>>>33)) % 2 ^ 64))
theorem bK{bk:Nat}{a1:Aq}{c2:Nat}{p0:CW}(al:Al rI E a1 c2 p0.1){fu_:Nat}{r:Nat×(CW)}(am:f83 fu_ p0=some r):AQ J 83 [Ak bk 0] E [(bk,.cells #[sV a1 p0.1 c2,iV p0.2.1,.int .u64 ((p0.2.2:Nat):Int)] 74 (0,0))] (λw E' B'=>∃(ap:Aq) (aq:Nat),w= .int .u64 ((r.1:Nat):Int)/\B'= [(bk,.cells #[sV ap r.2.1 aq,iV r.2.2.1,.int .u64 ((r.2.2.2:Nat):Int)] 74 (0,0))]/\Al rI E' ap aq r.2.1):=by
 refine Bo func83 λQ bv cs H av a2=>?_;unfold f83 at am;refine C 8 V (JL.fd underlying74 AI V V V ?_);refine Am (v:=iV p0.2.1) V (λρ h=>Yl.load Bb (h _ _ V) (BY (j:=0) (off:=1) av V V)) ?_;obtain⟨Y,a3,a4⟩:=bs am;refine Bx a3 V V V (C 1 V ?_);refine JL.fd underlying74 AI V V V (BL 0 av AI λU=>?_);refine C 5 V (JL.fd underlying74 AI V V V ?_);refine Am (v:=iV Y) V (λρ h=>Yl.load Bb (h _ _ V) (BY (j:=0) (off:=1) U V V)) (Am (v:= .int .u64 ((CX Y:Nat):Int)) V (λρ h=>Yl.CX underlying3 underlying72 (h _ _ V)) ?_);refine Am (v:= .int .u64 ((((CX Y)*11400714819323198485) % 2 ^ 64:Nat):Int)) V (λρ h=>NB (h _ _ V) (h _ _ V)) (C 4 V ?_);refine Fu 9 [bk] ⟨⟨0,_,V⟩,trivial⟩ U λK=>Ba K V [0,1] V (JG.fd 2 K underlying74 AI V V V V ?_);refine Kv 3 K 1 0 U Bb ?_;refine Ba K V [4,5] V (JG.fd 6 K underlying74 GF V V V V ?_);refine Kv 7 K 0 0 U Kd ?_;refine AK 8 K V V (λρ h s' Z=>Yl.len V underlying28 (h _ _ V)) (Dd [9] ?_);obtain⟨O,a5,a6⟩:=bs a4;refine C 2 V (EW [bX bk #[sV a1 p0.1 c2,iV Y,.int .u64 ((p0.2.2:Nat):Int)] 74] [(0,Ak bk 0),(3,.int .u64 ((O:Nat):Int))] (λbw aw ay=>?_) (λaz=>?_))
 ·refine C 5 V (JL.fd underlying74 JC V V V ?_);refine Am (v:= .int .u64 ((p0.2.2:Nat):Int)) V (λρ h=>Yl.load MM (h _ _ V) (BY (j:=0) (off:=2) ay V V)) (C 1 V ?_);refine Am (v:= .int .u64 (((p0.2.2 ^^^ O) % 2 ^ 64:Nat):Int)) V (λρ h=>NN (h _ _ V) (h _ _ V)) (Am (v:= .int .u64 (((((p0.2.2 ^^^ O) % 2 ^ 64)*18397679294719823053) % 2 ^ 64:Nat):Int)) V (λρ h=>NB (h _ _ V) (h _ _ V)) ?_);refine C 1 V (JL.fd underlying74 JC V V V ?_);refine BL 0 ay JC λac=>?_;refine C 2 V (Fu 11 [bk] ⟨⟨0,_,V⟩,trivial⟩ ac λK=>?_);refine Ba K V [0,1,2] V (JG.fd 3 K underlying74 JC V V V V ?_);refine Kv 4 K 2 0 ac MM ?_;refine Ba K V [5,6] V (JG.fd 7 K underlying74 JC V V V V ?_);refine Kv 8 K 2 0 ac MM ?_;refine AK (v:= .int .u64 ((((((p0.2.2 ^^^ O) % 2 ^ 64)*18397679294719823053) % 2 ^ 64)>>>33:Nat):Int)) 9 K V V (λρ h s' Z=>La 33 (h _ _ V) (h _ _ V) (by decide)) (AK (v:= .int .u64 (((((((p0.2.2 ^^^ O) % 2 ^ 64)*18397679294719823053) % 2 ^ 64) ^^^ (((((p0.2.2 ^^^ O) % 2 ^ 64)*18397679294719823053) % 2 ^ 64)>>>33)) % 2 ^ 64:Nat):Int)) 10 K V V (λρ h s' Z=>NN (h _ _ V) (h _ _ V)) ?_);refine Dd [11,12,13] (C 1 V ?_);refine JL.fd underlying74 JC V V V (BL 0 ac JC λa0=>?_);refine C 5 V (JL.fd underlying74 JC V V V ?_);refine Am (v:= .int .u64 (((((((p0.2.2 ^^^ O) % 2 ^ 64)*18397679294719823053) % 2 ^ 64) ^^^ (((((p0.2.2 ^^^ O) % 2 ^ 64)*18397679294719823053) % 2 ^ 64)>>>33)) % 2 ^ 64:Nat):Int)) V (λρ h=>Yl.load MM (h _ _ V) (BY (j:=0) (off:=2) a0 V V)) (Am (v:= .int .u64 (((((((((p0.2.2 ^^^ O) % 2 ^ 64)*18397679294719823053) % 2 ^ 64) ^^^ (((((p0.2.2 ^^^ O) % 2 ^ 64)*18397679294719823053) % 2 ^ 64)>>>33)) % 2 ^ 64)*14181476777654086739) % 2 ^ 64:Nat):Int)) V (λρ h=>NB (h _ _ V) (h _ _ V)) ?_);refine C 6 V (Am (v:= .int .u64 ((((((((((p0.2.2 ^^^ O) % 2 ^ 64)*18397679294719823053) % 2 ^ 64) ^^^ (((((p0.2.2 ^^^ O) % 2 ^ 64)*18397679294719823053) % 2 ^ 64)>>>33)) % 2 ^ 64)*14181476777654086739) % 2 ^ 64)>>>29:Nat):Int)) V (λρ h=>La 29 (h _ _ V) (h _ _ V) (by decide)) ?_);refine Am (v:= .int .u64 (((((((((((p0.2.2 ^^^ O) % 2 ^ 64)*18397679294719823053) % 2 ^ 64) ^^^ (((((p0.2.2 ^^^ O) % 2 ^ 64)*18397679294719823053) % 2 ^ 64)>>>33)) % 2 ^ 64)*14181476777654086739) % 2 ^ 64) ^^^ (((((((((p0.2.2 ^^^ O) % 2 ^ 64)*18397679294719823053) % 2 ^ 64) ^^^ (((((p0.2.2 ^^^ O) % 2 ^ 64)*18397679294719823053) % 2 ^ 64)>>>33)) % 2 ^ 64)*14181476777654086739) % 2 ^ 64)>>>29)) % 2 ^ 64:Nat):Int)) V (λρ h=>NN (h _ _ V) (h _ _ V)) (Am (v:= .int .u64 ((((((((((((p0.2.2 ^^^ O) % 2 ^ 64)*18397679294719823053) % 2 ^ 64) ^^^ (((((p0.2.2 ^^^ O) % 2 ^ 64)*18397679294719823053) % 2 ^ 64)>>>33)) % 2 ^ 64)*14181476777654086739) % 2 ^ 64) ^^^ (((((((((p0.2.2 ^^^ O) % 2 ^ 64)*18397679294719823053) % 2 ^ 64) ^^^ (((((p0.2.2 ^^^ O) % 2 ^ 64)*18397679294719823053) % 2 ^ 64)>>>33)) % 2 ^ 64)*14181476777654086739) % 2 ^ 64)>>>29)) % 2 ^ 64)>>>11:Nat):Int)) V (λρ h=>La 11 (h _ _ V) (h _ _ V) (by decide)) ?_);refine C 2 V ?_;obtain rfl:=oi a6;exact A2 func83 V V (a2 aw V ⟨a1,c2,V,V,(al.Ah aw)⟩ a0)
 ·refine A0 a5 (λa7 a8=>?_) (λa7 a9=>?_)
  ·refine Fu 14 [bk] ⟨⟨0,_,V⟩,trivial⟩ U λK=>Ba K V [0,1,2] V (JG.fd 3 K underlying74 GF V V V V ?_);refine Kv 4 K 0 0 U Kd ?_;refine Ba K V [5,6] V (JG.fd 7 K underlying74 AI V V V V ?_);refine Kv 8 K 1 0 U Bb ?_;obtain⟨bx,bb,be⟩:=bs a8;refine AK 9 K V V (λρ h s' Z=>DL (h _ _ V) (h _ _ V) bb) ?_;obtain⟨ag,bi,bn⟩:=bs be;refine FG 10 al bi K underlying28 AI ?_;rintro bz b0 _ rfl bo;refine JG.lp 11 K 0 bo U ⟨⟨0,_,V⟩,trivial⟩ Bb ?_;refine AK (v:= .int .u64 ((CX ag:Nat):Int)) 12 K V V (λρ h s' Z=>Yl.CX underlying3 underlying72 (h _ _ V)) (AK (v:= .int .u64 ((((CX ag)*14029467366897019727) % 2 ^ 64:Nat):Int)) 13 K V V (λρ h s' Z=>NB (h _ _ V) (h _ _ V)) ?_);refine Dd [14,15] (Am (v:= .int .u64 ((((((CX Y)*11400714819323198485) % 2 ^ 64) ^^^ (((CX ag)*14029467366897019727) % 2 ^ 64)) % 2 ^ 64:Nat):Int)) V (λρ h=>NN (h _ _ V) (h _ _ V)) ?_);refine C 2 V ?_;obtain rfl:=oi bn;exact az Aw U V
  ·refine JL.skip ?_;obtain rfl:=oi a9;exact az Aw U V
def f36(fu_:Nat)(p0:CW)(p1:Int):Option (Int×(CW)):= (f83 fu_ p0).bind λK=> if p1<1 then(some (0,K.2)) else((Ot K.1 ((CX p1+1) % 2 ^ 64)).bind λO=> some (MA O,K.2))
theorem Lm{bk:Nat}{a1:Aq}{c2:Nat}{p0:CW}{p1:Int}(aq:Al rI E a1 c2 p0.1){fu_:Nat}{r:Int×(CW)}(K:f36 fu_ p0 p1=some r):AQ J 36 [Ak bk 0,iV p1] E [(bk,.cells #[sV a1 p0.1 c2,iV p0.2.1,.int .u64 ((p0.2.2:Nat):Int)] 74 (0,0))] (λw E' B'=>∃(O:Aq) (U:Nat),w=iV r.1/\B'= [(bk,.cells #[sV O r.2.1 U,iV r.2.2.1,.int .u64 ((r.2.2.2:Nat):Int)] 74 (0,0))]/\Al rI E' O U r.2.1):=by
 refine Bo func36 λQ a5 cs H av Y=>?_;unfold f36 at K;obtain⟨a6,aw,ay⟩:=bs K;refine C 7 V (Cx 0 (bK aq aw) V V (A8 func83 V) av V ?_);rintro _ a7 _ Z ⟨ac,ag,rfl,rfl,al⟩ am;refine C 8 V (A0 ay (λaz a0=>?_) (λaz a2=>?_))
 ·refine C 4 V ?_;obtain rfl:=oi a0;exact A2 func36 V V (Y Z V ⟨ac,ag,V,V,al⟩ am)
 ·refine C 5 V (Am (v:= .int .u64 ((CX p1:Nat):Int)) V (λρ h=>Yl.CX underlying3 underlying72 (h _ _ V)) ?_);refine Am (v:= .int .u64 (((CX p1+1) % 2 ^ 64:Nat):Int)) V (λρ h=>Yn (h _ _ V) (h _ _ V)) ?_;obtain⟨ap,a3,a4⟩:=bs a2;refine Am (v:= .int .u64 ((ap:Nat):Int)) V (λρ h=>X7 (h _ _ V) (h _ _ V) a3) (Am (v:=iV (MA ap)) V (λρ h=>aF underlying72 underlying3 (h _ _ V)) ?_);refine C 2 V ?_;obtain rfl:=oi a4;exact A2 func36 V V (Y Z V ⟨ac,ag,V,V,al⟩ am)
def f37(fu_:Nat)(p0:CW)(p1:Int)(p2:Int):Option (Int×(CW)):= (Av (p2 - p1)).bind λO=> (f36 fu_ p0 O).bind λK=> (Av (p1+K.1)).bind λU=> some (U,K.2)
theorem Qw{bk:Nat}{a1:Aq}{c2:Nat}{p0:CW}{p1:Int}{p2:Int}(Y:Al rI E a1 c2 p0.1){fu_:Nat}{r:Int×(CW)}(K:f37 fu_ p0 p1 p2=some r):AQ J 37 [Ak bk 0,iV p1,iV p2] E [(bk,.cells #[sV a1 p0.1 c2,iV p0.2.1,.int .u64 ((p0.2.2:Nat):Int)] 74 (0,0))] (λw E' B'=>∃(O:Aq) (U:Nat),w=iV r.1/\B'= [(bk,.cells #[sV O r.2.1 U,iV r.2.2.1,.int .u64 ((r.2.2.2:Nat):Int)] 74 (0,0))]/\Al rI E' O U r.2.1):=by
 refine Bo func37 λQ a3 cs H Z ac=>?_;unfold f37 at K;obtain⟨a4,ag,al⟩:=bs K;refine C 10 V (Cq ag V V V ?_);obtain⟨a5,am,ap⟩:=bs al;refine Cx 0 (Lm Y am) V V KR Z V ?_;rintro _ a6 _ aq ⟨av,aw,rfl,rfl,ay⟩ az;obtain⟨a7,a0,a2⟩:=bs ap;refine Bx a0 V V V (C 2 V ?_);obtain rfl:=oi a2;exact A2 func37 V V (ac aq V ⟨av,aw,V,V,ay⟩ az)
def f32(fu_:Nat)(p0:CW)(p1:Int):Option (Bool×(CW)):= (Av (p1 - 1)).bind λO=> (f36 fu_ p0 O).bind λK=> some (decide (K.1=0),K.2)
theorem bP{bk:Nat}{a1:Aq}{c2:Nat}{p0:CW}{p1:Int}(Y:Al rI E a1 c2 p0.1){fu_:Nat}{r:Bool×(CW)}(K:f32 fu_ p0 p1=some r):AQ J 32 [Ak bk 0,iV p1] E [(bk,.cells #[sV a1 p0.1 c2,iV p0.2.1,.int .u64 ((p0.2.2:Nat):Int)] 74 (0,0))] (λw E' B'=>∃(O:Aq) (U:Nat),w= .bool r.1/\B'= [(bk,.cells #[sV O r.2.1 U,iV r.2.2.1,.int .u64 ((r.2.2.2:Nat):Int)] 74 (0,0))]/\Al rI E' O U r.2.1):=by
 refine Bo func32 λQ a0 cs H Z ac=>?_;unfold f32 at K;obtain⟨a2,ag,al⟩:=bs K;refine C 8 V (Cq ag V V V ?_);obtain⟨a3,am,ap⟩:=bs al;refine Cx 0 (Lm Y am) V V KR Z V ?_;rintro _ a4 _ aq ⟨av,aw,rfl,rfl,ay⟩ az;refine C 3 V ?_;obtain rfl:=oi ap;exact A2 func32 V V (ac aq V ⟨av,aw,V,V,ay⟩ az)
def f81(fu_:Nat)(p0:CW)(p1:List Int):Option (Int×(CW)):= (Av ((p1.length:Int) - 1)).bind λO=> (f36 fu_ p0 O).bind λK=> (ix p1 K.1).bind λU=> some (U,K.2)
theorem Uq{bk:Nat}{a1:Aq}{c2:Nat}{K:Aq}{O:Nat}{p0:CW}{p1:List Int}(ag:Al rI E a1 c2 p0.1)(al:Al rI E K O p1){fu_:Nat}{r:Int×(CW)}(U:f81 fu_ p0 p1=some r):AQ J 81 [Ak bk 0,sV K p1 O] E [(bk,.cells #[sV a1 p0.1 c2,iV p0.2.1,.int .u64 ((p0.2.2:Nat):Int)] 74 (0,0))] (λw E' B'=>∃(Y:Aq) (Z:Nat),w=iV r.1/\B'= [(bk,.cells #[sV Y r.2.1 Z,iV r.2.2.1,.int .u64 ((r.2.2.2:Nat):Int)] 74 (0,0))]/\Al rI E' Y Z r.2.1):=by
 refine Bo func81 λQ a7 cs H am ap=>?_;unfold f81 at U;refine C 9 V (JL.ln underlying28 V V V ?_);obtain⟨a8,aq,av⟩:=bs U;refine Cq aq V V V ?_;obtain⟨a9,aw,ay⟩:=bs av;refine Cx 0 (Lm ag aw) V V KR am V ?_;rintro _ bb _ ac ⟨az,a0,rfl,rfl,a2⟩ a3;obtain⟨be,a4,a5⟩:=bs ay;refine JS.ix (al.Ah ac) a4 underlying28 AI ?_;rintro bi bn _ rfl a6;refine Di 0 a6 Bb V V V (C 2 V ?_);obtain rfl:=oi a5;exact A2 func81 V V (ap ac V ⟨az,a0,V,V,a2⟩ a3)
def f40(fu_:Nat)(p0:CW)(p1:Int):Option (Dq×(CW)):= (Av (p1 - 1)).bind λZ=> (f36 fu_ p0 Z).bind λK=> (f37 fu_ K.2 1 9).bind λO=> (f81 fu_ O.2 ([1,2,2,3,O.1]:List Int)).bind λU=> (Av (p1 - 1)).bind λac=> (f37 fu_ U.2 1 ac).bind λY=> (Av (K.1+Y.1)).bind λag=> (Ox ag p1).bind λal=> some ((K.1,al,U.1),Y.2)
theorem Uw{bk:Nat}{a1:Aq}{c2:Nat}{p0:CW}{p1:Int}(ay:Al rI E a1 c2 p0.1){fu_:Nat}{r:Dq×(CW)}(ac:f40 fu_ p0 p1=some r):AQ J 40 [Ak bk 0,iV p1] E [(bk,.cells #[sV a1 p0.1 c2,iV p0.2.1,.int .u64 ((p0.2.2:Nat):Int)] 74 (0,0))] (λw E' B'=>∃(ag:Aq) (al:Nat),w= .agg #[iV r.1.1,iV r.1.2.1,iV r.1.2.2]/\B'= [(bk,.cells #[sV ag r.2.1 al,iV r.2.2.1,.int .u64 ((r.2.2.2:Nat):Int)] 74 (0,0))]/\Al rI E' ag al r.2.1):=by
 refine Bo func40 λQ cX cs H az a0=>?_;unfold f40 at ac;refine C 2 V (BT az BP λcY a2=>?_);obtain⟨cZ,a3,a4⟩:=bs ac;refine C 5 V (Cq a3 V V V ?_);obtain⟨O,a5,a6⟩:=bs a4;refine Cx 0 (Lm ay a5) V V KR a2 V ?_;rintro _ c0 _ a7 ⟨c1,c3,rfl,rfl,a8⟩ a9;obtain⟨am,bb,be⟩:=bs a6;refine C 2 V (Cx 0 (Qw a8 bb) V V OR a9 V ?_);rintro _ c4 _ bi ⟨c5,c6,rfl,rfl,bn⟩ bo;refine FV (pp:=rI) [iV 1,iV 2,iV 2,iV 3,iV am.1] [1,2,2,3,am.1] V V V underlying28 AI Ce (by decide) V V V ⟨V,V,V,V,V,trivial⟩ bo λc7 c8 bv bw=>Cm 2 bv bw V λc9 ap bx bz=>?_;obtain⟨U,b0,b1⟩:=bs be;refine Cx 0 (Uq (bn.Ah ap) bx b0) V V (A8 func81 V) bz V ?_;rintro _ da _ b2 ⟨db,dc,rfl,rfl,b3⟩ b4;refine Am (v:= .agg #[iV O.1,iV 0,iV U.1]) V (λρ h=>C3 [(0,1),(1,1),(2,1)] h BP underlying27 ⟨V,AN type3,V,AN type3,V,AN type3,trivial⟩ V V) (BT b4 BP λaq b5=>?_);refine BL 3 b5 Bn λZ=>?_;refine C 2 V (Fu 8 [aq] ⟨⟨3,_,V⟩,trivial⟩ Z λK=>?_);refine JG.fd 0 K underlying27 AI V V V V (Kv 1 K 0 3 Z Bb ?_);refine Ba K V [2,3] V ?_;obtain⟨b6,ca,cc⟩:=bs b1;refine AK 4 K V V (λρ h s' ce=>DL (h _ _ V) (h _ _ V) ca) (C8 7 K V V ?_);obtain⟨dd,ci,co⟩:=bs cc;refine RF (i:=5) (vs:= [Ak bk 0,iV 1,iV b6]) 0 (by exact λx cp=>HK.mem (bks:= [aq]) (by exact⟨⟨3,_,rfl⟩,trivial⟩) x (by simpa [AG] using cp)) (Qw b3 ci) (by decide+kernel) V V V OR V Z V ?_;rintro _ de _ ct ⟨cw,cy,rfl,rfl,cN⟩ cO;obtain⟨df,cP,cQ⟩:=bs co;refine AK 6 K V V (λρ h s' ce=>FC (h _ _ V) (h _ _ V) cP) (Dd [8,9,10] ?_);obtain⟨Y,cR,cT⟩:=bs cQ;refine Am (v:=iV Y) V (λρ h=>Ye (h _ _ V) (h _ _ V) cR) (JL.fd underlying27 AI V V V ?_);refine BL 3 cO AI λav=>?_;refine C 3 V (Am V (λρ h=>Jd (vs:= [iV O.1,iV Y,iV U.1]) En Bn (h _ _ V) (G5 (off:=0) 3 av V V)) ?_);refine BL 1 av Bn λcV=>?_;refine JL.done (JS.drop 3 cV V λaw=>?_);obtain rfl:=oi cT;refine JL.ret (v:= .agg #[iV O.1,iV Y,iV U.1]) V V (BB.list func40 V (vs:= [.agg #[iV O.1,iV Y,iV U.1]]) ⟨⟨_,V,Ld.many (vs:= [iV O.1,iV Y,iV U.1]) En Bn (G5 (off:=0) 1 aw V V)⟩,trivial⟩) (Ez 1 aw V λcW=>?_);exact a0 ((((a7.Ad bi).Ad ap).Ad b2).Ad ct) V ⟨cw,cy,V,V,cN⟩ cW
end Pal
namespace Pal
open Go Go.Conc
variable {P:Program}{J:Judge P}{Q:Gs_}{b:Frame}{n:Nat}{ds:Ld_}{ops:Ao_}{cs:Lf_}{fuel:Nat}{D:Nat->Bool}{listed:Array Bool}{L:Env}{s:St}{E E' H:LH}{S:List Seg}
variable {t u ty:TypeId}{p:String}{af:Ae_}{g:On_}{v:Value}{kd:IntKind}
section
variable {k:Li_}{m:Nat}
variable {d:Option Tmp}{x y:Operand}{e:TypeId}{i:Nat}
theorem Take.Uk{f:FuncId}{args:Array Operand}{ats:Array TypeId}{vs:Lv_}{seg:Seg}{R:Value->LH->Seg->Prop}(j:Nat)(O:Ap E H S)(ap:AQ J f vs E seg R)
  (aq:ops[i]? =some ⟨d,.call ⟨.value (.func f),args,ats⟩,ty,p,af,g⟩) (hw:AJ L ops ⟨d,.call ⟨.value (.func f),args,ats⟩,ty,p,af,g⟩=some true) (av:Bc n d=true) (hb:Dy P f=true) (aw:evs L args.toList=some vs) (U:S[j]? =some seg)
  (ay:∀v E' seg',Le E E'->R v E' seg'->Ap E' H (S.set j seg')->AL J Q b n ds ops k cs m CV fuel (A4 listed i) (Au L d v) (Aj E' H (S.set j seg'))):
  Take J Q b n ds ops k cs m CV fuel listed L (Aj E H S) i:=by
 have Y:S.flatten.Perm (seg++(S.set j []).flatten):=(Eo (seg':=seg) U).1.trans List.perm_append_comm;have Z:Nd E H (seg++(S.set j []).flatten):=Nd.perm O Y;have az:Aj E H S=mk E (Bd (S.set j []).flatten H) seg:=by
  rw [show Aj E H S=mk E H S.flatten from rfl,Ff O Y];unfold mk;rw [FT]
 have ac:=EM.Ls (ap (Bd (S.set j []).flatten H) (Nd.front Z)) (by rintro v s' ⟨E',B',_,_,_,rfl⟩;rfl);rw [← az] at ac;refine⟨_,aq,by simp [DW],av,hw,λρ ag=>?_⟩;have a0:args.map ρ=vs.toArray:=by
  rw [← Gn ag aw];apply Array.ext';simp
 have a1:ρ (.func f)= .func (.func f) #[] #[]:=ag _ _ V;simp only [execOp,resolve,bind,Sem.bind,Deferred.ofValue,a1,pure,invoke];have e: #[]++args.map ρ++ #[]=vs.toArray:=by rw [a0];simp
 rw [e];refine I6 hb ?_;rw [KS];refine⟨_,ac,?_⟩;rintro v be ⟨⟨E',B',hle,a2,a3,rfl⟩,w,a4⟩;have e2:mk E' (Bd (S.set j []).flatten H) B'=mk E' H (B'++(S.set j []).flatten):=by unfold mk;rw [FT]
 have a5:Nd E H (S.set j []).flatten:=by
  have:=Z;rw [Nd.iff] at this ⊢;rw [List.map_append,List.nodup_append] at this;exact⟨this.1.2.1,λq a6=>this.2 q (List.mem_append_right _ a6)⟩
 have a7:Nd E' H (S.set j []).flatten:=a5.grow λx K=>by
  have a8:=a4.d x K;have a9:Bd B' (Bd (S.set j []).flatten H) x=none:=a8;exact(H2 a9).1
 have al:Nd E' H (B'++(S.set j []).flatten):=Nd.glue a3 a7;have am:(B'++(S.set j []).flatten).Perm (S.set j B').flatten:=List.perm_append_comm.trans (Eo U).2.symm;have bb:Ap E' H (S.set j B'):=Nd.perm al am;rw [e2,Ff al am];exact⟨V,λx o K=>hle _ _ K,ay v E' B' hle a2 bb⟩
end
open Go.Proofs Go.Proofs.Tryz
variable {J:Judge Tryz.prog}
def N5(fu_:Nat)(Y:Bool×(CW))(K:(List Int)×Int×Nat×(List Int)×Int):Option (Br ((List Int)×Int×Nat×(List Int)×Int) ((List Int)×CW)):= if 0<K.2.2.2.2 then(Option.bind (if Y.1=true then((room K.2.2.2.1 1).bind λZ=> some (Z,K.1,K.2.1,K.2.2.1)) else((f81 fu_ (K.1,K.2.1,K.2.2.1) ([1,1,2,2,3,5]:List Int)).bind λO=> (room K.2.2.2.1 O.1).bind λac=> some (ac,O.2.1,O.2.2.1,O.2.2.2))) λU=> (Av (K.2.2.2.2 - 1)).bind λag=> some (.more (U.2.1,U.2.2.1,U.2.2.2,U.1,ag))) else(some (.done (K.2.2.2.1,K.1,K.2.1,K.2.2.1)))
def N3(fu_:Nat)(Y:Int×(CW))(Z:Bool×(CW))(K:Bq×(List Int)×Int×Nat×Int):Option (Br (Bq×(List Int)×Int×Nat×Int) ((List Int)×Int×Nat×Bq)):= if K.2.2.2.2<Y.1 then((f36 fu_ (K.2.1,K.2.2.1,K.2.2.2.1) 3).bind λO=> Option.bind (iter (N5 fu_ Z) fu_ (O.2.1,O.2.2.1,O.2.2.2,[],O.1)) λU=> (room K.1 U.1).bind λac=> (Av (K.2.2.2.2+1)).bind λag=> some (.more (ac,U.2.1,U.2.2.1,U.2.2.2,ag))) else(some (.done (K.2.1,K.2.2.1,K.2.2.2.1,K.1)))
def NU(fu_:Nat)(U:Int×(CW))(K:Ay×(List Int)×Int×Nat×Int):Option (Br (Ay×(List Int)×Int×Nat×Int) ((List Int)×Int×Nat×Ay)):= if 0<K.2.2.2.2 then((f40 fu_ (K.2.1,K.2.2.1,K.2.2.2.1) U.1).bind λO=> (Eh K.1 ([O.1]:Ay)).bind λY=> (Av (K.2.2.2.2 - 1)).bind λZ=> some (.more (Y,O.2.1,O.2.2.1,O.2.2.2,Z))) else(some (.done (K.2.1,K.2.2.1,K.2.2.2.1,K.1)))
def f31(fu_:Nat)(p0:CW)(p1:Int)(p2:Int):Option (A5×(CW)):= (f37 fu_ p0 2 p1).bind λZ=> (f32 fu_ Z.2 3).bind λK=> Option.bind (iter (N3 fu_ Z K) fu_ ([],K.2.1,K.2.2.1,K.2.2.2,0)) λO=> (f36 fu_ (O.1,O.2.1,O.2.2.1) p2).bind λU=> Option.bind (iter (NU fu_ Z) fu_ ([],U.2.1,U.2.2.1,U.2.2.2,U.1)) λY=> some ((O.2.2.2,Y.2.2.2),(Y.1,Y.2.1,Y.2.2.1))
theorem bH{bk:Nat}{a1:Aq}{c2:Nat}{p0:CW}{p1:Int}{p2:Int}(em:Al rI E a1 c2 p0.1){fu_:Nat}{r:A5×(CW)}(dr:f31 fu_ p0 p1 p2=some r):AQ J 31 [Ak bk 0,iV p1,iV p2] E [(bk,.cells #[sV a1 p0.1 c2,iV p0.2.1,.int .u64 ((p0.2.2:Nat):Int)] 74 (0,0))] (λw E' B'=>∃(dt:Aq) (du:Nat) (dv:Aq) (dw:Nat) (dx:Aq) (dy:Nat),w= .agg #[sV dt r.1.1 du,sV dv r.1.2 dw]/\B'= [(bk,.cells #[sV dx r.2.1 dy,iV r.2.2.1,.int .u64 ((r.2.2.2:Nat):Int)] 74 (0,0))]/\Al (rL rI) E' dt du r.1.1/\Al Az E' dv dw r.1.2/\Al rI E' dx dy r.2.1):=by
 refine Bo func31 λQ hy cs H en eo=>?_;unfold f31 at dr;refine C 2 V (BT en II λO ep=>?_);refine C 3 V (BT ep II λU er=>?_);obtain⟨az,et,eu⟩:=bs dr;refine C 5 V (Cx 0 (Qw em et) V V OR er V ?_);rintro _ hz _ ew ⟨ex,ey,rfl,rfl,ez⟩ eA;refine BE (S':= [[(bk,.cells #[sV ex az.2.1 ey,iV az.2.2.1,.int .u64 ((az.2.2.2:Nat):Int)] 74 (0,0))],[(O,.cells #[nS,nS] 25 (0,0))],[(U,.cells #[nS,nS] 25 (0,0))]]) V eA λeB=>?_;obtain⟨b5,eC,eD⟩:=bs eu;refine C 5 V (Cx 0 (bP ez eC) V V (A8 func32 V) eB V ?_);rintro _ cZ _ eE ⟨eF,eG,rfl,rfl,eH⟩ eI;obtain⟨Y,eJ,eK⟩:=bs eD;refine C 7 V (Bw (λL s=>∃(b6:LH) (c0:Aq) (c1:Nat) (ac:Aq) (ag:Nat) (ay:Seg),Jn cZ H b6 [bX bk #[sV c0 Y.1 c1,iV Y.2.1,.int .u64 ((Y.2.2.1:Nat):Int)] 74,bX O #[nS,nS] 25,bX U #[sV ac Y.2.2.2 ag,nS] 25,ay] [(0,Ak bk 0),(2,iV p2),(6,Ak O 0),(7,Ak U 0),(8,iV az.1)] L s (Al rI b6 c0 c1 Y.1/\OL 28 (rL rI) b6 ac ag ay Y.2.2.2)) ?_ ?_)
 ·rintro _ _ ⟨b6,c0,c1,ac,ag,ay,rfl,rfl,eL,eM,eN,eO⟩;obtain⟨hA,eP,eQ⟩:=bs eK;refine C 5 V (Cx 0 (Lm eN eP) V V KR eM V ?_);rintro _ c3 _ dz ⟨eR,eS,rfl,rfl,eT⟩ eU;obtain⟨al,eV,eW⟩:=bs eQ;refine C 2 V (Bw (λL s=>∃(ca:LH) (bv:Aq) (bw:Nat) (a2:Aq) (a3:Nat) (cc:Seg),Jn c3 H ca [bX bk #[sV bv al.1 bw,iV al.2.1,.int .u64 ((al.2.2.1:Nat):Int)] 74,bX O #[nS,nS] 25,bX U #[sV ac Y.2.2.2 ag,sV a2 al.2.2.2 a3] 25,ay,cc] [(6,Ak O 0),(7,Ak U 0)] L s (Al rI ca bv bw al.1/\OL 27 Az ca a2 a3 cc al.2.2.2)) ?_ ?_)
  ·rintro _ _ ⟨ca,bv,bw,a2,a3,cc,rfl,rfl,dA,dB,eX,eY⟩;refine C 2 V (Am V (λρ h=>Jd (vs:= [sV ac Y.2.2.2 ag,sV a2 al.2.2.2 a3]) DZ Ck (h _ _ V) (G5 (off:=0) 2 dB V V)) ?_);refine BL 1 dB Ck λeZ=>?_;refine BE (S':= [[(bk,.cells #[sV bv al.1 bw,iV al.2.1,.int .u64 ((al.2.2.1:Nat):Int)] 74 (0,0))],[(O,.cells #[sV ac Y.2.2.2 ag,sV a2 al.2.2.2 a3] 25 (0,0))],[(U,.cells #[sV ac Y.2.2.2 ag,sV a2 al.2.2.2 a3] 25 (0,0))],ay,cc]) V eZ λe0=>JL.done (Cm 3 (eO.Ah (dz.Ad dA)) e0 V λhB c4 e1 e3=>?_);refine Cm 4 (eY.Ah c4) e3 V λhC c5 e4 e5=>JS.drop 2 e5 V λdC=>?_;obtain rfl:=oi eW;refine JL.ret (v:= .agg #[sV ac Y.2.2.2 ag,sV a2 al.2.2.2 a3]) V V (BB.list func31 V (vs:= [.agg #[sV ac Y.2.2.2 ag,sV a2 al.2.2.2 a3]]) ⟨⟨_,V,Ld.many (vs:= [sV ac Y.2.2.2 ag,sV a2 al.2.2.2 a3]) DZ Ck (G5 (off:=0) 1 dC V V)⟩,trivial⟩) (Ez 1 dC V λe6=>?_);exact eo ((((((ew.Ad eE).Ad eL).Ad dz).Ad dA).Ad c4).Ad c5) V ⟨ac,ag,a2,a3,bv,bw,V,V,(e1.Ah c5),e4,(eX.Ah (c4.Ad c5))⟩ e6
  ·intro e7;refine JL.block (C4 eV (λL s ap=>∃(bx:LH) (a4:Aq) (a5:Nat) (a7:Seg) (ce:Aq) (ci:Nat),Jn c3 H bx [bX bk #[sV ce ap.2.1 ci,iV ap.2.2.1,.int .u64 ((ap.2.2.2.1:Nat):Int)] 74,bX O #[nS,nS] 25,bX U #[sV ac Y.2.2.2 ag,sV a4 ap.1 a5] 25,ay,a7] [(0,Ak bk 0),(6,Ak O 0),(7,Ak U 0),(8,iV az.1),(13,iV ap.2.2.2.2)] L s (OL 27 Az bx a4 a5 a7 ap.1/\Al rI bx ce ci ap.2.1)) ⟨c3,none,0,[],eR,eS,V,V,Aw,eU,OL.nil,eT⟩ ?_);rintro _ _ ap ⟨bx,a4,a5,a7,ce,ci,rfl,rfl,co,cp,ct,c6⟩ e8 ⟨hD,bz⟩ c7;have dD:=bz;unfold NU at dD;refine C 6 V (A0 dD (λe9 fa=>?_) (λe9 fb=>?_))
   ·refine C 3 V (EV 6 λdE=>?_);refine JG.fd 0 dE underlying25 Hw V V V V (Ba dE V [2,3] V ?_);obtain⟨K,dF,c8⟩:=bs fa;refine FE (i:=1) (j:=4) V (by decide+kernel) ?_ ?_
    ·refine Take.y0 (v:= sV a4 ap.1 a5) V V V (λρ h=>Yl.load Jy (h _ _ V) (BY (j:=2) cp V V)) (JG.one (i:=4) V (by decide+kernel) ?_);refine Take.Uk (vs:= [Ak bk 0,iV az.1]) 0 cp (Uw c6 dF) V V V (A8 func40 V) V V ?_;rintro _ hE _ dG ⟨c9,da,rfl,rfl,fc⟩ fe;refine JG.one (i:=5) V (by decide+kernel) (Take.EZ (pp:=Az) [.agg #[iV K.1.1,iV K.1.2.1,iV K.1.2.2]] ([K.1]:Ay) fe V V V underlying23 Bn BP (by decide) V V V ⟨⟨_,_,V,V,⟨_,_,V,V,V⟩⟩,trivial⟩ λhF ff fg fh=>?_);refine Dd [6,7,8] (BE (S':= [[(bk,.cells #[sV c9 K.2.1 da,iV K.2.2.1,.int .u64 ((K.2.2.2:Nat):Int)] 74 (0,0))],[(O,.cells #[nS,nS] 25 (0,0))],[(U,.cells #[sV ac Y.2.2.2 ag,sV a4 ap.1 a5] 25 (0,0))],ay,a7,ff]) V fh λfj=>?_);refine Cm 5 fg fj V λfk db fl fm=>?_;obtain⟨dH,fo,fp⟩:=bs c8;refine JM (pp:=Az) 4 fo V V V V V V V underlying23 underlying23 Bn (Ed type27) BP V (by decide) (by decide) (ct.Ah (dG.Ad db)) fl fm V λdI dJ dK fq fs=>JL.fd underlying25 Hw V V V (BL 2 fs Hw λfu=>?_);refine BE (S':= [[(bk,.cells #[sV c9 K.2.1 da,iV K.2.2.1,.int .u64 ((K.2.2.2:Nat):Int)] 74 (0,0))],[(O,.cells #[nS,nS] 25 (0,0))],[(U,.cells #[sV ac Y.2.2.2 ag,sV dI dH dJ] 25 (0,0))],ay,dK,[]]) V fu λfv=>?_;obtain⟨fw,fx,fy⟩:=bs fp;refine C 4 V (Cq fx V V V ?_);refine C 2 V ?_;obtain rfl:=oi fy;exact AB (c7 _ _ (dH,K.2.1,K.2.2.1,K.2.2.2,fw) ⟨fk,dI,dJ,dK,c9,da,V,V,((co.Ad dG).Ad db),fv,fq,(fc.Ah db)⟩ bz) V
    ·refine Take.Uk (vs:= [Ak bk 0,iV az.1]) 0 cp (Uw c6 dF) V V V (A8 func40 V) V V ?_;rintro _ hG _ cw ⟨be,bi,rfl,rfl,dL⟩ dc;refine FE (i:=1) (j:=5) V (by decide+kernel) ?_ ?_
     ·refine Take.y0 (v:= sV a4 ap.1 a5) V V V (λρ h=>Yl.load Jy (h _ _ V) (BY (j:=2) dc V V)) (JG.one (i:=5) V (by decide+kernel) ?_);refine Take.EZ (pp:=Az) [.agg #[iV K.1.1,iV K.1.2.1,iV K.1.2.2]] ([K.1]:Ay) dc V V V underlying23 Bn BP (by decide) V V V ⟨⟨_,_,V,V,⟨_,_,V,V,V⟩⟩,trivial⟩ λhH fz fA fB=>Dd [6,7,8] (BE (S':= [[(bk,.cells #[sV be K.2.1 bi,iV K.2.2.1,.int .u64 ((K.2.2.2:Nat):Int)] 74 (0,0))],[(O,.cells #[nS,nS] 25 (0,0))],[(U,.cells #[sV ac Y.2.2.2 ag,sV a4 ap.1 a5] 25 (0,0))],ay,a7,fz]) V fB λfC=>?_);refine Cm 5 fA fC V λfD dd fE fF=>?_;obtain⟨dM,fG,fH⟩:=bs c8;refine JM (pp:=Az) 4 fG V V V V V V V underlying23 underlying23 Bn (Ed type27) BP V (by decide) (by decide) (ct.Ah (cw.Ad dd)) fE fF V λdN dO dQ fI fJ=>JL.fd underlying25 Hw V V V (BL 2 fJ Hw λfK=>?_);refine BE (S':= [[(bk,.cells #[sV be K.2.1 bi,iV K.2.2.1,.int .u64 ((K.2.2.2:Nat):Int)] 74 (0,0))],[(O,.cells #[nS,nS] 25 (0,0))],[(U,.cells #[sV ac Y.2.2.2 ag,sV dN dM dO] 25 (0,0))],ay,dQ,[]]) V fK λfL=>?_;obtain⟨fM,fN,fO⟩:=bs fH;refine C 4 V (Cq fN V V V ?_);refine C 2 V ?_;obtain rfl:=oi fO;exact AB (c7 _ _ (dM,K.2.1,K.2.2.1,K.2.2.2,fM) ⟨fD,dN,dO,dQ,be,bi,V,V,((co.Ad cw).Ad dd),fL,fI,(dL.Ah dd)⟩ bz) V
     ·refine Take.EZ (pp:=Az) [.agg #[iV K.1.1,iV K.1.2.1,iV K.1.2.2]] ([K.1]:Ay) dc V V V underlying23 Bn BP (by decide) V V V ⟨⟨_,_,V,V,⟨_,_,V,V,V⟩⟩,trivial⟩ λhI fP fQ dR=>JG.one (i:=1) V (by decide+kernel) (Take.y0 (v:= sV a4 ap.1 a5) V V V (λρ h=>Yl.load Jy (h _ _ V) (BY (j:=2) dR V V)) ?_);refine Dd [6,7,8] (BE (S':= [[(bk,.cells #[sV be K.2.1 bi,iV K.2.2.1,.int .u64 ((K.2.2.2:Nat):Int)] 74 (0,0))],[(O,.cells #[nS,nS] 25 (0,0))],[(U,.cells #[sV ac Y.2.2.2 ag,sV a4 ap.1 a5] 25 (0,0))],ay,a7,fP]) V dR λfR=>?_);refine Cm 5 fQ fR V λfS de fT fU=>?_;obtain⟨dS,fW,fX⟩:=bs c8;refine JM (pp:=Az) 4 fW V V V V V V V underlying23 underlying23 Bn (Ed type27) BP V (by decide) (by decide) (ct.Ah (cw.Ad de)) fT fU V λdT dU dV fY fZ=>JL.fd underlying25 Hw V V V (BL 2 fZ Hw λga=>?_);refine BE (S':= [[(bk,.cells #[sV be K.2.1 bi,iV K.2.2.1,.int .u64 ((K.2.2.2:Nat):Int)] 74 (0,0))],[(O,.cells #[nS,nS] 25 (0,0))],[(U,.cells #[sV ac Y.2.2.2 ag,sV dT dS dU] 25 (0,0))],ay,dV,[]]) V ga λgb=>?_;obtain⟨gc,gd,ge⟩:=bs fX;refine C 4 V (Cq gd V V V ?_);refine C 2 V ?_;obtain rfl:=oi ge;exact AB (c7 _ _ (dS,K.2.1,K.2.2.1,K.2.2.2,gc) ⟨fS,dT,dU,dV,be,bi,V,V,((co.Ad cw).Ad de),gb,fY,(dL.Ah de)⟩ bz) V
   ·refine JL.exit V ?_;obtain rfl:=oi fb;obtain rfl:=e8 _ bz;exact AB (e7 _ _ ⟨bx,ce,ci,a4,a5,a7,V,V,co,cp,c6,ct⟩) V
 ·intro gf;refine JL.block (C4 eJ (λL s Z=>∃(b0:LH) (aq:Aq) (av:Nat) (a0:Seg) (cy:Aq) (cN:Nat),Jn cZ H b0 [bX bk #[sV cy Z.2.1 cN,iV Z.2.2.1,.int .u64 ((Z.2.2.2.1:Nat):Int)] 74,bX O #[nS,nS] 25,bX U #[sV aq Z.1 av,nS] 25,a0] [(0,Ak bk 0),(2,iV p2),(6,Ak O 0),(7,Ak U 0),(8,iV az.1),(9,.bool b5.1),(10,iV Z.2.2.2.2)] L s (OL 28 (rL rI) b0 aq av a0 Z.1/\Al rI b0 cy cN Z.2.1)) ⟨cZ,none,0,[],eF,eG,V,V,Aw,eI,OL.nil,eH⟩ ?_);rintro _ _ Z ⟨b0,aq,av,a0,cy,cN,rfl,rfl,dW,dX,dY,dZ⟩ gg ⟨hJ,df⟩ gh;have ea:=df;unfold N3 at ea;refine C 7 V (A0 ea (λgi gj=>?_) (λgi gk=>?_))
  ·obtain⟨hK,gl,gm⟩:=bs gj;refine C 11 V (Cx 0 (Lm dZ gl) V V KR dX V ?_);rintro _ dg _ eb ⟨gn,gp,rfl,rfl,gq⟩ gr;obtain⟨aw,gt,gu⟩:=bs gm;refine C 2 V (Bw (λL s=>∃(cO:LH) (cP:Aq) (cQ:Nat) (dh:Seg) (b1:Aq) (b2:Nat),Jn dg H cO [bX bk #[sV b1 aw.2.1 b2,iV aw.2.2.1,.int .u64 ((aw.2.2.2:Nat):Int)] 74,bX O #[nS,nS] 25,bX U #[sV aq Z.1 av,nS] 25,a0,dh] [(0,Ak bk 0),(2,iV p2),(6,Ak O 0),(7,Ak U 0),(8,iV az.1),(9,.bool b5.1),(10,iV Z.2.2.2.2),(11,sV cP aw.1 cQ)] L s (OL 3 rI cO cP cQ dh aw.1/\Al rI cO b1 b2 aw.2.1)) ?_ ?_)
   ·rintro _ _ ⟨cO,cP,cQ,dh,b1,b2,rfl,rfl,ec,ed,gv,gw⟩;refine JL.region (JL.fd underlying25 FQ V V V ?_);refine Am (v:= sV aq Z.1 av) V (λρ h=>Yl.load F5 (h _ _ V) (BY (j:=2) (off:=0) ed V V)) (C 1 V ?_);refine Cm 4 gv ed V λgx di gy gz=>BE (S':= [[(bk,.cells #[sV b1 aw.2.1 b2,iV aw.2.2.1,.int .u64 ((aw.2.2.2:Nat):Int)] 74 (0,0))],[(O,.cells #[nS,nS] 25 (0,0))],[(U,.cells #[sV aq Z.1 av,nS] 25 (0,0))],a0,[]]) V gz λgA=>?_;obtain⟨gB,gC,gD⟩:=bs gu;refine JS.app (pp:=(rL rI)) (v:= sV cP aw.1 cQ) (a:=aq) (c:=av) 3 gC V V V V (λ_=>V) V (λ_=>V) V V V underlying22 underlying22 underlying22 GF (Ed type28) LF V (by decide) (by decide) (by decide) (by decide) (dY.Ah ((eb.Ad ec).Ad di)) ⟨_,_,V,gy⟩ gA V λhL gE gF gG gH gI=>JL.fd underlying25 FQ V V V (BL 2 gI FQ λgJ=>?_);obtain⟨gK,gL,gM⟩:=bs gD;refine C 4 V (Bx gL V V V ?_);refine C 2 V ?_;obtain rfl:=oi gM;exact AB (gh _ _ (gB,aw.2.1,aw.2.2.1,aw.2.2.2,gK) ⟨gx,gE,gF,gG,b1,b2,V,V,(((dW.Ad eb).Ad ec).Ad di),gJ,gH,(gw.Ah di)⟩ df) V
   ·intro gO;refine JL.block (C4 gt (λL s am=>∃(a8:LH) (a9:Aq) (bb:Nat) (bn:Aq) (bo:Nat) (b3:Seg),Jn dg H a8 [bX bk #[sV a9 am.1 bb,iV am.2.1,.int .u64 ((am.2.2.1:Nat):Int)] 74,bX O #[nS,nS] 25,bX U #[sV aq Z.1 av,nS] 25,a0,b3] [(0,Ak bk 0),(2,iV p2),(6,Ak O 0),(7,Ak U 0),(8,iV az.1),(9,.bool b5.1),(10,iV Z.2.2.2.2),(11,sV bn am.2.2.2.1 bo),(12,iV am.2.2.2.2)] L s (Al rI a8 a9 bb am.1/\OL 3 rI a8 bn bo b3 am.2.2.2.1)) ⟨dg,gn,gp,none,0,[],V,V,Aw,gr,gq,OL.nil⟩ ?_);rintro _ _ am ⟨a8,a9,bb,bn,bo,b3,rfl,rfl,ee,dj,dk,dn⟩ gP ⟨hM,dp⟩ gQ;have ef:=dp;unfold N5 at ef;refine C 6 V (A0 ef (λgR gS=>?_) (λgR gT=>?_))
    ·obtain⟨a6,gU,gV⟩:=bs gS;refine C 7 V (Bw (λL s=>∃(b4:LH) (cR:Aq) (cT:Nat) (cV:Seg) (cW:Aq) (cX:Nat),Jn a8 H b4 [bX bk #[sV cW a6.2.1 cX,iV a6.2.2.1,.int .u64 ((a6.2.2.2:Nat):Int)] 74,bX O #[nS,nS] 25,bX U #[sV aq Z.1 av,nS] 25,a0,cV] [(0,Ak bk 0),(2,iV p2),(6,Ak O 0),(7,Ak U 0),(8,iV az.1),(9,.bool b5.1),(10,iV Z.2.2.2.2),(11,sV cR a6.1 cT),(12,iV am.2.2.2.2)] L s (OL 3 rI b4 cR cT cV a6.1/\Al rI b4 cW cX a6.2.1)) ?_ ?_)
     ·rintro _ _ ⟨b4,cR,cT,cV,cW,cX,rfl,rfl,gW,gX,gY,gZ⟩;obtain⟨g0,g1,g3⟩:=bs gV;refine C 3 V (Cq g1 V V V ?_);refine C 2 V ?_;obtain rfl:=oi g3;exact AB (gQ _ _ (a6.2.1,a6.2.2.1,a6.2.2.2,a6.1,g0) ⟨b4,cW,cX,cR,cT,cV,V,V,(ee.Ad gW),gX,gZ,gY⟩ dp) V
     ·intro eg;refine CF gU (λg4 g5=>?_) (λg4 g6=>?_)
      ·obtain⟨hN,g7,g8⟩:=bs g5;refine C 2 V (JS.app (pp:=rI) (v:=iV 1) (a:=bn) (c:=bo) 4 g7 V V V V (λ_=>V) V (λ_=>V) V V V underlying28 underlying28 underlying28 AI (Ed type3) Ce V (by decide) (by decide) (by decide) (by decide) dn V dj V λhO g9 ha eh hb hc=>?_);refine BE (S':= [[(bk,.cells #[sV a9 am.1 bb,iV am.2.1,.int .u64 ((am.2.2.1:Nat):Int)] 74 (0,0))],[(O,.cells #[nS,nS] 25 (0,0))],[(U,.cells #[sV aq Z.1 av,nS] 25 (0,0))],a0,eh]) V hc λhd=>C 2 V ?_;obtain rfl:=oi g8;exact AB (eg _ _ ⟨a8,g9,ha,eh,a9,bb,V,V,Aw,hd,hb,dk⟩) V
      ·refine C 3 V (FV (pp:=rI) [iV 1,iV 1,iV 2,iV 2,iV 3,iV 5] [1,1,2,2,3,5] V V V underlying28 AI Ce (by decide) V V V ⟨V,V,V,V,V,V,trivial⟩ dj λhP he hf hg=>?_);refine BE (S':= [[(bk,.cells #[sV a9 am.1 bb,iV am.2.1,.int .u64 ((am.2.2.1:Nat):Int)] 74 (0,0))],[(O,.cells #[nS,nS] 25 (0,0))],[(U,.cells #[sV aq Z.1 av,nS] 25 (0,0))],a0,b3,he]) V hg λhj=>Cm 5 hf hj V λhQ dq hk hl=>?_;obtain⟨cY,hm,hn⟩:=bs g6;refine Cx 0 (Uq (dk.Ah dq) hk hm) V V (A8 func81 V) hl V ?_;rintro _ ho _ ei ⟨ej,ek,rfl,rfl,hp⟩ hq;obtain⟨hR,hr,hs⟩:=bs hn;refine JS.app (pp:=rI) (v:=iV cY.1) (a:=bn) (c:=bo) 4 hr V V V V (λ_=>V) V (λ_=>V) V V V underlying28 underlying28 underlying28 AI (Ed type3) Ce V (by decide) (by decide) (by decide) (by decide) (dn.Ah (dq.Ad ei)) V hq V λhS ht hu el hv hw=>BE (S':= [[(bk,.cells #[sV ej cY.2.1 ek,iV cY.2.2.1,.int .u64 ((cY.2.2.2:Nat):Int)] 74 (0,0))],[(O,.cells #[nS,nS] 25 (0,0))],[(U,.cells #[sV aq Z.1 av,nS] 25 (0,0))],a0,el,[]]) V hw λhx=>C 2 V ?_;obtain rfl:=oi hs;exact AB (eg _ _ ⟨ho,ht,hu,el,ej,ek,V,V,(dq.Ad ei),hx,hv,hp⟩) V
    ·refine JL.exit V ?_;obtain rfl:=oi gT;obtain rfl:=gP _ dp;exact AB (gO _ _ ⟨a8,bn,bo,b3,a9,bb,V,V,ee,dj,dn,dk⟩) V
  ·refine JL.exit V ?_;obtain rfl:=oi gk;obtain rfl:=gg _ df;exact AB (gf _ _ ⟨b0,cy,cN,aq,av,a0,V,V,dW,dX,dZ,dY⟩) V
variable {J:Judge Tryz.prog}
variable {J:Judge Tryz.prog}
variable {J:Judge Tryz.prog}
def f35(fu_:Nat)(p0:A5)(p1:A5):Option Bool:= (f43 fu_ p0).bind λK=> (f43 fu_ p1).bind λO=> (f22 fu_ p0).bind λU=> (f22 fu_ p1).bind λY=> (f24 fu_ p0).bind λZ=> (f24 fu_ p1).bind λac=> Option.bind (if K.2=0 then(some (decide (O.2=0))) else(some false)) λag=> Option.bind (if ag=true then(some (decide (U.2=0))) else(some false)) λal=> Option.bind (if al=true then(some (decide (Y.2=0))) else(some false)) λam=> Option.bind (if am=true then(some (decide (Z.2=0))) else(some false)) λap=> Option.bind (if ap=true then(some (decide (ac.2=0))) else(some false)) λaq=> Option.bind (if aq=true then(some (decide (Z.1=ac.1))) else(some false)) λav=> Option.bind (if av=true then((f29 fu_ K.1 O.1).bind λaw=> some aw) else(some false)) λay=> Option.bind (if ay=true then((f26 fu_ U.1 Y.1).bind λaz=> some az) else(some false)) λa0=> some a0
theorem ck{a1:Aq}{c2:Nat}{b2:Aq}{b3:Nat}{b4:Aq}{b5:Nat}{b6:Aq}{ca:Nat}{p0:A5}{p1:A5}(bo:Al (rL rI) E a1 c2 p0.1)(bv:Al Az E b2 b3 p0.2)(bw:Al (rL rI) E b4 b5 p1.1)(bx:Al Az E b6 ca p1.2){fu_:Nat}{r:Bool}(cc:f35 fu_ p0 p1=some r):AQ J 35 [.agg #[sV a1 p0.1 c2,sV b2 p0.2 b3],.agg #[sV b4 p1.1 b5,sV b6 p1.2 ca]] E [] (λw E' B'=>w= .bool r/\B'= []):=by
 refine Bo func35 λQ eC cs H cY cZ=>?_;unfold f35 at cc;refine C 2 V (Du cY λeD eE Y bz c0=>?_);refine Du c0 λeF eG K b0 c1=>?_;refine C 4 V (B9 (bz.Ah K) DZ Ck V V ?_);obtain⟨a0,c3,c4⟩:=bs cc;refine BU (QC (bo.Ah (Y.Ad K)) (bv.Ah (Y.Ad K)) c3) V V OS c1 ?_;rintro _ eH _ O ⟨a2,a3,rfl,rfl,c5⟩ c6;refine C 8 V (B9 (b0.Ah O) DZ Ck V V ?_);obtain⟨a4,c7,c8⟩:=bs c4;refine BU (QC (bw.Ah ((Y.Ad K).Ad O)) (bx.Ah ((Y.Ad K).Ad O)) c7) V V OS c6 ?_;rintro _ eI _ U ⟨a5,a6,rfl,rfl,c9⟩ da;refine C 8 V (B9 (bz.Ah ((K.Ad O).Ad U)) DZ Ck V V ?_);obtain⟨am,db,dc⟩:=bs c8;refine BU (QD (bo.Ah (((Y.Ad K).Ad O).Ad U)) (bv.Ah (((Y.Ad K).Ad O).Ad U)) db) V V OT da ?_;rintro _ eJ _ Z ⟨av,aw,rfl,rfl,dd⟩ de;refine C 8 V (B9 (b0.Ah ((O.Ad U).Ad Z)) DZ Ck V V ?_);obtain⟨ag,df,dg⟩:=bs dc;refine BU (QD (bw.Ah ((((Y.Ad K).Ad O).Ad U).Ad Z)) (bx.Ah ((((Y.Ad K).Ad O).Ad U).Ad Z)) df) V V OT de ?_;rintro _ eK _ ac ⟨ay,az,rfl,rfl,dh⟩ di;refine C 8 V (B9 (bz.Ah ((((K.Ad O).Ad U).Ad Z).Ad ac)) DZ Ck V V ?_);obtain⟨ap,dj,dk⟩:=bs dg;refine Cy (Qr (bo.Ah (((((Y.Ad K).Ad O).Ad U).Ad Z).Ad ac)) (bv.Ah (((((Y.Ad K).Ad O).Ad U).Ad Z).Ad ac)) dj) V V OP di λeL aq dn=>C 8 V (B9 (b0.Ah ((((O.Ad U).Ad Z).Ad ac).Ad aq)) DZ Ck V V ?_);obtain⟨al,dp,dq⟩:=bs dk;refine Cy (Qr (bw.Ah ((((((Y.Ad K).Ad O).Ad U).Ad Z).Ad ac).Ad aq)) (bx.Ah ((((((Y.Ad K).Ad O).Ad U).Ad Z).Ad ac).Ad aq)) dp) V V OP dn λeM a7 ce=>?_;obtain⟨dr,dt,du⟩:=bs dq;refine C 11 V (Eg 6 32 [] [(5,sV a2 a0.1 a3),(7,sV a5 a4.1 a6),(9,sV av am.1 aw),(10,iV am.2),(11,sV ay ag.1 az),(12,iV ag.2),(13,iV ap.1),(14,iV ap.2),(15,iV al.1),(16,iV al.2),(52,.bool dr)] (λeN a8 ci=>?_) (λco=>?_))
 ·obtain⟨dv,dw,dx⟩:=bs du;refine C 1 V (Eg 10 28 [] [(5,sV a2 a0.1 a3),(7,sV a5 a4.1 a6),(9,sV av am.1 aw),(11,sV ay ag.1 az),(12,iV ag.2),(13,iV ap.1),(14,iV ap.2),(15,iV al.1),(16,iV al.2),(56,.bool dv)] (λeO a9 cp=>?_) (λct=>?_))
  ·obtain⟨dy,dz,dA⟩:=bs dx;refine C 1 V (Eg 14 24 [] [(5,sV a2 a0.1 a3),(7,sV a5 a4.1 a6),(9,sV av am.1 aw),(11,sV ay ag.1 az),(13,iV ap.1),(14,iV ap.2),(15,iV al.1),(16,iV al.2),(60,.bool dy)] (λeP bb cw=>?_) (λcy=>?_))
   ·obtain⟨dB,dC,dD⟩:=bs dA;refine C 1 V (Eg 18 20 [] [(5,sV a2 a0.1 a3),(7,sV a5 a4.1 a6),(9,sV av am.1 aw),(11,sV ay ag.1 az),(13,iV ap.1),(15,iV al.1),(16,iV al.2),(64,.bool dB)] (λeQ be cN=>?_) (λcO=>?_))
    ·obtain⟨dE,dF,dG⟩:=bs dD;refine C 1 V (Eg 22 16 [] [(5,sV a2 a0.1 a3),(7,sV a5 a4.1 a6),(9,sV av am.1 aw),(11,sV ay ag.1 az),(13,iV ap.1),(15,iV al.1),(68,.bool dE)] (λeR bi cP=>?_) (λcQ=>?_))
     ·obtain⟨dH,dI,dJ⟩:=bs dG;refine C 1 V (Eg 27 11 [] [(5,sV a2 a0.1 a3),(7,sV a5 a4.1 a6),(9,sV av am.1 aw),(11,sV ay ag.1 az),(73,.bool dH)] (λeS bn cR=>?_) (λcT=>?_))
      ·obtain⟨dK,dL,dM⟩:=bs dJ;refine C 1 V (Eg 32 6 [] [(9,sV av am.1 aw),(11,sV ay ag.1 az),(78,.bool dK)] (λeT b1 cV=>?_) (λcW=>?_))
       ·obtain⟨dN,dO,dQ⟩:=bs dM;refine C 1 V (Eg 37 1 [] [(83,.bool dN)] (λeU dR dS=>?_) (λcX=>?_))
        ·refine C 2 V ?_;obtain rfl:=oi dQ;exact A2 func35 V V (cZ (((((((((((((((Y.Ad K).Ad O).Ad U).Ad Z).Ad ac).Ad aq).Ad a7).Ad a8).Ad a9).Ad bb).Ad be).Ad bi).Ad bn).Ad b1).Ad dR) V ⟨V,V⟩ dS)
        ·refine DD 79 dO (λdT dU=>?_) (λdT dV=>?_)
         ·obtain⟨eV,dW,dX⟩:=bs dU;refine C 2 V (Cy (Of (dd.Ah (((((((((ac.Ad aq).Ad a7).Ad a8).Ad a9).Ad bb).Ad be).Ad bi).Ad bn).Ad b1)) (dh.Ah ((((((((aq.Ad a7).Ad a8).Ad a9).Ad bb).Ad be).Ad bi).Ad bn).Ad b1)) dW) V V MP cV λeW dY dZ=>?_);refine C 1 V ?_;obtain rfl:=oi dX;exact cX dY dZ V
         ·refine C 4 V ?_;obtain rfl:=oi dV;exact cX Aw cV V
       ·refine DD 74 dL (λea eb=>?_) (λea ec=>?_)
        ·obtain⟨eX,ed,ee⟩:=bs eb;refine C 2 V (Cy (Mo (c5.Ah ((((((((((U.Ad Z).Ad ac).Ad aq).Ad a7).Ad a8).Ad a9).Ad bb).Ad be).Ad bi).Ad bn)) (c9.Ah (((((((((Z.Ad ac).Ad aq).Ad a7).Ad a8).Ad a9).Ad bb).Ad be).Ad bi).Ad bn)) ed) V V LC cR λeY ef eg=>?_);refine C 1 V ?_;obtain rfl:=oi ee;exact cW ef eg V
        ·refine C 4 V ?_;obtain rfl:=oi ec;exact cW Aw cR V
      ·refine DD 69 dI (λeh ei=>?_) (λeh ej=>?_)
       ·refine C 4 V ?_;obtain rfl:=oi ei;exact cT Aw cP V
       ·refine C 4 V ?_;obtain rfl:=oi ej;exact cT Aw cP V
     ·refine DD 65 dF (λek el=>?_) (λek em=>?_)
      ·refine C 3 V ?_;obtain rfl:=oi el;exact cQ Aw cN V
      ·refine C 3 V ?_;obtain rfl:=oi em;exact cQ Aw cN V
    ·refine DD 61 dC (λen eo=>?_) (λen ep=>?_)
     ·refine C 3 V ?_;obtain rfl:=oi eo;exact cO Aw cw V
     ·refine C 3 V ?_;obtain rfl:=oi ep;exact cO Aw cw V
   ·refine DD 57 dz (λer et=>?_) (λer eu=>?_)
    ·refine C 3 V ?_;obtain rfl:=oi et;exact cy Aw cp V
    ·refine C 3 V ?_;obtain rfl:=oi eu;exact cy Aw cp V
  ·refine DD 53 dw (λew ex=>?_) (λew ey=>?_)
   ·refine C 3 V ?_;obtain rfl:=oi ex;exact ct Aw ci V
   ·refine C 3 V ?_;obtain rfl:=oi ey;exact ct Aw ci V
 ·refine GN 49 dt (λez eA=>?_) (λez eB=>?_)
  ·refine C 3 V ?_;obtain rfl:=oi eA;exact co Aw ce V
  ·refine C 3 V ?_;obtain rfl:=oi eB;exact co Aw ce V
end Pal
namespace Pal
open Go Go.Conc
variable {κ ν:Type}
variable {pk:Rp κ}{pv:Rp ν}{ka va:Bool}{E E' H:LH}
variable {P:Program}{s:St}{t tm te:TypeId}{X:Halt->St->Prop}{bk:Nat}{o:Obj}{xs:List (κ×ν)}{w:Value}{v0:ν}
section
variable [DecidableEq κ]
theorem L2(x:κ)(u v:ν):∀xs:List (κ×ν),Be (Be xs x u) x v=Be xs x v
 | []=>by simp [Be]
 | y::ys=>by
  by_cases e:x=y.1
  ·rw [show Be (y::ys) x u=(x,u)::ys by simp only [Be,if_pos e],show Be (y::ys) x v=(x,v)::ys by simp only [Be,if_pos e]]
   simp [Be]
  ·rw [show Be (y::ys) x u=y::Be ys x u by simp only [Be,if_neg e],show Be (y::ys) x v=y::Be ys x v by simp only [Be,if_neg e],show Be (y::Be ys x u) x v=y::Be (Be ys x u) x v by simp only [Be,if_neg e],L2 x u v ys]
theorem RB{x:κ}{v:ν}:∀{xs:List (κ×ν)},AZ xs x=some v->Be xs x v=xs
 | [],h=>by cases h
 | y::ys,h=>by
  by_cases e:x=y.1
  ·have:y.2=v:=by unfold AZ at h;rw [List.find?_cons_of_pos (by simpa using e)] at h;exact Option.some.inj h
   rw [show Be (y::ys) x v=(x,v)::ys by simp only [Be,if_pos e],e,← this]
  ·rw [show Be (y::ys) x v=y::Be ys x v by simp only [Be,if_neg e],RB];unfold AZ at h ⊢;rwa [List.find?_cons_of_neg (by simpa using e)] at h
theorem KW(x y:κ)(v:ν):∀xs:List (κ×ν),AZ (Be xs x v) y=if y=x then some v else AZ xs y
 | []=>by
  unfold Be AZ
  by_cases h:y=x
  ·rw [if_pos h];simp [h]
  ·rw [if_neg h];simp [h]
 | z::U=>by
  have Y:=KW x y v U;unfold Be;by_cases h:x=z.1
  ·rw [if_pos h];by_cases K:y=x
   ·rw [if_pos K];unfold AZ;simp [K]
   ·rw [if_neg K];unfold AZ;rw [List.find?_cons_of_neg (by simpa using K),List.find?_cons_of_neg (by simpa using λe=>K (e.trans h.symm))]
  ·rw [if_neg h];by_cases O:y=z.1
   ·rw [if_neg (λe=>h (e.symm.trans O))];unfold AZ;simp [O]
   ·have:AZ (z::Be U x v) y=AZ (Be U x v) y:=by unfold AZ;rw [List.find?_cons_of_neg (by simpa using O)]
    rw [this,Y];by_cases K:y=x
    ·rw [if_pos K,if_pos K]
    ·rw [if_neg K,if_neg K];unfold AZ;rw [List.find?_cons_of_neg (by simpa using O)]
open Classical in
noncomputable def Mc{α K:Type}(m:List α)(f:List α->Option K):Option K:=if m.length<=1000/\∀l,l.Perm m->f l=f m then f m else none
theorem R3{α K:Type}{m:List α}{f:List α->Option K}{r:K}(h:Mc m f=some r):m.length<=1000/\∀l,l.Perm m->f l=some r:=by
 unfold Mc at h;split at h
 ·rename_i O;exact⟨O.1,λl p=>(O.2 l p).trans h⟩
 ·cases h
theorem WM{α K:Type}{m:List α}{f:List α->Option K}{r:Option K}(O:m.length<=1000)(h:∀l,l.Perm m->f l=r):Mc m f=r:=by
 unfold Mc;rw [if_pos ⟨O,λl p=>(h l p).trans (h m (.refl _)).symm⟩];exact h m (.refl _)
def ET(m:List ((Int×Int)×Int)):List (Int×Int×Int):=(m.filter λe=>decide (0<e.2)).map λe=>(e.1.1,e.1.2,e.2)
theorem Yq(m:List ((Int×Int)×Int)):(ET m).length<=m.length:=by
 unfold ET;rw [List.length_map];exact List.length_filter_le _ _
theorem XV{m:List ((Int×Int)×Int)}{e:(Int×Int)×Int}(h:0<e.2):ET (m++ [e])=ET m++ [(e.1.1,e.1.2,e.2)]:=by
 unfold ET;rw [List.filter_append,List.map_append];simp only [List.filter_cons,List.filter_nil,h,decide_true,if_true,List.map_cons,List.map_nil]
theorem Sq{m:List ((Int×Int)×Int)}{e:(Int×Int)×Int}(h:¬0<e.2):ET (m++ [e])=ET m:=by
 unfold ET;rw [List.filter_append,List.map_append];simp only [List.filter_cons,List.filter_nil,h,decide_false,Bool.false_eq_true,if_false,List.map_nil,List.append_nil]
theorem W0{m:List ((Int×Int)×Int)}{e:(Int×Int)×Int}(h:0<e.2)(K:m.length<=1000):room (ET m) (e.1.1,e.1.2,e.2)=some (ET (m++ [e])):=by
 unfold room;rw [if_pos (by have:=Yq m;omega),XV h]
theorem Tq{x:κ}{k w:Value}{v:ν}{c:Nat}:∀{es:List MapEntry} {ys:List (κ×ν)} {i:Nat},C5 pk ka pv va E es ys->DX x es ys i=none->DX x (es++ [{key:=k,val:=w,born:=c}]) (Be ys x v) i=some (i+es.length,w)
 | [],[],i,_,_=>by simp [DX,Be]
 | e::es,y::ys,i,h,K=>by
  unfold DX at K
  by_cases O:x=y.1
  ·rw [if_pos O] at K;cases K
  ·rw [if_neg O] at K;have U:=Tq (k:=k) (w:=w) (v:=v) (c:=c) h.2.2 K;unfold Be;rw [if_neg O];show DX x (e::(es++_)) (y::Be ys x v) i=_;unfold DX;rw [if_neg O,U,List.length_cons];congr 2;omega
 | [],_::_,_,h,_=>h.elim
 | _::_,[],_,h,_=>h.elim
theorem Qj{x:κ}:∀{es:List MapEntry} {ys:List (κ×ν)} {i j:Nat} {u:Value},C5 pk ka pv va E es ys->DX x es ys i=some (i+j,u)->∃e v,es[j]? =some e/\e.val=u/\ys[j]? =some (x,v)/\AZ ys x=some v
 | [],[],i,j,u,_,h=>by cases h
 | e::es,y::ys,i,j,u,h,hh=>by
  unfold DX at hh
  by_cases K:x=y.1
  ·rw [if_pos K] at hh
   have O:=Option.some.inj hh;have Y:j=0:=by have:=congrArg Prod.fst O;simp at this;omega
   subst Y;have Z:e.val=u:=congrArg Prod.snd O;exact⟨e,y.2,V,Z,by rw [K];rfl,by unfold AZ;rw [List.find?_cons_of_pos (by simpa using K)];rfl⟩
  ·rw [if_neg K] at hh;rcases j with _ | j
   ·have:∀{es:List MapEntry} {ys:List (κ×ν)} {i m:Nat} {u:Value},DX x es ys i=some (m,u)->i<=m:=by
     intro es
     induction es with
     | nil=>intro ys i m u h;cases ys <;> cases h
     | cons e es ac=>
      intro ys i m u h;cases ys with
      | nil=>cases h
      | cons y ys=>
       unfold DX at h;split at h
       ·have:=congrArg Prod.fst (Option.some.inj h);simp at this;omega
       ·have:=ac h;omega
    have:=this hh;omega
   ·obtain⟨ag,v,a1,al,am,U⟩:=Qj (i:=i+1) (j:=j) h.2.2 (by rw [hh];congr 2;omega);exact⟨ag,v,a1,al,am,by unfold AZ at U ⊢;rw [List.find?_cons_of_neg (by simpa using K)];exact U⟩
 | [],_::_,_,_,_,h,_=>h.elim
 | _::_,[],_,_,_,h,_=>h.elim
def Lt(pk:Rp κ)(ka:Bool)(pv:Rp ν)(va:Bool)(E:LH)(o:Obj)(xs:List (κ×ν))(x:κ)(st:Nat):Prop:=
 KN xs/\∃ys,ys.Perm xs/\∃es clock,o= .map es clock/\C5 pk ka pv va E es.toList ys/\(es.toList.map (·.born)).Pairwise (·<·)/\(∀e∈es.toList,e.born<clock)/\
  ∃j u e,DX x es.toList ys 0=some (j,u)/\es.toList[j]? =some e/\e.born=st
theorem Lt.map{o:Obj}{xs:List (κ×ν)}{x:κ}{st:Nat}(h:Lt pk ka pv va E o xs x st):Bt pk ka pv va E o xs:=
 let ⟨K,ys,O,es,c,U,Y,Z,ac,_⟩:=h;⟨K,ys,O,es,c,U,Y,Z,ac⟩
variable {k:Value}{x:κ}
theorem Vm(Z:FJ P t pk ka)(hm:P.underlying tm=some (.map t te)){z:Value}{z0:ν}(av:zeroOf P te=some z)(aw:Vr pv va E z z0)(ay:s.get bk=some o)(al:s.H bk=some o)(az:Bt pk ka pv va E o xs)(U:Vr pk ka E k x){Q:Value->St->Prop}
  (h:∀o' w st,Lt pk ka pv va E o' (Be xs x ((AZ xs x).getD z0)) x st->Q (.tuple #[w,goInt st]) (s.upd bk o')):lp P (Instr.mapEntry tm (.map (some bk)) k) s Q X:=by
 obtain⟨Y,ys,ac,es,c,rfl,O,am,ag⟩:=az;unfold Instr.mapEntry;refine As _ _ (Cl hm ?_);unfold getObj;simp only [bind,Sem.bind,lp];refine⟨_,ay,V,?_⟩;refine As (x:=Instr.checkKey false 10000 t k) _ (Z.BK U ?_);refine As (x:=Instr.findKey t k es.toList) _ (M9 Z U O ?_);rw [← Pa Y ac x] at h;rcases PS (x:=x) (i:=0) O with⟨K,e2⟩ | ⟨j,w,v0,K,e2,a0⟩
 ·rw [K];simp only;rw [e2] at h;refine As (x:=zeroValue te) _ (G4 av ?_);have a2:=(C5.put U aw c (i:=0) O).resolve_right (by rintro⟨j,u,a1,_⟩;rw [K] at a1;cases a1);refine As _ _ ?_;simp only [setObj,lp,pure];refine⟨⟨_,al,V⟩,V,h _ _ c ⟨Y.put _ _,_,M6 Y ac _ _,es.push {key:=k,val:=z,born:=c},c+1,V,by simpa using a2.2,?_,?_,es.toList.length,z,{key:=k,val:=z,born:=c},?_,by simp,V⟩⟩
  ·rw [Array.toList_push,List.map_append,List.pairwise_append];refine⟨am,by simp,λa a3 b hb=>?_⟩;simp at hb;subst hb;obtain⟨e,he,rfl⟩:=List.mem_map.1 a3;exact ag e he
  ·intro e he;rw [Array.toList_push] at he;rcases List.mem_append.1 he with he | he
   ·have:=ag e he;omega
   ·simp at he;subst he;simp
  ·rw [Array.toList_push,Tq O K,Nat.zero_add]
 ·rw [K];rw [e2] at h;obtain⟨e,v,a1,bb,be,bi⟩:=Qj (i:=0) (j:=j) O (by rw [K,Nat.zero_add]);obtain⟨a4,u,ap,bn,a5,bo⟩:=(C5.put U a0 c (i:=0) O).resolve_left (by rintro⟨a1,_⟩;rw [K] at a1;cases a1);obtain rfl:j=a4:=by rw [K] at ap;have:=congrArg Prod.fst (Option.some.inj ap);simp at this;omega
  have a6:es[j]? =some e:=by simpa using a1
  have aq:e.key=k:=Z.uniq (a5 _ a1) U;simp only [a6,Option.map_some,Option.getD_some,aq];refine As (x:=Instr.keyThatStays k k) _ ?_;unfold Instr.keyThatStays;rw [if_pos (Z.same U)];have a7:(es.modify j λe=>{e with key:=k})=es:=by
   apply Array.ext';rw [Array.toList_modify];apply List.ext_getElem?;intro q;rw [List.getElem?_modify];split
   ·rename_i a8;subst a8;rw [a1,← aq];rfl
   ·simp
  simp only [lp,pure,setObj];rw [a7];have a9:ys.Perm (Be xs x v0):=by
   have:=M6 Y ac x v0
   rwa [RB e2] at this
  refine⟨⟨_,al,V⟩,V,h _ _ e.born ⟨Y.put _ _,ys,a9,es,c,V,O,am,ag,j,w,e,by rw [K],a1,V⟩⟩
theorem Rb:∀{l:List MapEntry} {j:Nat} {e:MapEntry},(l.map (·.born)).Pairwise (·<·)->l[j]? =some e->l.findIdx? (λy=>((y.born:Nat):Int)==((e.born:Nat):Int))=some j
 | [],_,_,_,h=>by cases h
 | a::l,0,e,_,h=>by
  cases h
  rw [List.findIdx?_cons,if_pos (by simp)]
 | a::l,j+1,e,K,h=>by
  rw [List.map_cons,List.pairwise_cons] at K
  have O:l[j]? =some e:=by simpa using h
  have:=K.1 e.born (List.mem_map.2 ⟨e,List.mem_of_getElem? O,V⟩);rw [List.findIdx?_cons,if_neg (by simp;omega),Rb K.2 O]
  rfl
theorem Va{st:Nat}(ap:s.get bk=some o)(aq:s.H bk=some o)(av:Lt pk ka pv va E o xs x st)(hw:Vr pv va E w v0){Q:Unit->St->Prop}
  (h:∀o',Bt pk ka pv va E o' (Be xs x v0)->Q () (s.upd bk o')):lp P (Instr.entryStore tm (.map (some bk)) (goInt st) w) s Q X:=by
 obtain⟨ac,ys,aw,es,c,rfl,U,ag,al,j,u,e,Y,O,rfl⟩:=av;unfold Instr.entryStore;unfold getObj;simp only [bind,Sem.bind,lp];refine⟨_,ap,V,?_⟩;have a9:es[j]? =some e:=by simpa using O
 have ay:es.findIdx? (λy=>((y.born:Nat):Int)==((e.born:Nat):Int))=some j:=by
  rw [← Rb ag O];cases es;simp
 obtain⟨K,v',a1,bb,az,be⟩:=Qj (i:=0) (j:=j) U (by rw [Y,Nat.zero_add]);have a0:K=e:=by rw [O] at a1;exact(Option.some.inj a1).symm
 subst a0;have a2:Vr pk ka E K.key x:=by
  have a3:(K,((x,v'):κ×ν))∈es.toList.zip ys:=by
   have a4:(es.toList.zip ys)[j]? =some (K,(x,v')):=by rw [List.getElem?_zip_eq_some];exact⟨O,az⟩
   exact List.mem_of_getElem? a4
  exact(U.zip a3).1
 obtain⟨a5,bi,am,bn,bo,a6⟩:=(C5.put a2 hw c (i:=0) U).resolve_left (by rintro⟨a1,_⟩;rw [Y] at a1;cases a1);obtain rfl:j=a5:=by rw [Y] at am;have:=congrArg Prod.fst (Option.some.inj am);simp at this;omega
 have a7:(es.modify j λe=>{e with val:=w}).toList=es.toList.modify j λe=>{e with key:=K.key,val:=w}:=by
  rw [Array.toList_modify];apply List.ext_getElem?;intro q;rw [List.getElem?_modify,List.getElem?_modify];split
  ·rename_i Z;subst Z;rw [O];rfl
  ·rfl
 simp only [goInt,asInt,asIntOf,pure];refine As _ _ ?_;show lp P (match Array.findIdx? (λy=>((y.born:Nat):Int)==((K.born:Nat):Int)) es with
  | some i=>setObj bk (Obj.map (es.modify i λe=>{key:=e.key,val:=w,born:=e.born}) c)
  | none=>unsupported (Unsupported.noEntry "instr/MapEntry.the entry is gone")) s Q X
 rw [ay];simp only [setObj,lp];refine⟨⟨_,aq,V⟩,V,h _ ⟨ac.put _ _,_,M6 ac aw _ _,_,c,V,by rw [a7];exact a6,?_,?_⟩⟩
 ·have:(es.modify j λe=>{e with val:=w}).toList.map (·.born)=es.toList.map (·.born):=by
   rw [Array.toList_modify];apply List.ext_getElem?;intro q;simp only [List.getElem?_map,List.getElem?_modify];split <;> cases es.toList[q]? <;> rfl
  rw [this];exact ag
 ·intro e he;rw [Array.toList_modify] at he;obtain⟨q,Z,rfl⟩:=List.mem_iff_getElem.1 he;rw [List.getElem_modify];have a8:q<es.toList.length:=by simpa using Z
  split
  ·show(es.toList[q]'a8).born<c;exact al _ (List.getElem_mem _)
  ·exact al _ (List.getElem_mem _)
end
variable {Q:Gs_}{b:Frame}{n:Nat}{ds:Ld_}{ops:Ao_}{kk:Li_}{cs:Lf_}{L:Env}{S:List Seg}{fuel:Nat}{listed:Array Bool}
variable {u ty:TypeId}{p:String}{af:Ae_}{g:On_}{rest:List Nat}{zv:Value}{x0:κ}{z0:ν}
section
variable [DecidableEq κ]
variable {J:Judge P}{m:Nat}
variable {d:Option Tmp}{x y z:Operand}{e:TypeId}{i:Nat}{k:Value}
theorem Take.Nt(j:Nat)(O:FJ P t pk ka)(hm:P.underlying tm=some (.map t te))(U:zeroOf P te=some zv)(Y:Vr pv va E zv z0)(Z:Bt pk ka pv va E o xs)(ac:Vr pk ka E k x0)(ag:Ap E H S)(al:S[j]? =some [(bk,o)])
  (am:ops[i]? =some ⟨d,.lookup tm x y false,ty,p,af,g⟩) (hw:AJ L ops ⟨d,.lookup tm x y false,ty,p,af,g⟩=some true) (ap:Bc n d=true) (aq:ev L x=some (.map (some bk))) (av:ev L y=some k)
  (h:∀w,Vr pv va E w ((AZ xs x0).getD z0)->AL J Q b n ds ops kk cs m CV fuel (A4 listed i) (Au L d w) (Aj E H S)):
  Take J Q b n ds ops kk cs m CV fuel listed L (Aj E H S) i:=
 Take.KM am (by simp [DW,ap]) hw λρ K=>by
  show lp P (do pure (Next.value (← Instr.lookup tm (ρ x) (ρ y) false))) _ _ _
  rw [K _ _ aq,K _ _ av]
  refine As _ _ (Rv O hm U Y (Dg (i:=0) ag al rfl) Z ac false λw hw=>?_)
  exact h w hw
theorem Take.Nb(j:Nat)(Y:FJ P t pk ka)(hm:P.underlying tm=some (.map t te))(Z:zeroOf P te=some zv)(ac:Vr pv va E zv z0)(ag:Bt pk ka pv va E o xs)(al:Vr pk ka E k x0)(K:Ap E H S)(O:S[j]? =some [(bk,o)])
  (am:ops[i]? =some ⟨d,.mapEntry tm x y,ty,p,af,g⟩) (hw:AJ L ops ⟨d,.mapEntry tm x y,ty,p,af,g⟩=some true) (ap:Bc n d=true) (aq:ev L x=some (.map (some bk))) (av:ev L y=some k)
  (h:∀o' w st,Lt pk ka pv va E o' (Be xs x0 ((AZ xs x0).getD z0)) x0 st->Ap E H (S.set j [(bk,o')])->AL J Q b n ds ops kk cs m CV fuel (A4 listed i) (Au L d (.tuple #[w,goInt st])) (Aj E H (S.set j [(bk,o')]))):
  Take J Q b n ds ops kk cs m CV fuel listed L (Aj E H S) i:=
 Take.KM am (by simp [DW,ap]) hw λρ U=>by
  show lp P (do pure (Next.value (← Instr.mapEntry tm (ρ x) (ρ y)))) _ _ _
  rw [U _ _ aq,U _ _ av]
  refine As _ _ (Vm Y hm Z ac (Dg (i:=0) K O rfl) (IY K O) ag al λo' w st aw=>?_)
  obtain⟨ay,az⟩:=Jg K O o'
  rw [ay]
  exact h o' w st aw az
theorem JS.entryStore{st:Nat}(j:Nat)(Y:Lt pk ka pv va E o xs x0 st)(Z:Vr pv va E w v0)(K:Ap E H S)(O:S[j]? =some [(bk,o)])
  (ac:ops[i]? =some ⟨d,.entryStore tm x y z,ty,p,af,g⟩) (hw:AJ L ops ⟨d,.entryStore tm x y z,ty,p,af,g⟩=some true) (ag:BK b n ⟨d,.entryStore tm x y z,ty,p,af,g⟩=true) (al:ev L x=some (.map (some bk))) (am:ev L y=some (goInt st)) (ap:ev L z=some w)
  (h:∀o',Bt pk ka pv va E o' (Be xs x0 v0)->Ap E H (S.set j [(bk,o')])->JL J Q b n (Au L d undef) ds (.inRegion ops rest::kk) cs (Aj E H (S.set j [(bk,o')]))):
  JL J Q b n L ds (.inRegion ops (i::rest)::kk) cs (Aj E H S):=
 JL.op ac hw ag λρ U=>by
  show lp P (do Instr.entryStore tm (ρ x) (ρ y) (ρ z);pure Next.skip) _ _ _
  rw [U _ _ al,U _ _ am,U _ _ ap]
  refine As _ _ (Va (Dg (i:=0) K O rfl) (IY K O) Y Z λo' aq=>?_)
  obtain⟨av,aw⟩:=Jg K O o'
  rw [av]
  exact h o' aq aw
end
end Pal
namespace Pal
open Go Go.Conc
variable {P:Program}{Q:Gs_}{b:Frame}{n:Nat}{L:Env}{ds:Ld_}{cs:Lf_}{E H:LH}{S:List Seg}
section
variable {J:Judge P}
theorem Tl{todo:Li_}{S':List Seg}(O:S=S'++ [[]])(K:Ap E H S)(h:Ap E H S'->JL J Q b n L ds todo cs (Aj E H S')):JL J Q b n L ds todo cs (Aj E H S):=by
 subst O;have e:(S'++ [([]:Seg)]).flatten=S'.flatten:=by rw [GI,List.append_nil]
 have e2:Aj E H (S'++ [[]])=Aj E H S':=by show mk E H _=mk E H _;rw [e]
 rw [e2];exact h (by unfold Ap at K ⊢;rwa [e] at K)
end
open Go.Proofs Go.Proofs.Tryz
variable {J:Judge Tryz.prog}
def Mj(fu_:Nat)(U:A5×Int)(O:(List ((Int×Int)×Int))×Int):Option (Br ((List ((Int×Int)×Int))×Int) ((List ((Int×Int)×Int)))):= if O.2<(U.1.2.length:Int) then((ix U.1.2 O.2).bind λK=> (Av (((AZ O.1 (K.1,K.2.1)).getD 0)+K.2.2)).bind λY=> (Av (((AZ (Be O.1 (K.1,K.2.1) Y) (K.2.1,K.1)).getD 0) - K.2.2)).bind λZ=> (Av (O.2+1)).bind λac=> some (.more ((Be (Be O.1 (K.1,K.2.1) Y) (K.2.1,K.1) Z),ac))) else(some (.done O.1))
noncomputable def f45(fu_:Nat)(p0:A5):Option (Ay×Int):=
 (f70 fu_ p0 ([])).bind λK=>
 if K.2≠0 then(
  some ([],K.2)
 ) else(
  Option.bind (iter (Mj fu_ K) fu_ (([]:List ((Int×Int)×Int)),0)) λO=>
  Mc O λU=>
  (f90 fu_ (ET U)).bind λY=>
  some (Y,0)
 )
theorem UC{a1:Aq}{c2:Nat}{cW:Aq}{cX:Nat}{p0:A5}(dd:Al (rL rI) E a1 c2 p0.1)(de:Al Az E cW cX p0.2){fu_:Nat}{r:Ay×Int}(cY:f45 fu_ p0=some r):AQ J 45 [.agg #[sV a1 p0.1 c2,sV cW p0.2 cX]] E [] (λw E' B'=>∃(cZ:Aq) (c0:Nat),w= .tuple #[sV cZ r.1 c0,iV r.2]/\B'= []/\Al Az E' cZ c0 r.1):=by
 refine NY func45 V V λQ eA cs H a5 a8=>?_;unfold f45 at cY;refine C 2 V (Du a5 λeB eC a9 df a6=>?_);refine C 5 V (B9 df DZ Ck V V ?_);obtain⟨a3,dg,dh⟩:=bs cY;refine BU (Ks (dd.Ah a9) (de.Ah a9) Al.nil dg) V V Ke a6 ?_;rintro _ eD _ c1 ⟨eE,eF,b4,b5,rfl,rfl,eG,di⟩ dj;refine C 3 V (BT dj Hu λeH dk=>?_);refine BL 3 dk DK λdn=>?_;refine Dp 3 dn V λb6 ca dp c3=>C 8 V (A0 dh (λdq dr=>?_) (λdq dt=>?_))
 ·refine C 6 V ?_;obtain rfl:=oi dr;exact A2 func45 V V (a8 _ _ _ _ ((a9.Ad c1).Ad ca) V ⟨none,0,V,V,Al.nil⟩ c3)
 ·refine C 3 V (JS.makeMap V V V c3 λY du=>?_);refine C 5 V (JL.fd underlying77 Ck V V V ?_);refine Cb 1 dp underlying25 Hw Jy ?_;refine JL.ln underlying23 V V V ?_;obtain⟨cc,dv,c4⟩:=bs dt;refine C 2 V (Bw (λL s=>∃(ce:LH) (bb:Obj),Jn b6 H ce [[(Y,bb)]] [(6,.map (some Y))] L s (Bt Dl true rI false ce bb cc)) ?_ ?_)
  ·rintro _ _ ⟨ce,bb,rfl,rfl,dw,dx,dy⟩;refine C 6 V (M1 0 dx V λaq c5 dz dA=>?_);have dB:Bt Dl true rI false aq bb cc:=(dy.Ah c5);obtain⟨dC,c6,ci,dD,ap,dE,dF,c7,dG⟩:=dB;have be:=dz;rw [dE] at be;refine C 2 V (JS.range underlying110 (IJ be) V V V dA V λav dH=>?_);refine JL.done (Pk dH λdI=>?_);have eI:=(R3 c4).1;refine Bw (λL s=>∃(bi:List ((Int×Int)×Int)) (co:Aq) (cp:Nat) (bn:Seg),bi.Perm cc/\L= [(9,.slice co (ET bi).length cp)]/\s=Aj aq H [[],[],bn]/\Ap aq H [[],[],bn]/\OL 27 Az aq co cp bn (ET bi)) ?_ ?_
   rotate_left
   ·intro aw;refine JL.block (Eu [(9,.slice none 0 0),(55,Ak av 0)] V ?_);refine JL.loop (λ(q:Array Nat×List ((Int×Int)×Int)×Option Addr×Nat×Seg)=>HD dD c6 q.1 q.2.1/\OL 27 Az aq q.2.2.1 q.2.2.2.1 q.2.2.2.2 (ET q.2.1)/\Ap aq H [[],[(av,.mapIter (some Y) ap q.1 ap)],q.2.2.2.2]) (λq=>c6.length - q.2.1.length) (λq=> [(9,.slice q.2.2.1 (ET q.2.1).length q.2.2.2.1),(55,Ak av 0)]) (λq=>Aj aq H [[],[(av,.mapIter (some Y) ap q.1 ap)],q.2.2.2.2]) (#[],[],none,0,[]) ⟨HD.nil,OL.nil,dI⟩ V V ?_;rintro⟨seen,done,a,c,g⟩ ⟨ag,bo,a5⟩ again;simp only at ag bo a5 again ⊢;have eJ:=ag.len;have eK:=ci.length_eq;refine C 2 V (Pt 1 dF c7 dG (dC.perm ci) ag (IJ be) a5 V V V V V (λe U a8 dJ eL eM he ct c8=>?_) (λhd=>?_))
    ·obtain⟨_,⟨_,_,rfl,rfl,rfl⟩,dK⟩:=a8;obtain⟨_,rfl,ev⟩:=dJ;have dL:=ct.len;simp only [List.length_append,List.length_singleton] at dL;refine C 8 V (JS.entry 1 (IJ be) he c7 c8 V V V V V ?_);refine Am (v:= .agg #[iV U.1.1,iV U.1.2]) V (λρ h=>Yl.extract (h _ _ V) (congrArg some dK)) (Am (v:=iV U.2) V (λρ h=>Yl.extract (h _ _ V) (congrArg some ev)) ?_);refine BT c8 Hs λeN cw=>?_;refine BL 3 cw Fz λbv=>?_;refine C 7 V (FU (p:=0<U.2) V (λbw=>?_) (λbw=>?_))
     ·refine JL.region (C 1 V ?_);refine JL.fd underlying101 AI V V V (Am (v:=iV U.1.1) V (λρ h=>Yl.load Bb (h _ _ V) (BY (j:=3) (off:=0) bv V V)) ?_);refine JL.fd underlying101 AI V V V (Am (v:=iV U.1.2) V (λρ h=>Yl.load Bb (h _ _ V) (BY (j:=3) (off:=1) bv V V)) ?_);refine C 1 V (Am (v:= .agg #[iV U.1.1,iV U.1.2,iV U.2]) V (λρ h=>C3 [(0,1),(1,1),(2,1)] h BP underlying27 ⟨V,AN type3,V,AN type3,V,AN type3,trivial⟩ V V) ?_);refine JS.app (pp:=Az) (v:= .agg #[iV U.1.1,iV U.1.2,iV U.2]) (a:=a) (c:=c) 2 (W0 bw (by omega)) V V V V (λ_=>V) V (λ_=>V) V V V underlying80 underlying80 underlying80 Bn (Ed type27) BP V (by decide) (by decide) (by decide) (by decide) bo ⟨_,_,V,V,⟨_,_,V,V,V⟩⟩ bv V λw dM c2 g2 dN dO=>C 3 V (JS.drop 3 dO V λa6=>?_);exact Tl (S':= [[],[(av,.mapIter (some Y) ap (seen.push e.born) ap)],g2]) V a6 λcy=>AB (again (seen.push e.born,done++ [U],dM,c2,g2) ⟨ct,dN,cy⟩ (by simp only [List.length_append,List.length_singleton];omega)) V
     ·refine JL.skip (LM ?_);refine JS.drop 3 bv V λa6=>Tl (S':= [[],[(av,.mapIter (some Y) ap (seen.push e.born) ap)],g]) V a6 λcy=>Fg (L':= [(9,.slice a (ET (done++ [U])).length c),(55,Ak av 0)]) ⟨by rw [Sq bw];rfl,V,trivial⟩ ?_;exact again (seen.push e.born,done++ [U],a,c,g) ⟨ct,by rw [Sq bw];exact bo,cy⟩ (by simp only [List.length_append,List.length_singleton];omega)
    ·refine Am (v:= .bool false) V (λρ h=>Yl.extract (h _ _ V) V) (C 4 V ?_);exact JS.drop 1 a5 V λcw=>AB (aw _ _ ⟨done,a,c,g,hd.trans ci,V,V,cw,bo⟩) V
   rintro _ _ ⟨bi,co,cp,bn,dQ,rfl,rfl,dR,dS⟩;have dT:=(R3 c4).2 _ dQ;refine C 3 V (Cm 2 dS dR V λeO dU dV dW=>?_);obtain⟨eP,dX,dY⟩:=bs dT;refine BU (Ux dV dX) V V (A8 func90 V) dW ?_;rintro _ eQ _ dZ ⟨ea,eb,rfl,rfl,ec⟩ ed;refine C 3 V ?_;obtain rfl:=oi dY;exact A2 func45 V V (a8 _ _ _ _ ((((((a9.Ad c1).Ad ca).Ad dw).Ad c5).Ad dU).Ad dZ) V ⟨ea,eb,V,V,ec⟩ ed)
  ·intro ee;refine JL.block (C4 dv (λL s Z=>∃(bx:LH) (bz:Obj),Jn b6 H bx [[(Y,bz)]] [(6,.map (some Y)),(23,sV b4 a3.1.2 b5),(24,iV (a3.1.2.length:Int)),(25,iV Z.2)] L s (Bt Dl true rI false bx bz Z.1)) ⟨b6,(.map #[] 0),V,V,Aw,du,Bt.nil⟩ ?_);rintro _ _ Z ⟨bx,bz,rfl,rfl,cN,c9,b0⟩ ef ⟨eR,cO⟩ eg;have da:=cO;unfold Mj at da;refine C 5 V (A0 da (λeh ei=>?_) (λeh ej=>?_))
   ·obtain⟨K,ek,el⟩:=bs ei;refine C 5 V (JS.ix (di.Ah (ca.Ad cN)) ek underlying23 Bn ?_);rintro eS eT _ ⟨_,_,rfl,rfl,⟨_,_,rfl,rfl,rfl⟩⟩ em;refine B9 em En Bn V V (BT c9 BP λen eo=>?_);refine BL 1 eo Bn λep=>?_;refine Dp 1 ep V λay b1 a4 cP=>?_;obtain⟨az,db,er⟩:=bs el;refine C 2 V (Bw (λL s=>∃(b2:Obj),L= [(6,.map (some Y)),(23,sV b4 a3.1.2 b5),(24,iV (a3.1.2.length:Int)),(25,iV Z.2),(8,Ak en 0)]/\s=Aj ay H [[(Y,b2)],[]]/\Ap ay H [[(Y,b2)],[]]/\Bt Dl true rI false ay b2 (Be Z.1 (K.1,K.2.1) az)) ?_ ?_)
    rotate_left
    ·intro aw;refine EV 12 λO=>C8 0 O V V (JG.fd 1 O underlying27 AI V V V V ?_);refine Dz 2 O 0 a4 Bb V V V V (JG.fd 3 O underlying27 AI V V V V ?_);refine Dz 4 O 1 a4 Bb V V V V (AK (v:= .agg #[iV K.1,iV K.2.1]) 5 O V V (λρ h s' ag=>C3 [(0,1),(1,1)] h Hs underlying101 ⟨V,AN type3,V,AN type3,trivial⟩ V V) ?_);refine JG.fd 7 O underlying27 AI V V V V (Dz 8 O 2 a4 Bb V V V V ?_);refine FE (i:=6) (j:=10) V (by decide+kernel) ?_ ?_
     ·refine Take.Nt (z0:=(0:Int)) (x0:=(K.1,K.2.1)) 0 Ig underlying110 Ce ⟨_,V,V⟩ (b0.Ah b1) ⟨_,⟨_,_,V,V,V⟩,V⟩ cP V V V V V V λw hw=>?_;obtain rfl:w=iV ((AZ Z.1 (K.1,K.2.1)).getD 0):=by obtain⟨_,rfl,rfl⟩:=hw;rfl
      refine AK 9 O V V (λρ h s' ag=>FC (h _ _ V) (h _ _ V) db) (JG.one (i:=10) V (by decide+kernel) ?_);refine Take.Nb (z0:=(0:Int)) (x0:=(K.1,K.2.1)) 0 Ig underlying110 Ce ⟨_,V,V⟩ (b0.Ah b1) ⟨_,⟨_,_,V,V,V⟩,V⟩ cP V V V V V V λcQ w1 cR al am=>C8 11 O V V (Dd [12] ?_);refine JS.entryStore (v0:=az) (x0:=(K.1,K.2.1)) 0 al ⟨_,V,V⟩ am V V V V V V V λa0 ac a2=>JL.done ?_;rw [L2] at ac;exact AB (aw _ _ ⟨a0,V,V,a2,ac⟩) V
     ·refine Take.Nb (z0:=(0:Int)) (x0:=(K.1,K.2.1)) 0 Ig underlying110 Ce ⟨_,V,V⟩ (b0.Ah b1) ⟨_,⟨_,_,V,V,V⟩,V⟩ cP V V V V V V λcQ w1 cR al am=>C8 11 O V V (JG.one (i:=6) V (by decide+kernel) ?_);refine Take.Nt (z0:=(0:Int)) (x0:=(K.1,K.2.1)) 0 Ig underlying110 Ce ⟨_,V,V⟩ al.map ⟨_,⟨_,_,V,V,V⟩,V⟩ am V V V V V V λw hw=>?_;obtain rfl:w=iV ((AZ Z.1 (K.1,K.2.1)).getD 0):=by
       obtain⟨_,rfl,rfl⟩:=hw;show iV _=iV _;rw [KW,if_pos rfl]
       rfl
      refine AK 9 O V V (λρ h s' ag=>FC (h _ _ V) (h _ _ V) db) (Dd [12] ?_);refine JS.entryStore (v0:=az) (x0:=(K.1,K.2.1)) 0 al ⟨_,V,V⟩ am V V V V V V V λa0 ac a2=>JL.done ?_;rw [L2] at ac;exact AB (aw _ _ ⟨a0,V,V,a2,ac⟩) V
    rintro _ _ ⟨b2,rfl,rfl,cT,cV⟩;obtain⟨b3,dc,et⟩:=bs er;refine Bw (λL s=>∃(a7:Obj),L= [(6,.map (some Y)),(23,sV b4 a3.1.2 b5),(24,iV (a3.1.2.length:Int)),(25,iV Z.2)]/\s=Aj ay H [[(Y,a7)],[]]/\Ap ay H [[(Y,a7)],[]]/\Bt Dl true rI false ay a7 (Be (Be Z.1 (K.1,K.2.1) az) (K.2.1,K.1) b3)) ?_ ?_
    rotate_left
    ·intro aw;refine EV 12 λO=>C8 0 O V V (JG.fd 1 O underlying27 AI V V V V ?_);refine Dz 2 O 1 a4 Bb V V V V (JG.fd 3 O underlying27 AI V V V V ?_);refine Dz 4 O 0 a4 Bb V V V V (AK (v:= .agg #[iV K.2.1,iV K.1]) 5 O V V (λρ h s' ag=>C3 [(0,1),(1,1)] h Hs underlying101 ⟨V,AN type3,V,AN type3,trivial⟩ V V) ?_);refine JG.fd 7 O underlying27 AI V V V V (Dz 8 O 2 a4 Bb V V V V ?_);refine FE (i:=6) (j:=10) V (by decide+kernel) ?_ ?_
     ·refine Take.Nt (z0:=(0:Int)) (x0:=(K.2.1,K.1)) 0 Ig underlying110 Ce ⟨_,V,V⟩ cV ⟨_,⟨_,_,V,V,V⟩,V⟩ cT V V V V V V λw hw=>?_;obtain rfl:w=iV ((AZ (Be Z.1 (K.1,K.2.1) az) (K.2.1,K.1)).getD 0):=by obtain⟨_,rfl,rfl⟩:=hw;rfl
      refine AK 9 O V V (λρ h s' ag=>DL (h _ _ V) (h _ _ V) dc) (JG.one (i:=10) V (by decide+kernel) ?_);refine Take.Nb (z0:=(0:Int)) (x0:=(K.2.1,K.1)) 0 Ig underlying110 Ce ⟨_,V,V⟩ cV ⟨_,⟨_,_,V,V,V⟩,V⟩ cT V V V V V V λcQ w1 cR al am=>C8 11 O V V (Dd [12] ?_);refine JS.entryStore (v0:=b3) (x0:=(K.2.1,K.1)) 0 al ⟨_,V,V⟩ am V V V V V V V λa0 ac a2=>JL.done ?_;rw [L2] at ac;exact AB (aw _ _ ⟨a0,V,V,a2,ac⟩) V
     ·refine Take.Nb (z0:=(0:Int)) (x0:=(K.2.1,K.1)) 0 Ig underlying110 Ce ⟨_,V,V⟩ cV ⟨_,⟨_,_,V,V,V⟩,V⟩ cT V V V V V V λcQ w1 cR al am=>C8 11 O V V (JG.one (i:=6) V (by decide+kernel) ?_);refine Take.Nt (z0:=(0:Int)) (x0:=(K.2.1,K.1)) 0 Ig underlying110 Ce ⟨_,V,V⟩ al.map ⟨_,⟨_,_,V,V,V⟩,V⟩ am V V V V V V λw hw=>?_;obtain rfl:w=iV ((AZ (Be Z.1 (K.1,K.2.1) az) (K.2.1,K.1)).getD 0):=by
       obtain⟨_,rfl,rfl⟩:=hw;show iV _=iV _;rw [KW,if_pos rfl]
       rfl
      refine AK 9 O V V (λρ h s' ag=>DL (h _ _ V) (h _ _ V) dc) (Dd [12] ?_);refine JS.entryStore (v0:=b3) (x0:=(K.2.1,K.1)) 0 al ⟨_,V,V⟩ am V V V V V V V λa0 ac a2=>JL.done ?_;rw [L2] at ac;exact AB (aw _ _ ⟨a0,V,V,a2,ac⟩) V
    rintro _ _ ⟨a7,rfl,rfl,eu,ew⟩;obtain⟨ex,ey,ez⟩:=bs et;refine C 2 V (Bx ey V V V ?_);refine C 2 V ?_;obtain rfl:=oi ez;exact AB (eg _ _ ((Be (Be Z.1 (K.1,K.2.1) az) (K.2.1,K.1) b3),ex) ⟨ay,a7,V,V,(cN.Ad b1),eu,ew⟩ cO) V
   ·refine JL.exit V ?_;obtain rfl:=oi ej;obtain rfl:=ef _ cO;exact AB (ee _ _ ⟨bx,bz,V,V,cN,c9,b0⟩) V
noncomputable def NS(fu_:Nat)(K:Ay×Int)(O:Int):Option (Br (Int) ((Bool)⊕(Unit))):=
 if O<((K.1).length:Int) then(
  (ix K.1 (O)).bind λU=>
  Option.bind (
   if 9<U.2.2 then(
    some true
   ) else(
    some (decide (8<((K.1).length:Int)))
   )
  ) λY=>
  if Y=true then(
   (f18 fu_).bind λZ=>
   some (.done (Sum.inl Z))
  ) else(
   (Av (O+1)).bind λac=>
   some (.more ac)
  )
 ) else(
  some (.done (Sum.inr ()))
 )
noncomputable def f10(fu_:Nat)(p0:List Int):Option (Bool):=
 (f20 fu_ p0).bind λZ=>
 (f31 fu_ Z 5 8).bind λO=>
 (f45 fu_ O.1).bind λK=>
 Option.bind (
  if K.2≠0 then(
   some true
  ) else(
   some (decide (10<((K.1).length:Int)))
  )
 ) λac=>
 if ac=true then(
  some false
 ) else(
  Option.bind (iter (NS fu_ K) fu_ 0) λag=>
  Sum.elim (λr=>some r) (λaz=>
  (f45 fu_ (O.1.1,K.1)).bind λY=>
  (f33 fu_ (O.1.1,K.1)).bind λU=>
  Option.bind (
   if Y.2≠0 then(
    some true
   ) else(
    (f26 fu_ Y.1 K.1).bind λal=>
    some (!al)
   )
  ) λam=>
  Option.bind (
   if am=true then(
    some true
   ) else(
    if U.2≠0 then(
     some (decide (U.2≠11))
    ) else(
     some false
    )
   )
  ) λap=>
  Option.bind (
   if ap=true then(
    some true
   ) else(
    if U.2=0 then(
     some (decide (((U.1).length:Int)<3))
    ) else(
     some false
    )
   )
  ) λaq=>
  if aq=true then(
   some false
  ) else(
   (f35 fu_ O.1 (O.1.1,K.1)).bind λav=>
   Option.bind (
    if av=true then(
     (f18 fu_).bind λaw=>
     some aw
    ) else(
     some false
    )
   ) λay=>
   some ay
  )
  ) ag
 )
theorem Y0{E H:LH}{a1:Aq}{c2:Nat}{p0:List Int}(cT:Al rI E a1 c2 p0){fu_:Nat}{r:Bool}(b0:f10 fu_ p0=some r):(GK Tryz.prog).ok (L5 Tryz.prog (λv _=>v= .bool r)) (G (Frame.enter Tryz.prog 10 ([sV a1 p0 c2]:Lv_).toArray .normal) []) (mk E H []):=by
 refine Wo func10 V V (Nat.le_of_ble_eq_true V) ?_;have cV:Ap E H [[]]:=trivial;unfold f10 at b0;obtain⟨eZ,cW,cX⟩:=bs b0;refine C 7 V (BU (bI cT cW) V V (A8 func20 V) cV ?_);rintro _ e0 _ e1 ⟨e3,e4,e5,rfl,rfl,cY⟩ cZ;obtain⟨a2,c0,c1⟩:=bs cX;refine Cx 1 (bH cY c0) V V (A8 func31 V) cZ V ?_;rintro _ e6 _ e7 ⟨c3,c4,e8,e9,fa,fb,rfl,rfl,aw,b1,fc⟩ c5;refine BT c5 II λag c6=>?_;refine BL 2 c6 Ck λc7=>?_;refine Dp 2 c7 V λfe al a8 c8=>C 3 V (B9 a8 DZ Ck V V ?_);obtain⟨Z,c9,da⟩:=bs c1;refine BU (UC (aw.Ah al) (b1.Ah al) c9) V V (A8 func45 V) c8 ?_;rintro _ a9 _ am ⟨ay,az,rfl,rfl,a0⟩ b2;obtain⟨db,dc,dd⟩:=bs da;refine C 12 V (G8 [] (λL s=>∃(bb:LH),Jm a9 H bb [] [(3,Ak ag 0),(4,sV ay Z.1 az),(26,.bool db)] L s) ?_ ?_)
 ·rintro _ _ ⟨bb,rfl,rfl,K,de⟩;refine JL.done (CF dd (λdf dg=>?_) (λdf dh=>?_))
  ·refine C 4 V ?_;obtain rfl:=oi dg;exact Hy V (JO.end (v:= .bool false) V (by decide+kernel) func10 V V V)
  ·obtain⟨b3,di,b4⟩:=bs dh;refine C 6 V (Bw (λL s=>∃(b5:Unit) (b6:LH),b3=Sum.inr b5/\Jm bb H b6 [] [(3,Ak ag 0),(4,sV ay Z.1 az)] L s) ?_ ?_)
   ·rintro _ _ ⟨b5,b6,rfl,rfl,rfl,O,dj⟩;have dk:=elim_inr b4;refine C 2 V (Cb 0 (a8.Ah ((am.Ad K).Ad O)) underlying25 FQ F5 ?_);refine C 1 V (Am (v:= .agg #[sV c3 a2.1.1 c4,sV ay Z.1 az]) V (λρ h=>C3 [(0,1),(1,1)] h II underlying25 ⟨V,AN type22,V,AN type23,trivial⟩ V V) ?_);refine BT dj II λbe dn=>?_;refine BL 0 dn Ck λdp=>?_;refine Dp 0 dp V λff U bi dq=>C 3 V (B9 bi DZ Ck V V ?_);obtain⟨fg,dr,dt⟩:=bs dk;refine BU (UC (p0:=(a2.1.1,Z.1)) (aw.Ah ((((al.Ad am).Ad K).Ad O).Ad U)) (a0.Ah ((K.Ad O).Ad U)) dr) V V (A8 func45 V) dq ?_;rintro _ fh _ Y ⟨fj,fk,rfl,rfl,du⟩ dv;refine C 8 V (B9 (bi.Ah Y) DZ Ck V V ?_);obtain⟨a3,dw,dx⟩:=bs dt;refine BU (Uy (p0:=(a2.1.1,Z.1)) (aw.Ah (((((al.Ad am).Ad K).Ad O).Ad U).Ad Y)) (a0.Ah (((K.Ad O).Ad U).Ad Y)) dw) V V (A8 func33 V) dv ?_;rintro _ fl _ ac ⟨ca,cc,rfl,rfl,fm⟩ ce;obtain⟨dy,dz,dA⟩:=bs dx;refine C 12 V (Eg 8 17 [] [(3,Ak ag 0),(7,Ak be 0),(10,sV ca a3.1 cc),(11,iV a3.2),(66,.bool dy)] (λfo ap bn=>?_) (λci=>?_))
    ·obtain⟨dB,dC,dD⟩:=bs dA;refine C 1 V (Eg 16 9 [] [(3,Ak ag 0),(7,Ak be 0),(10,sV ca a3.1 cc),(11,iV a3.2),(74,.bool dB)] (λa4 aq bo=>?_) (λbv=>?_))
     ·obtain⟨dE,dF,dG⟩:=bs dD;refine C 1 V (G8 [] (λL s=>∃(co:LH),Jm a4 H co [] [(3,Ak ag 0),(7,Ak be 0),(83,.bool dE)] L s) ?_ ?_)
      ·rintro _ _ ⟨co,rfl,rfl,av,dH⟩;refine JL.done (CF dG (λdI dJ=>?_) (λdI dK=>?_))
       ·refine C 4 V ?_;obtain rfl:=oi dJ;exact Hy V (JO.end (v:= .bool false) V (by decide+kernel) func10 V V V)
       ·refine C 3 V (B9 (a8.Ah ((((((((am.Ad K).Ad O).Ad U).Ad Y).Ad ac).Ad ap).Ad aq).Ad av)) DZ Ck V V ?_);refine B9 (bi.Ah ((((Y.Ad ac).Ad ap).Ad aq).Ad av)) DZ Ck V V ?_;obtain⟨fp,dL,dM⟩:=bs dK;refine Cy (ck (aw.Ah (((((((((al.Ad am).Ad K).Ad O).Ad U).Ad Y).Ad ac).Ad ap).Ad aq).Ad av)) (b1.Ah (((((((((al.Ad am).Ad K).Ad O).Ad U).Ad Y).Ad ac).Ad ap).Ad aq).Ad av)) (p1:=(a2.1.1,Z.1)) (aw.Ah (((((((((al.Ad am).Ad K).Ad O).Ad U).Ad Y).Ad ac).Ad ap).Ad aq).Ad av)) (a0.Ah (((((((K.Ad O).Ad U).Ad Y).Ad ac).Ad ap).Ad aq).Ad av)) dL) V V (A8 func35 V) dH λfq fs cp=>?_;obtain⟨ct,dN,dO⟩:=bs dM;refine C 1 V (Eg 6 1 [] [(89,.bool ct)] (λfu fv fw=>?_) (λcw=>?_))
        ·refine C 2 V ?_;obtain rfl:=oi dO;exact Hy V (JO.end (v:= .bool ct) V (by decide+kernel) func10 V V V)
        ·refine DD 87 dN (λdQ dR=>?_) (λdQ dS=>?_)
         ·obtain⟨fx,dT,dU⟩:=bs dR;refine Cy (Up dT) V V (A8 func18 V) cp λfy dV dW=>C 1 V ?_;obtain rfl:=oi dU;exact cw dV dW V
         ·refine C 2 V ?_;obtain rfl:=oi dS;exact cw Aw cp V
      ·intro bw;refine DD 75 dF (λdX dY=>?_) (λdX dZ=>?_)
       ·refine C 8 V ?_;obtain rfl:=oi dY;exact AB (bw _ _ ⟨a4,V,V,Aw,bo⟩) V
       ·refine C 3 V (GN 78 dZ (λea eb=>?_) (λea ec=>?_))
        ·refine C 1 V (JL.ln underlying28 V V V ?_);refine C 3 V ?_;obtain rfl:=oi eb;exact AB (bw _ _ ⟨a4,V,V,Aw,bo⟩) V
        ·refine C 5 V ?_;obtain rfl:=oi ec;exact AB (bw _ _ ⟨a4,V,V,Aw,bo⟩) V
     ·refine DD 67 dC (λed ee=>?_) (λed ef=>?_)
      ·refine C 7 V ?_;obtain rfl:=oi ee;exact bv Aw bn V
      ·refine C 3 V (GN 70 ef (λeg eh=>?_) (λeg ei=>?_))
       ·refine C 4 V ?_;obtain rfl:=oi eh;exact bv Aw bn V
       ·refine C 4 V ?_;obtain rfl:=oi ei;exact bv Aw bn V
    ·refine GN 61 dz (λej ek=>?_) (λej el=>?_)
     ·refine C 5 V ?_;obtain rfl:=oi ek;exact ci Aw ce V
     ·obtain⟨em,en,eo⟩:=bs el;refine C 2 V (Cy (Of (du.Ah ac) (a0.Ah ((((K.Ad O).Ad U).Ad Y).Ad ac)) en) V V MP ce λfz ep er=>?_);refine Am (v:= .bool (!em)) V (λρ h=>Yl.not (h _ _ V)) (C 1 V ?_);obtain rfl:=oi eo;exact ci ep er V
   ·intro et;refine JL.block (Ef di (λa5=> []) (λa5=> [(3,Ak ag 0),(4,sV ay Z.1 az),(6,iV a5)]) Aw de ?_);rintro a5 a6 bx bz cy ⟨fA,a7⟩ eu;have cN:=a7;unfold NS at cN;refine C 5 V (JL.ln underlying23 V V V ?_);refine C 2 V (A0 cN (λew ex=>?_) (λew ey=>?_))
    ·obtain⟨fB,ez,eA⟩:=bs ex;refine C 7 V (JS.ix (a0.Ah (K.Ad bx)) ez underlying23 Bn ?_);rintro fC fD _ ⟨_,_,rfl,rfl,⟨_,_,rfl,rfl,rfl⟩⟩ eB;refine Cb 2 eB underlying27 AI Bb ?_;obtain⟨eC,eD,eE⟩:=bs eA;refine C 2 V (G8 [] (λL s=>∃(cO:LH),Jm a6 H cO [] [(3,Ak ag 0),(4,sV ay Z.1 az),(6,iV a5),(43,.bool eC)] L s) ?_ ?_)
     ·rintro _ _ ⟨cO,rfl,rfl,eF,cP⟩;refine JL.done (CF eE (λeG eH=>?_) (λeG eI=>?_))
      ·obtain⟨eJ,eK,eL⟩:=bs eH;refine C 2 V (Cy (Up eK) V V (A8 func18 V) cP λfE fF fG=>?_);refine C 2 V ?_;obtain rfl:=oi eL;obtain rfl:=cy _ a7;have eM:=elim_inl b4;obtain rfl:=oi eM;exact Hy V (JO.end (v:= .bool eJ) V (by decide+kernel) func10 V V V)
      ·obtain⟨eN,eO,eP⟩:=bs eI;refine C 4 V (Bx eO V V V ?_);refine C 2 V ?_;obtain rfl:=oi eP;exact eu eN (bx.Ad eF) cP V a7
     ·intro cQ;refine GN 39 eD (λeQ eR=>?_) (λeQ eS=>?_)
      ·refine C 4 V ?_;obtain rfl:=oi eR;exact AB (cQ _ _ ⟨a6,V,V,Aw,bz⟩) V
      ·refine C 1 V (JL.ln underlying23 V V V ?_);refine C 2 V ?_;obtain rfl:=oi eS;exact AB (cQ _ _ ⟨a6,V,V,Aw,bz⟩) V
    ·refine JL.exit V ?_;obtain rfl:=oi ey;have eT:b3=(Sum.inr ()):=(cy _ a7).symm;exact AB (et _ _ ⟨(),a6,eT,V,V,bx,bz⟩) V
 ·intro cR;refine GN 22 dc (λeU eV=>?_) (λeU eW=>?_)
  ·refine C 4 V (JS.drop 1 b2 V λeX=>?_);obtain rfl:=oi eV;exact AB (cR _ _ ⟨a9,V,V,Aw,eX⟩) V
  ·refine C 1 V (JL.ln underlying23 V V V ?_);refine C 2 V (JS.drop 1 b2 V λeY=>?_);obtain rfl:=oi eW;exact AB (cR _ _ ⟨a9,V,V,Aw,eY⟩) V
variable {J:Judge Tryz.prog}
variable {J:Judge Tryz.prog}
end Pal
namespace Pal
open Go Go.Conc
variable {P:Program}{Q:Gs_}{b:Frame}{n:Nat}{ds:Ld_}{ops:Ao_}{cs:Lf_}{fuel:Nat}{D:Nat->Bool}{listed:Array Bool}{L:Env}{s:St}{E E' H:LH}{S:List Seg}
variable {t u ty:TypeId}{p:String}{af:Ae_}{g:On_}{v:Value}{kd:IntKind}
section
variable {J:Judge P}{k:Li_}{m:Nat}
variable {d:Option Tmp}{x y:Operand}{e:TypeId}{i:Nat}
end
open Go.Proofs Go.Proofs.Tryz
variable {J:Judge Tryz.prog}
end Pal
namespace Pal
open Go Go.Conc
variable {P:Program}{t u ty:TypeId}{p:String}{af:Ae_}{g:On_}{s:St}{ρ:Operand->Value}
section
variable {d:Option Tmp}{x:Operand}{e:TypeId}
end
open Go.Proofs Go.Proofs.Tryz
variable {E:LH}
variable {J:Judge Tryz.prog}
variable {J:Judge Tryz.prog}
end Pal
set_option autoImplicit false
open Go
namespace Pal
open Go Go.Conc Go.Proofs Go.Proofs.Tryz
variable {E:LH}
variable {J:Judge Tryz.prog}
variable {J:Judge Tryz.prog}
end Pal
namespace Pal
def BI{α:Type}(o:Option α)(Q:α->Prop):Prop:=∃a,o=some a/\Q a
variable {α β:Type}{Q R:α->Prop}
theorem Ax{a:α}(h:Q a):BI (some a) Q:=⟨a,V,h⟩
theorem BI.Ah{o:Option α}(h:BI o R)(k:∀a,R a->Q a):BI o Q:=let ⟨a,K,O⟩:=h;⟨a,K,k a O⟩
theorem Bs{o:Option β}{f:β->Option α}{S:β->Prop}(h:BI o S)(k:∀b,S b->BI (f b) Q):BI (o.bind f) Q:=by
 obtain⟨b,rfl,hb⟩:=h;obtain⟨a,K,O⟩:=k b hb;exact⟨a,K,O⟩
theorem Bv{o:Option β}{f:β->Option α}{b:β}(h:o=some b)(k:BI (f b) Q):BI (o.bind f) Q:=by subst h;exact k
theorem BI.cD{f:Int->Option α}{x:Int}(K: -9223372036854775808<=x)(O:x<=9223372036854775807)(k:BI (f x) Q):BI ((Av x).bind f) Q:=Bv (if_pos ⟨K,O⟩) k
theorem JY{xs:List β}{i:Int}{m:Nat}{b:β}(h:i=(m:Int))(hb:xs[m]? =some b):ix xs i=some b:=by subst h;simpa [ix] using hb
theorem Ds{f:β->Option α}{xs:List β}{i:Int}{m:Nat}(h:i=(m:Int))(hm:m<xs.length)(k:BI (f xs[m]) Q):BI ((ix xs i).bind f) Q:=Bv (JY h (List.getElem?_eq_getElem hm)) k
theorem KT{f:List β->Option α}{xs:List β}{x:β}(h:xs.length+1<=2 ^ 40)(k:BI (f (xs++ [x])) Q):BI ((room xs x).bind f) Q:=Bv (if_pos h) k
theorem Cn{c:Prop} [Decidable c] {x y:Option α}(K:c->BI x Q)(O:¬c->BI y Q):BI (if c then x else y) Q:=by
 by_cases h:c
 ·rw [if_pos h];exact K h
 ·rw [if_neg h];exact O h
theorem CJ{c:Prop} [Decidable c] {x y:Option α}(h:c)(k:BI x Q):BI (if c then x else y) Q:=by rw [if_pos h];exact k
theorem B3{c:Prop} [Decidable c] {x y:Option α}(h:¬c)(k:BI y Q):BI (if c then x else y) Q:=by rw [if_neg h];exact k
def Br.sat{S A:Type}(I:S->Prop)(Q:A->Prop):Br S A->Prop
 | .more s=>I s
 | .done a=>Q a
theorem Ps{S:Type}{body:S->Option (Br S α)}(I:Nat->S->Prop)(round:∀m s,I m s->BI (body s) (Br.sat (λs'=>∃m',m'<m/\I m' s') Q)):
  ∀{m fuel:Nat} {s:S},I m s->m<fuel->BI (iter body fuel s) Q:=by
 intro m
 induction m using Nat.strongRecOn with
 | _ m O=>
  intro fuel s U ag;obtain⟨fuel,rfl⟩:∃k,fuel=k+1:=⟨fuel - 1,by omega⟩;obtain⟨st,Y,K⟩:=round m s U;unfold Pal.iter;rw [Y];cases st with
  | more s'=>
   obtain⟨m',Z,ac⟩:=K;exact O m' Z ac (by omega)
  | done a=>exact⟨a,rfl,K⟩
theorem Ec{S A:Type}{body:S->Option (Br S A)}{Q:A->Prop}{K:S}{F:Nat}(n:Nat)(I:Nat->S->Prop)(Y:I 0 K)(ac:n<F)
  (round:∀i s,i<n->I i s->BI (body s) (Br.sat (I (i+1)) Q)) (last:∀s,I n s->BI (body s) (λst=>∃a,st= .done a/\Q a)):BI (Pal.iter body F K) Q:=by
 refine Ps (λm s=>∃i,i<=n/\m=n - i/\I i s) ?_ (m:=n - 0) ⟨0,Nat.zero_le _,V,Y⟩ (by omega);rintro m s ⟨i,hi,rfl,O⟩;rcases Nat.lt_or_ge i n with Z | ag
 ·refine(round i s Z O).Ah ?_;intro st U;cases st with
  | more s'=>exact⟨n - (i+1),by omega,i+1,by omega,rfl,U⟩
  | done a=>exact U
 ·obtain rfl:i=n:=by omega
  refine(last s O).Ah ?_;rintro st ⟨a,rfl,h⟩;exact h
theorem Ex{α:Type}{o:Option α}{a:α}(h:BI o (λx=>x=a)):o=some a:=by obtain⟨x,K,rfl⟩:=h;exact K
theorem BH{α:Type}{Q:α->Prop}{f:Int->Option α}{x:Int}(y:Int)(h:x=y)(K: -9223372036854775808<=y)(O:y<=9223372036854775807)(k:BI (f y) Q):BI ((Av x).bind f) Q:=by subst h;exact BI.cD K O k
theorem BI.MB{α β:Type}{Q:α->Prop}{f:List β->Option α}{xs ys:List β}(h:xs.length+ys.length<1000)(k:BI (f (xs++ys)) Q):BI ((Eh xs ys).bind f) Q:=Bv (by unfold Eh;rw [if_pos (by omega)]) k
abbrev Jt:=List Int×Int×Nat
def BG(k:Nat)(b:Jt):Prop:=0<=b.2.1/\b.2.1<=(k:Int)
theorem BG.Ah{k k':Nat}{b:Jt}(h:BG k b)(K:k<=k'):BG k' b:=⟨h.1,by have:=h.2;omega⟩
theorem ZC{F k:Nat}{b:Jt}(hb:BG k b)(K:k<1000000):BI (f83 F b) (λr=>r.1<2 ^ 64/\BG (k+1) r.2):=by
 obtain⟨O,U⟩:=hb;unfold f83;refine BH (b.2.1+1) V (by omega) (by omega) ?_;have key:∀x:Nat,(x % 2 ^ 64)>>>11<2 ^ 64:=λx=>Nat.lt_of_le_of_lt (Nat.shiftRight_le _ _) (Nat.mod_lt _ (Nat.two_pow_pos 64));refine Bs (S:=λ_=>True) ?_ ?_
 ·refine Cn (λh=>?_) (λh=>?_)
  ·refine BH b.2.1 (by omega) (by omega) (by omega) (Ds (m:=b.2.1.toNat) (by omega) (by omega) ?_);exact Ax trivial
  ·exact Ax trivial
 ·intro x _;exact Ax ⟨key _,by simp only;omega,by simp only;omega⟩
theorem Wv{a:Nat}(h:a<2 ^ 62):MA a=(a:Int):=by
 unfold MA;exact JE (by omega)
theorem Lb{F k:Nat}{b:Jt}{m:Int}(hb:BG k b)(O:k<1000000)(hm:m<1000000):BI (f36 F b m) (λr=>0<=r.1/\(r.1<=m∨r.1=0)/\BG (k+1) r.2):=by
 unfold f36;refine Bs (ZC hb O) ?_;rintro⟨x,b'⟩ ⟨Z,K⟩;refine Cn (λh=>?_) (λh=>?_)
 ·exact Ax ⟨by simp,.inr V,K⟩
 ·have U:CX m=m.toNat:=by unfold CX;omega
  have e2:(CX m+1) % 2 ^ 64=m.toNat+1:=by rw [U];omega
  have Y:x % (m.toNat+1)<m.toNat+1:=Nat.mod_lt _ (by omega);refine Bv (b:=x % (m.toNat+1)) (by rw [e2];unfold Ot;rw [if_neg (by omega)]) ?_;refine Ax ?_;simp only;generalize x % (m.toNat+1)=z at Y ⊢;rw [Wv (by omega)];exact⟨by omega,.inl (by omega),K⟩
theorem P5{F k:Nat}{b:Jt}{lo hi:Int}(hb:BG k b)(O:k<1000000)(Y:0<=lo)(Z:lo<=hi)(ac:hi<1000):BI (f37 F b lo hi) (λr=>lo<=r.1/\r.1<=hi/\BG (k+1) r.2):=by
 unfold f37;refine BH (hi - lo) V (by omega) (by omega) (Bs (Lb hb O (by omega)) ?_);rintro⟨x,b'⟩ ⟨U,g2,K⟩;simp only at U g2 K ⊢;exact BH (lo+x) V (by omega) (by omega) (Ax ⟨by simp only;omega,by simp only;omega,K⟩)
theorem Z2{F k:Nat}{b:Jt}{m:Int}(hb:BG k b)(K:k<1000000)(U:1<=m)(Y:m<1000):BI (f32 F b m) (λr=>BG (k+1) r.2):=by
 unfold f32;refine BH (m - 1) V (by omega) (by omega) (Bs (Lb hb K (by omega)) ?_);rintro⟨x,b'⟩ ⟨Z,g2,O⟩;exact Ax O
theorem TI{F k:Nat}{b:Jt}{l:List Int}(hb:BG k b)(U:k<1000000)(Z:0<l.length)(ac:l.length<1000):BI (f81 F b l) (λr=>r.1∈l/\BG (k+1) r.2):=by
 unfold f81;refine BH ((l.length - 1:Nat):Int) (by omega) (by omega) (by omega) (Bs (Lb hb U (by omega)) ?_);rintro⟨x,b'⟩ ⟨Y,g2,K⟩;simp only at Y g2 K ⊢;have O:x.toNat<l.length:=by omega
 exact Ds (m:=x.toNat) (by omega) O (Ax ⟨List.getElem_mem O,K⟩)
abbrev DT:=Int×Int×Int
abbrev OW:=Bq×List DT
structure NV (n:Nat) (o:OW):Prop where
 l1:o.1.length<=n
 n1:∀x∈o.1,x.length<=n
 l2:o.2.length<=n
theorem aC{F:Nat}{l:List Int}(K:100<F)(O:l.length<=40):f29 F l l=some true:=by
 refine Ex ?_;unfold f29;refine Bs (S:=λq=>q=Sum.inr ()) ?_ (by rintro q rfl;exact Ax (by simp));refine Ec l.length (λi s=>s=(i:Int)) V (by omega) ?_ ?_
 ·rintro i s hi rfl;unfold N7;refine Bs (S:=λc=>c=true) (CJ (by omega) (Ax (decide_eq_true (by omega)))) ?_;rintro c rfl;refine CJ V (Ds (m:=i) V hi ?_);refine Ds (m:=i) V hi (B3 (by simp) ?_);exact BH ((i+1:Nat):Int) (by simp) (by omega) (by omega) (Ax V)
 ·rintro s rfl;unfold N7;refine Bs (S:=λc=>c=false) (B3 (by omega) (Ax V)) ?_;rintro c rfl;exact B3 (by simp) (Ax ⟨_,V,V⟩)
theorem TK{F:Nat}{l:List DT}(K:100<F)(O:l.length<=40):f26 F l l=some true:=by
 refine Ex ?_;unfold f26;refine Bs (S:=λq=>q=Sum.inr ()) ?_ (by rintro q rfl;exact Ax (by simp));refine Ec l.length (λi s=>s=(i:Int)) V (by omega) ?_ ?_
 ·rintro i s hi rfl;unfold N2;refine Bs (S:=λc=>c=true) (CJ (by omega) (Ax (decide_eq_true (by omega)))) ?_;rintro c rfl;refine CJ V (Ds (m:=i) V hi ?_);refine Ds (m:=i) V hi (B3 (by simp) ?_);exact BH ((i+1:Nat):Int) (by simp) (by omega) (by omega) (Ax V)
 ·rintro s rfl;unfold N2;refine Bs (S:=λc=>c=false) (B3 (by omega) (Ax V)) ?_;rintro c rfl;exact B3 (by simp) (Ax ⟨_,V,V⟩)
theorem NW(F:Nat)(a lo hi:Int):f92 F a lo hi=some (decide (lo<=a/\a<=hi)):=by
 unfold f92;by_cases h:lo<=a
 ·rw [if_pos h];simp [h]
 ·rw [if_neg h];simp [h]
theorem XY{F:Nat}{o:OW}{i:Int}{l:List Int}(h:ix o.1 i=some l):NQ F l=Mf F o i:=by
 funext j;unfold NQ Mf;rw [h];rfl
theorem X1(F:Nat)(o:OW):N4 F o=Mh F o:=by
 funext i;unfold N4 Mh;split
 ·rcases h:ix o.1 i with _ | l
  ·rfl
  ·simp only [Option.bind_some];rw [XY h]
 ·rfl
theorem Zx(F:Nat)(o:OW):f47 F o=f48 F o:=by
 unfold f47 f48;rw [X1];rfl
def VD(n:Nat)(d:DT):Prop:=0<=d.1/\d.1<(n:Int)/\0<=d.2.1/\d.2.1<(n:Int)/\d.1≠d.2.1/\1<=d.2.2/\d.2.2<=9
def CS(x:List Int):Prop:=x.length<=3/\∀c∈x,1<=c/\c<=9
structure VO (o:OW):Prop where
 n2:2<=o.1.length
 n5:o.1.length<=5
 cs:∀x∈o.1,CS x
 d8:o.2.length<=8
 ds:∀d∈o.2,VD o.1.length d
theorem VO.nv{o:OW}(h:VO o):NV 40 o:=⟨by have:=h.n5;omega,λx K=>by have:=(h.cs x K).1;omega,by have:=h.d8;omega⟩
theorem Ny{α:Type}{P:α->Prop}{l:List α}{i:Nat}(hi:i<l.length)(h:∀x∈l.take i,P x)(k:P l[i]):∀x∈l.take (i+1),P x:=by
 intro x K;rw [List.take_add_one,List.getElem?_eq_getElem hi] at K;simp only [Option.toList_some,List.mem_append,List.mem_singleton] at K;rcases K with K | rfl
 ·exact h x K
 ·exact k
theorem ZX{F:Nat}{d:DT}{n:Nat}(Y:n<1000):BI (f88 F (n:Int) d 9) (λr=>r=0↔VD n d):=by
 unfold f88;refine BH ((n:Int) - 1) V (by omega) (by omega) (Bv (NW _ _ _ _) ?_);refine Bs (S:=λc=>c=true↔¬((0<=d.1/\d.1<(n:Int))/\0<=d.2.1/\d.2.1<(n:Int))) ?_ ?_
 ·refine Cn (λh=>Ax ?_) (λh=>?_)
  ·simp at h;simp;omega
  ·refine BH ((n:Int) - 1) V (by omega) (by omega) (Bv (NW _ _ _ _) ?_);refine Ax ?_;simp at h;simp;omega
 ·intro c O;refine Cn (λh=>Ax ?_) (λh=>?_)
  ·have:=O.1 h;unfold VD;constructor
   ·intro h;cases h
   ·intro h;omega
  have Z:¬¬_:=λk=>h (O.2 k);refine Cn (λU=>Ax ?_) (λU=>?_)
  ·unfold VD;constructor
   ·intro h;cases h
   ·intro h;omega
  refine Bv (NW _ _ _ _) (Cn (λK=>Ax ?_) (λK=>Ax ?_))
  ·simp at K;unfold VD;constructor
   ·intro h;cases h
   ·intro h;omega
  ·simp at K;unfold VD;constructor
   ·intro h;omega
   ·intro h;rfl
theorem bf{F:Nat}{o:OW}(Z:100<F)(h:NV 40 o):BI (f48 F o) (λr=>r=0↔VO o):=by
 unfold f48;have ac:=h.l1;have ag:=h.l2;refine Cn (λg=>Ax (iff_of_false (by decide) λv=>by have:=v.n2;omega)) (λal=>?_);refine Cn (λg=>Ax (iff_of_false (by decide) λv=>by have:=v.n5;omega)) (λg2=>?_);refine Bs (S:=λq=>(∃e,q=Sum.inl e/\e≠0/\¬∀x∈o.1,CS x)∨(q=Sum.inr ()/\∀x∈o.1,CS x)) ?_ ?_
 ·refine Ec o.1.length (λi s=>s=(i:Int)/\∀x∈o.1.take i,CS x) ⟨V,by simp⟩ (by omega) ?_ ?_
  ·rintro i s hi ⟨rfl,K⟩;unfold Mh;refine CJ (by omega) (Ds (m:=i) V hi ?_);have am:=h.n1 _ (List.getElem_mem hi);refine Cn (λg=>Ax (.inl ⟨_,V,by decide,λk=>by have:=(k _ (List.getElem_mem hi)).1;omega⟩)) (λap=>?_);refine Bs (S:=λq=>(q=Sum.inl 1/\¬CS o.1[i])∨(q=Sum.inr ()/\CS o.1[i])) ?_ ?_
   ·refine Ec o.1[i].length (λj s=>s=(j:Int)/\∀c∈o.1[i].take j,1<=c/\c<=9) ⟨V,by simp⟩ (by omega) ?_ ?_
    ·rintro j s U ⟨rfl,O⟩;unfold Mf;refine Ds (m:=i) V hi (CJ (by omega) ?_);refine Ds (m:=i) V hi (Ds (m:=j) V U ?_);refine Bv (NW _ _ _ _) (Cn (λg=>Ax (.inl ⟨V,λk=>?_⟩)) (λg=>?_))
     ·have:=k.2 _ (List.getElem_mem U);simp at g;omega
     refine BH ((j+1:Nat):Int) (by simp) (by omega) (by omega) (Ax ⟨V,Ny U O ?_⟩);simpa using g
    ·rintro s ⟨rfl,O⟩;unfold Mf;refine Ds (m:=i) V hi ?_;rw [List.take_length] at O;exact B3 (by omega) (Ax ⟨_,V,.inr ⟨V,by omega,O⟩⟩)
   ·rintro q (⟨rfl,g⟩ | ⟨rfl,g⟩)
    ·rw [Sum.elim_inl];exact Ax (.inl ⟨_,V,by decide,λk=>g (k _ (List.getElem_mem hi))⟩)
    ·rw [Sum.elim_inr];exact BH ((i+1:Nat):Int) (by simp) (by omega) (by omega) (Ax ⟨V,Ny hi K g⟩)
  ·rintro s ⟨rfl,K⟩;unfold Mh;rw [List.take_length] at K;exact B3 (by omega) (Ax ⟨_,V,.inr ⟨V,K⟩⟩)
 ·rintro q (⟨e,rfl,he,g⟩ | ⟨rfl,O⟩)
  ·rw [Sum.elim_inl];exact Ax (iff_of_false he λv=>g v.cs)
  ·rw [Sum.elim_inr];refine Cn (λg=>Ax (iff_of_false (by decide) λv=>by have:=v.d8;omega)) (λg2=>?_);refine Bs (S:=λq=>(∃e,q=Sum.inl e/\e≠0/\¬∀d∈o.2,VD o.1.length d)∨(q=Sum.inr ()/\∀d∈o.2,VD o.1.length d)) ?_ ?_
   ·refine Ec o.2.length (λi s=>s=(i:Int)/\∀d∈o.2.take i,VD o.1.length d) ⟨V,by simp⟩ (by omega) ?_ ?_
    ·rintro i s hi ⟨rfl,K⟩;unfold Qg;refine CJ (by omega) (Ds (m:=i) V hi ?_);refine Bs (ZX (by omega)) ?_;intro x Y;refine Cn (λg=>Ax (.inl ⟨_,V,g,λk=>g (Y.2 (k _ (List.getElem_mem hi)))⟩)) (λg=>?_);exact BH ((i+1:Nat):Int) (by simp) (by omega) (by omega) (Ax ⟨V,Ny hi K (Y.1 (Decidable.not_not.1 g))⟩)
    ·rintro s ⟨rfl,K⟩;unfold Qg;rw [List.take_length] at K;exact B3 (by omega) (Ax ⟨_,V,.inr ⟨V,K⟩⟩)
   ·rintro q (⟨e,rfl,he,g⟩ | ⟨rfl,g⟩)
    ·rw [Sum.elim_inl];exact Ax (iff_of_false he λv=>g v.ds)
    ·rw [Sum.elim_inr];exact Ax (iff_of_true V ⟨by omega,by omega,O,by omega,g⟩)
theorem aU{F:Nat}{o:OW}(K:100<F)(h:NV 40 o):BI (f47 F o) (λr=>r=0↔VO o):=Zx F o▸bf K h
theorem bQ{F:Nat}{o:OW}(K:100<F)(h:VO o):f47 F o=some 0:=by
 obtain⟨r,O,U⟩:=aU K h.nv;rw [O,U.2 h]
theorem Mn{F:Nat}{o:OW}(K:100<F)(h:VO o):f70 F o []=some (o,0):=by
 obtain⟨F,rfl⟩:∃k,F=k+1:=⟨F - 1,by omega⟩;unfold f70;rw [bQ K h]
 rfl
theorem W7(a n:Int):a % n=(a - n) % n:=by
 have h:a=(a - n)+n*1:=by omega
 conv=>lhs;rw [h]
 exact Int.add_mul_emod_self_left _ _ _
theorem Zl{F k n:Nat}{b:Jt}(hb:BG k b)(av:k<900000)(aw:2<=n)(ay:n<900):BI (f40 F b (n:Int)) (λr=>VD n r.1/\BG (k+4) r.2):=by
 unfold f40;refine BH ((n:Int) - 1) V (by omega) (by omega) (Bs (Lb hb (by omega) (by omega)) ?_);rintro⟨x,az⟩ ⟨O,g2,U⟩;simp only at O g2 U ⊢;refine Bs (P5 U (by omega) (by omega) (by omega) (by omega)) ?_;rintro⟨x2,a0⟩ ⟨a1,am,Y⟩;simp only at a1 am Y ⊢;refine Bs (TI Y (by omega) (by simp) (by simp)) ?_;rintro⟨Z,a2⟩ ⟨ac,ag⟩;simp only at ac ag ⊢;refine BH ((n:Int) - 1) V (by omega) (by omega) (Bs (P5 ag (by omega) (by omega) (by omega) (by omega)) ?_);rintro⟨K,a3⟩ ⟨ap,aq,al⟩;simp only at ap aq al ⊢;refine BH (x+K) V (by omega) (by omega) (Bv (b:=(x+K).tmod n) (by unfold Ox;rw [if_neg (by omega)]) ?_);refine Ax ⟨?_,al⟩;have e:(x+K).tmod n=(x+K) % n:=Int.tmod_eq_emod_of_nonneg (by omega);have p3:1<=Z/\Z<=9:=by
  simp only [List.mem_cons,List.not_mem_nil,or_false] at ac;omega
 have a4:(x+K) % (n:Int)<n:=Int.emod_lt_of_pos _ (by omega);have a5:0<=(x+K) % (n:Int):=Int.emod_nonneg _ (by omega);have a6:x≠(x+K) % (n:Int):=by
  rcases Int.lt_or_le (x+K) n with h | h
  ·rw [Int.emod_eq_of_lt (by omega) h];omega
  ·rw [W7,Int.emod_eq_of_lt (by omega) (by omega)];omega
 refine⟨O,?_,?_,?_,?_,p3.1,p3.2⟩ <;> simp only [e] <;> omega
theorem aY{F k:Nat}{b:Jt}{pm dm:Nat}(a6:100<F)(hb:BG k b)(a7:k<1000)(a8:2<=pm)(a9:pm<=5)(hd:dm<=8):BI (f31 F b pm dm) (λr=>VO r.1/\r.1.1.length<=pm/\r.1.2.length<=dm/\BG (k+100) r.2):=by
 unfold f31;refine Bs (P5 hb (by omega) (by omega) (by omega) (by omega)) ?_;rintro⟨n,bb⟩ ⟨n1,n2,ay⟩;simp only at n1 n2 ay ⊢;obtain⟨n,rfl⟩:∃m:Nat,n=(m:Int):=⟨n.toNat,by omega⟩;refine Bs (Z2 ay (by omega) (by omega) (by omega)) ?_;rintro⟨be,bi⟩ g2;simp only at g2 ⊢;refine Bs (S:=λr=>r.2.2.2.length=n/\(∀x∈r.2.2.2,CS x)/\BG (k+30) (r.1,r.2.1,r.2.2.1)) ?_ ?_
 ·refine Ec n (λi s=>s.2.2.2.2=(i:Int)/\s.1.length=i/\(∀x∈s.1,CS x)/\BG (k+2+5*i) (s.2.1,s.2.2.1,s.2.2.2.1)) ⟨V,V,by simp,g2⟩ (by omega) ?_ ?_
  ·rintro i ⟨az,l,t,ag,c⟩ hi ⟨al,am,ap,K⟩;simp only at al am ap K;subst al;unfold N3;refine CJ (by simp only;omega) (Bs (Lb K (by omega) (by omega)) ?_);rintro⟨c,bn⟩ ⟨c1,c2,aq⟩;simp only at c1 c2 aq ⊢;obtain⟨c,rfl⟩:∃m:Nat,c=(m:Int):=⟨c.toNat,by omega⟩;refine Bs (S:=λr=>CS r.1/\BG (k+2+5*i+1+c) r.2) ?_ ?_
   ·refine Ec c (λj s=>s.2.2.2.2=((c - j:Nat):Int)/\s.2.2.2.1.length=j/\(∀v∈s.2.2.2.1,1<=v/\v<=9)/\BG (k+2+5*i+1+j) (s.1,s.2.1,s.2.2.1)) ⟨V,V,by simp,aq⟩ (by omega) ?_ ?_
    ·rintro j ⟨l,t,ag,w,z⟩ a4 ⟨U,hw,O,K⟩;simp only at U hw O K;subst U;unfold N5;refine CJ (by simp only;omega) (Bs (S:=λr=>r.1.length=j+1/\(∀v∈r.1,1<=v/\v<=9)/\BG (k+2+5*i+1+(j+1)) r.2) ?_ ?_)
     ·refine Cn (λ_=>?_) (λ_=>?_)
      ·refine KT (by simp only;omega) (Ax ⟨by simp [hw],?_,K.Ah (by omega)⟩);intro v h;rcases List.mem_append.1 h with h | h
       ·exact O v h
       ·have:=List.mem_singleton.1 h;omega
      ·refine Bs (TI K (by omega) (by simp) (by simp)) ?_;rintro⟨v,a5⟩ ⟨a0,av⟩;simp only at a0 av ⊢;refine KT (by omega) (Ax ⟨by simp [hw],?_,av⟩);intro u h;rcases List.mem_append.1 h with h | h
       ·exact O u h
       ·have:=List.mem_singleton.1 h;subst this;simp only [List.mem_cons,List.not_mem_nil,or_false] at a0;omega
     ·rintro⟨w',l',bo,bv⟩ ⟨Z,aw,ac⟩;simp only at Z ac aw ⊢;exact BH ((c - (j+1):Nat):Int) (by omega) (by omega) (by omega) (Ax ⟨V,Z,aw,ac⟩)
    ·rintro⟨l,t,ag,w,z⟩ ⟨U,hw,O,K⟩;simp only at U hw O K;subst U;unfold N5;exact B3 (by simp) (Ax ⟨_,V,⟨by simp only;omega,O⟩,K⟩)
   ·rintro⟨w,a5⟩ ⟨Z,ac⟩;simp only at Z ac ⊢;refine KT (by omega) (BH ((i+1:Nat):Int) (by simp) (by omega) (by omega) ?_);refine Ax ⟨V,by simp [am],λx Y=>?_,ac.Ah (by omega)⟩;simp only [List.mem_append,List.mem_singleton] at Y;rcases Y with Y | rfl
    ·exact ap x Y
    ·exact Z
  ·rintro⟨az,l,t,ag,c⟩ ⟨al,am,ap,K⟩;simp only at al am ap K;subst al;unfold N3;exact B3 (by simp) (Ax ⟨_,V,am,ap,K.Ah (by omega)⟩)
 ·rintro⟨l,t,ag,az⟩ ⟨p1,p2,aq⟩;simp only at p1 p2 aq ⊢;refine Bs (Lb aq (by omega) (by omega)) ?_;rintro⟨c,bw⟩ ⟨c1,c2,av⟩;simp only at c1 c2 av ⊢;obtain⟨c,rfl⟩:∃m:Nat,c=(m:Int):=⟨c.toNat,by omega⟩;refine Bs (S:=λr=>r.2.2.2.length<=dm/\(∀d∈r.2.2.2,VD n d)/\BG (k+100) (r.1,r.2.1,r.2.2.1)) ?_ ?_
  ·refine Ec c (λj s=>s.2.2.2.2=((c - j:Nat):Int)/\s.1.length=j/\(∀d∈s.1,VD n d)/\BG (k+31+4*j) (s.2.1,s.2.2.1,s.2.2.2.1)) ⟨V,V,by simp,av.Ah (by omega)⟩ (by omega) ?_ ?_
   ·rintro j ⟨a1,l,t,ag,z⟩ a4 ⟨U,hw,O,K⟩;simp only at U hw O K;subst U;unfold NU;refine CJ (by simp only;omega) (Bs (Zl K (by omega) (by omega) (by omega)) ?_);rintro⟨d,bx⟩ ⟨a2,a3⟩;simp only at a2 a3 ⊢;refine BI.MB (by simp;omega) (BH ((c - (j+1):Nat):Int) (by omega) (by omega) (by omega) ?_);refine Ax ⟨V,by simp [hw],?_,a3.Ah (by omega)⟩;intro x Y;rcases List.mem_append.1 Y with Y | Y
    ·exact O x Y
    ·cases List.mem_singleton.1 Y;exact a2
   ·rintro⟨a1,l,t,ag,z⟩ ⟨U,hw,O,K⟩;simp only at U hw O K;subst U;unfold NU;exact B3 (by simp) (Ax ⟨_,V,by simp only;omega,O,K.Ah (by omega)⟩)
  ·rintro⟨l,t,ag,a1⟩ ⟨Z,aw,ac⟩;simp only at Z ac aw ⊢;exact Ax ⟨⟨by simp only;omega,by simp only;omega,p2,by simp only;omega,by simp only;rw [p1];exact aw⟩,by simp only;omega,Z,ac⟩
abbrev PR:=Int×Int
def gN(l:List Int)(i:Nat):Int:=l.getD i 0
def IU(l:List Int)(i v:Int):List Int:=l.set i.toNat (gN l i.toNat+v)
def BN(B:Int)(l:List Int):Prop:=l.length=5/\∀x∈l,-B<=x/\x<=B
theorem NX{l:List Int}{i:Nat}(h:i<l.length):gN l i=l[i]:=by unfold gN;rw [List.getD_eq_getElem?_getD,List.getElem?_eq_getElem h];rfl
theorem BN.bd{B:Int}{l:List Int}(h:BN B l){i:Nat}(hi:i<5): -B<=gN l i/\gN l i<=B:=by
 rw [NX (by have:=h.1;omega)];exact h.2 _ (List.getElem_mem _)
theorem BN.ix{B:Int}{l:List Int}(h:BN B l){i:Int}(K:0<=i)(hi:i<5):ix l i=some (gN l i.toNat):=by
 have:=h.1;rw [NX (show i.toNat<l.length by omega)];exact JY (m:=i.toNat) (by omega) (List.getElem?_eq_getElem _)
theorem BN.Ah{B C:Int}{l:List Int}(h:BN B l)(O:B<=C):BN C l:=⟨h.1,λx K=>by have:=h.2 x K;omega⟩
theorem BN.add{B V:Int}{l:List Int}(h:BN B l){i v:Int}(O:0<=i)(hi:i<5)(U: -V<=v)(Y:v<=V):BN (B+V) (IU l i v):=by
 have hb:=h.bd (i:=i.toNat) (by omega);refine⟨by unfold IU;rw [List.length_set];exact h.1,λx K=>?_⟩;rcases List.mem_or_eq_of_mem_set K with K | rfl
 ·have:=h.2 x K;omega
 ·omega
theorem T4{l:List Int}{i v:Int}(h:l.length=5)(K:0<=i)(hi:i<5)(j:Nat):gN (IU l i v) j=gN l j+if(j:Int)=i then v else 0:=by
 unfold IU gN;rw [List.getD_eq_getElem?_getD,List.getElem?_set,List.getD_eq_getElem?_getD,List.getD_eq_getElem?_getD];by_cases e:i.toNat=j
 ·rw [if_pos e,if_pos (by omega),if_pos (by omega),e];rfl
 ·rw [if_neg e,if_neg (by omega),Int.add_zero]
theorem Xn{l l':List Int}(h:l.length=5)(U:l'.length=5)(k:∀j,j<5->gN l j=gN l' j):l=l':=by
 refine List.ext_getElem (by omega) λj K O=>?_;rw [← NX K,← NX O];exact k j (by omega)
def Ow(l:List Int)(d:DT):List Int:=IU (IU l d.1 d.2.2) d.2.1 (-d.2.2)
def Ky(l:List Int)(d:DT):List Int:=IU (IU l d.2.1 d.2.2) d.1 (-d.2.2)
def CL(o:OW):List Int:=o.2.foldl Ky (List.replicate 5 0)
theorem Ti{F:Nat}{B:Int}{l:List Int}{d:DT}(h:BN B l)(a1:0<=d.1)(O:d.1<5)(U:0<=d.2.1)(Y:d.2.1<5)(p1: -B<=d.2.2)(p2:d.2.2<=B)(Z:B<=1000000000000):f204 F l d=some (Ow l d)/\BN (3*B) (Ow l d):=by
 have K:=h.add a1 O p1 p2;have g2:=K.add U Y (show -B<= -d.2.2 by omega) (by omega);have k1:=h.bd (i:=d.1.toNat) (by omega);have ac:=K.bd (i:=d.2.1.toNat) (by omega);refine⟨?_,g2.Ah (by omega)⟩;refine Ex ?_;unfold f204;refine Bv (h.ix a1 O) ?_;refine BH _ V (by omega) (by omega) ?_;refine Bv (h.ix a1 O) ?_;refine Bv (K.ix U Y) ?_;refine BH _ V (by omega) (by omega) ?_;refine Bv (K.ix U Y) ?_;exact Ax V
theorem Lf{F:Nat}{o:OW}(ac:100<F)(h:VO o):f84 F o=some (CL o)/\BN 200 (CL o):=by
 have ag:=h.n5;have al:=h.d8;have:BI (f84 F o) (λr=>r=CL o/\BN 200 r):=by
  unfold f84;refine Bs (S:=λr=>r=CL o/\BN 200 r) ?_ (λr U=>Ax U);refine Ec o.2.length (λi s=>s.2=(i:Int)/\s.1=(o.2.take i).foldl Ky (List.replicate 5 0)/\BN (20*i) s.1) ⟨rfl,rfl,rfl,by simp⟩ (by omega) ?_ ?_
  ·rintro i ⟨w,c⟩ hi ⟨K,hw,hb⟩;simp only at K hw hb;subst K;obtain⟨v1,v2,am,v4,ap,v6,aq⟩:=h.ds _ (List.getElem_mem hi);have O:=hb.add (i:=o.2[i].2.1) (v:=o.2[i].2.2) (V:=10) (by omega) (by omega) (by omega) (by omega);have g2:=O.add (i:=o.2[i].1) (v:= -o.2[i].2.2) (V:=10) (by omega) (by omega) (by omega) (by omega);have k1:=hb.bd (i:=o.2[i].2.1.toNat) (by omega);have av:=O.bd (i:=o.2[i].1.toNat) (by omega);unfold Oa;refine CJ (by simp only;omega) (Ds (m:=i) rfl hi ?_);refine Bv (hb.ix (by omega) (by omega)) (BH _ rfl (by omega) (by omega) ?_);refine Bv (hb.ix (by omega) (by omega)) (Bv (O.ix (by omega) (by omega)) ?_);refine BH _ rfl (by omega) (by omega) (Bv (O.ix (by omega) (by omega)) ?_);refine BH ((i+1:Nat):Int) (by simp) (by omega) (by omega) (Ax ⟨rfl,?_,g2.Ah (by omega)⟩);simp only;rw [List.take_add_one,List.getElem?_eq_getElem hi,List.foldl_append,← hw]
   rfl
  ·rintro⟨w,c⟩ ⟨K,hw,hb⟩;simp only at K hw hb;subst K;unfold Oa;rw [List.take_length] at hw;exact B3 (by simp) (Ax ⟨_,rfl,hw,hb.Ah (by omega)⟩)
 obtain⟨r,Y,rfl,Z⟩:=this;exact⟨Y,Z⟩
theorem X8{l:List Int}{i:Nat}(hi:i<l.length):(l.take (i+1)).sum=(l.take i).sum+l[i]:=by
 rw [List.take_add_one,List.getElem?_eq_getElem hi,List.sum_append];simp only [Option.toList_some,List.sum_cons,List.sum_nil];omega
theorem aM{F:Nat}{l:List Int}(ag:100<F)(al:l.length<=20)(hb:∀x∈l,-1000<=x/\x<=1000):f85 F l=some l.sum/\ -20000<=l.sum/\l.sum<=20000:=by
 have:BI (f85 F l) (λr=>r=l.sum/\ -20000<=r/\r<=20000):=by
  unfold f85;refine Bs (S:=λr=>r=l.sum/\ -20000<=r/\r<=20000) ?_ (λr Y=>Ax Y);refine Ec l.length (λi s=>s.2=(i:Int)/\s.1=(l.take i).sum/\ -(1000*(i:Int))<=s.1/\s.1<=1000*(i:Int)) ⟨V,V,by simp,by simp⟩ (by omega) ?_ ?_
  ·rintro i ⟨w,c⟩ hi ⟨K,hw,O,U⟩;simp only at K hw O U;subst K;have am:=hb _ (List.getElem_mem hi);unfold NR;refine CJ (by simp only;omega) (Ds (m:=i) V hi ?_);refine BH _ V (by omega) (by omega) (BH ((i+1:Nat):Int) (by simp) (by omega) (by omega) ?_);refine Ax ⟨V,?_,?_,?_⟩
   ·simp only;rw [X8 hi,hw]
   ·simp only;omega
   ·simp only;omega
  ·rintro⟨w,c⟩ ⟨K,hw,O,U⟩;simp only at K hw O U;subst K;unfold NR;rw [List.take_length] at hw;exact B3 (by simp) (Ax ⟨_,V,hw,by simp only;omega,by simp only;omega⟩)
 obtain⟨r,Z,rfl,ac⟩:=this;exact⟨Z,ac⟩
def VP(n:Nat)(x:PR):Prop:=0<=x.1/\x.1<x.2/\x.2<(n:Int)
def Is(b:Nat)(k:Nat):List PR:=(List.range k).map λa:Nat=>((a:Int),(b:Int))
def ER(n:Nat):List PR:=(List.range n).flatMap λb=>Is b b
theorem V9(b k:Nat):Is b (k+1)=Is b k++ [((k:Int),(b:Int))]:=by unfold Is;rw [List.range_succ,List.map_append];rfl
theorem Vp(n:Nat):ER (n+1)=ER n++Is n n:=by unfold ER;rw [List.range_succ,List.flatMap_append];simp
theorem SA{n:Nat}{x:PR}(h:x∈ER n):VP n x:=by
 unfold ER Is at h;obtain⟨b,hb,h⟩:=List.mem_flatMap.1 h;obtain⟨a,K,rfl⟩:=List.mem_map.1 h;have:=List.mem_range.1 hb;have:=List.mem_range.1 K;exact⟨by simp only;omega,by simp only;omega,by simp only;omega⟩
theorem SH(b k:Nat):(Is b k).length=k:=by unfold Is;simp
theorem Rx{n:Nat}(h:n<=5):(ER n).length<=10:=by
 have e:∀n,n<=5->(ER n).length<=n*2:=by
  intro n K
  match n,K with
  | 0,_ | 1,_ | 2,_ | 3,_ | 4,_ | 5,_=>decide
 have:=e n h;omega
theorem YX{F:Nat}{o:OW}(Z:100<F)(ac:o.1.length<=5):f133 F o=some (ER o.1.length):=by
 refine Ex ?_;unfold f133;refine Bs (S:=λr=>r=ER o.1.length) ?_ (λr Y=>Ax Y);refine Ec o.1.length (λi s=>s.2=(i:Int)/\s.1=ER i/\s.1.length<=10*i) ⟨V,V,by simp⟩ (by omega) ?_ ?_
 ·rintro i ⟨w,c⟩ hi ⟨K,hw,U⟩;simp only at K hw U;subst K;unfold Nu;refine CJ (by simp only;omega) (Bs (S:=λr=>r=ER i++Is i i) ?_ ?_)
  ·refine Ec i (λa s=>s.2=(a:Int)/\s.1=ER i++Is i a) ⟨V,by simp [Is,hw]⟩ (by omega) ?_ ?_
   ·rintro a ⟨v,c⟩ ag ⟨K,O⟩;simp only at K O;subst K;unfold NA;refine CJ (by simp only;omega) (KT ?_ ?_)
    ·rw [O,← hw,List.length_append,SH];omega
    refine BH ((a+1:Nat):Int) (by simp) (by omega) (by omega) (Ax ⟨V,?_⟩);simp only;rw [V9,O,List.append_assoc]
   ·rintro⟨v,c⟩ ⟨K,O⟩;simp only at K O;subst K;unfold NA;exact B3 (by simp) (Ax ⟨_,V,O⟩)
  ·rintro r rfl;refine BH ((i+1:Nat):Int) (by simp) (by omega) (by omega) (Ax ⟨V,(Vp i).symm,?_⟩);simp only;rw [List.length_append,SH,← hw];omega
 ·rintro⟨w,c⟩ ⟨K,hw,U⟩;simp only at K hw U;subst K;unfold Nu;exact B3 (by simp) (Ax ⟨_,V,hw⟩)
def BZ(p:Int)(x:PR):Bool:=decide (x.1=p) || decide (x.2=p)
theorem Q2{α:Type}{p:α->Bool}:∀{l:List α} {a:Nat},l.countP p=1->∀O:a<l.length,p l[a]=true->l.findIdx p=a
 | x::xs,0,_,_,K=>by
  have K:p x=true:=K
  rw [List.findIdx_cons,K];rfl
 | x::xs,a+1,h,O,K=>by
  have K:p (xs[a]'(by simpa using O))=true:=K
  have Y:0<xs.countP p:=List.countP_pos_iff.2 ⟨_,List.getElem_mem _,K⟩
  by_cases U:p x=true
  ·rw [List.countP_cons_of_pos U] at h;omega
  ·rw [List.countP_cons_of_neg U] at h;rw [List.findIdx_cons,Bool.eq_false_iff.2 U];simp only [cond_false];rw [Q2 h (by simpa using O) K]
def Kw(n:Nat)(l:List PR):Option Nat:=(List.range n).find? λp=>l.countP (BZ p)==1
def dP(p:Int)(x:PR)(m:Int):DT:=if 0<m then(x.1+x.2 - p,p,m) else(p,x.1+x.2 - p,-m)
def Gs(n:Nat):Nat->List PR->List Int->List DT->Option (List DT)
 | 0,_,w,out=>if w=List.replicate 5 0 then some out else none
 | k+1,l,w,out=>(Kw n l).bind λp=>
   if gN w p=0 then none else
    Gs n k (l.eraseIdx (l.findIdx (BZ p))) (Ow w (dP p (l.getD (l.findIdx (BZ p)) (0,0)) (gN w p))) (out++ [dP p (l.getD (l.findIdx (BZ p)) (0,0)) (gN w p)])
def My:Option (List DT)->Bool×List Int×List DT
 | none=>(true,default)
 | some out=>(false,List.replicate 5 0,out)
theorem WW{F:Nat}{l:List PR}{p:Int}(am:100<F)(ap:l.length<=20):BI (Pal.iter (L8 F l p) F (0,0,0)) (λr=>r.2=((l.countP (BZ p):Nat):Int)/\(r.2=1->r.1=(l.findIdx (BZ p):Nat)/\l.findIdx (BZ p)<l.length)):=by
 refine Ec l.length (λi s=>s.2.2=(i:Int)/\s.2.1=(((l.take i).countP (BZ p):Nat):Int)/\(s.2.1≠0->∃a,s.1=((a:Nat):Int)/\∃h:a<l.length,BZ p l[a]=true)) ⟨V,by simp,by simp⟩ (by omega) ?_ ?_
 ·rintro i ⟨a,m,c⟩ hi ⟨K,hm,O⟩;simp only at K hm O;subst K;have hle:(l.take i).countP (BZ p)<=i:=by
   refine Nat.le_trans List.countP_le_length ?_;rw [List.length_take];omega
  unfold L8;refine CJ (by simp only;omega) (Ds (m:=i) V hi ?_);refine Bs (S:=λc=>c=BZ p l[i]) ?_ ?_
  ·unfold BZ;refine Cn (λh=>Ax (by simp [h])) (λh=>Ax (by simp [h]))
  rintro c rfl;have key:(l.take (i+1)).countP (BZ p)=(l.take i).countP (BZ p)+if BZ p l[i]=true then 1 else 0:=by
   rw [List.take_add_one,List.getElem?_eq_getElem hi,List.countP_append];simp only [Option.toList_some,List.countP_cons,List.countP_nil,Nat.zero_add]
  refine Bs (S:=λr=>r.2=(((l.take (i+1)).countP (BZ p):Nat):Int)/\(r.2≠0->∃a,r.1=((a:Nat):Int)/\∃h:a<l.length,BZ p l[a]=true)) ?_ ?_
  ·refine Cn (λh=>?_) (λh=>?_)
   ·refine BH (((l.take (i+1)).countP (BZ p):Nat):Int) ?_ (by omega) ?_ (Ax ⟨V,λ_=>⟨i,V,hi,h⟩⟩)
    ·rw [key,if_pos h,hm];rfl
    ·rw [key,if_pos h];omega
   ·exact Ax ⟨by rw [key,if_neg h];exact hm,O⟩
  ·rintro⟨aq,m'⟩ ⟨U,Y⟩;simp only at U Y ⊢;exact BH ((i+1:Nat):Int) (by simp) (by omega) (by omega) (Ax ⟨V,U,Y⟩)
 ·rintro⟨a,m,c⟩ ⟨K,hm,O⟩;simp only at K hm O;subst K;rw [List.take_length] at hm;unfold L8;refine B3 (by simp) (Ax ⟨_,V,hm,λac=>?_⟩);simp only at ac;obtain⟨k,ag,Z,al⟩:=O (by omega);have:=Q2 (p:=BZ p) (l:=l) (a:=k) (by omega) Z al;simp only;rw [this];exact⟨ag,Z⟩
theorem VW{n:Nat}{l:List PR}{i:Nat}(hi:i<n)(K:l.countP (BZ i)=1)(h:∀p,p<i->l.countP (BZ p)≠1):Kw n l=some i:=by
 unfold Kw;rw [List.find?_range_eq_some];exact⟨by simp [K],List.mem_range.2 hi,λj O=>by simpa using h j O⟩
theorem VA{n:Nat}{l:List PR}(h:∀p,p<n->l.countP (BZ p)≠1):Kw n l=none:=by
 unfold Kw;rw [List.find?_eq_none];intro p K;simpa using h p (List.mem_range.1 K)
theorem UG{n:Nat}{p:Nat}{x:PR}{m B:Int}(U:n<=5)(O:VP n x)(K:BZ p x=true)(Y: -B<=m)(Z:m<=B):0<=(dP p x m).1/\(dP p x m).1<5/\0<=(dP p x m).2.1/\(dP p x m).2.1<5/\0<=(dP p x m).2.2/\(dP p x m).2.2<=B:=by
 obtain⟨v1,v2,ac⟩:=O;unfold BZ at K;simp at K;unfold dP;split <;> simp only <;> omega
theorem SF{α:Type}{l:List α}{i:Nat}{d:α}(h:i<l.length):l.getD i d=l[i]:=by rw [List.getD_eq_getElem?_getD,List.getElem?_eq_getElem h];rfl
theorem Ta{F n:Nat}{q:OW}(Z:100<F)(az:q.1.length=n)(am:n<=5):∀(k N:Nat) (l:List PR) (w:List Int) (out:List DT) (B:Int),l.length=k->k<N->k<=10->(∀x∈l,VP n x)->BN B w->0<=B->B*3 ^ k<=1000000000000->out.length+k<=100->Lh N F l w q out=some (My (Gs n k l w out))
 | 0,N,l,w,out,B,a0,a1,_,ac,hw,ap,aq,a2=>by
  obtain⟨N,rfl⟩:∃k,N=k+1:=⟨N - 1,by omega⟩
  refine Ex ?_
  simp only [Lh]
  unfold Ml Gs
  refine CJ (by omega) ?_
  refine Cn (λh=>Ax ?_) (λh=>Ax ?_)
  ·rw [if_neg h];rfl
  ·have h:=Decidable.not_not.1 h;rw [if_pos h,h];rfl
 | k+1,N,l,w,out,B,a0,a1,bo,ac,hw,ap,aq,a2=>by
  obtain⟨N,rfl⟩:∃k,N=k+1:=⟨N - 1,by omega⟩;refine Ex ?_;simp only [Lh];unfold Ml;refine B3 (by omega) ?_;have a3:B*3 ^ (k+1)=(3*B)*3 ^ k:=by rw [Int.pow_succ];rw [Int.mul_comm (3 ^ k) 3,← Int.mul_assoc,Int.mul_comm B 3]
  have a4:B<=1000000000000:=by
   have ag:(1:Int)<=3 ^ (k+1):=by
    have:(0:Int)<3 ^ (k+1):=Int.pow_pos (by decide);omega
   have:=Int.mul_le_mul_of_nonneg_left ag ap;omega
  refine Bs (S:=λr=>r=Sum.inl (My (Gs n (k+1) l w out))∨(r=Sum.inr ()/\Kw n l=none)) ?_ ?_
  ·refine Ec n (λi s=>s=(i:Int)/\∀p,p<i->l.countP (BZ (p:Nat))≠1) ⟨V,by simp⟩ (by omega) ?_ ?_
   ·rintro i s hi ⟨rfl,O⟩;unfold Nw;refine CJ (by omega) (Bs (S:=λr=>(r=Sum.inr ()/\l.countP (BZ i)≠1)∨r=Sum.inl (My (Gs n (k+1) l w out))) ?_ ?_)
    ·refine Bs (WW Z (by omega)) ?_;rintro⟨a,m⟩ ⟨av,U⟩;simp only at av U ⊢;refine Cn (λh=>Ax (.inl ⟨V,λag=>h (by rw [av,ag];rfl)⟩)) (λh=>?_);have h:=Decidable.not_not.1 h;obtain⟨U,K⟩:=U h;have a5:l.countP (BZ i)=1:=by omega
     subst U;have a6:=VW hi a5 O;refine Ds (m:=l.findIdx (BZ i)) V K (Ds (m:=l.findIdx (BZ i)) V K ?_);have a7:BZ i l[l.findIdx (BZ i)]=true:=List.findIdx_getElem;have Y:=ac _ (List.getElem_mem K);have a8:=Y;obtain⟨bv,x2,bw⟩:=a8;have hb:=hw.bd (i:=i) (by omega);refine BH (-(i:Int)) V (by omega) (by omega) (Bv (hw.ix (by omega) (by omega)) ?_);rw [show Int.toNat (i:Int)=i by omega];refine Bv (aM (l:= [_,_,_]) Z (by simp) (by simp;omega)).1 (BH (-(gN w i)) V (by omega) (by omega) ?_);have aw:Gs n (k+1) l w out=if gN w i=0 then none else Gs n k (l.eraseIdx (l.findIdx (BZ i))) (Ow w (dP i l[l.findIdx (BZ i)] (gN w i))) (out++ [dP i l[l.findIdx (BZ i)] (gN w i)]):=by
      simp only [Gs,a6,Option.bind_some,SF K]
     refine Cn (λh=>Ax (.inr ?_)) (λh=>?_)
     ·rw [aw,if_pos (by omega)];rfl
     have ay:=aw;rw [if_neg (show ¬gN w i=0 by omega)] at ay;rw [ay];refine Bs (S:=λr=>r=dP i l[l.findIdx (BZ i)] (gN w i)) ?_ ?_
     ·unfold dP;refine Cn (λh=>?_) (λh=>?_)
      ·refine BH (gN w i) (by omega) (by omega) (by omega) (Ax ?_);rw [if_pos (by omega)];simp only [List.sum_cons,List.sum_nil];refine Prod.ext ?_ V;simp only;omega
      ·refine Ax ?_;rw [if_neg (by omega)];simp only [List.sum_cons,List.sum_nil];refine Prod.ext V (Prod.ext ?_ V);simp only;omega
     rintro d rfl;obtain⟨a9,e2,bb,be,bx,bi⟩:=UG am Y a7 hb.1 hb.2;obtain⟨bn,g2⟩:=Ti (F:=F) hw a9 e2 bb be (by omega) bi a4;refine Bv bn (BI.MB (by simp;omega) ?_);refine Bv (b:=l.take (l.findIdx (BZ i))) (by unfold GR;rw [if_pos (by omega)];simp) (BH ((l.findIdx (BZ i)+1:Nat):Int) (by simp) (by omega) (by omega) ?_);refine Bv (b:=l.drop (l.findIdx (BZ i)+1)) ?_ ?_
     ·unfold GR;rw [if_pos (by omega),show Int.toNat (l.length:Int)=l.length by omega,List.take_length,show Int.toNat ((l.findIdx (BZ i)+1:Nat):Int)=l.findIdx (BZ i)+1 by omega]
     refine BI.MB (by simp;omega) ?_;have he:l.take (l.findIdx (BZ i))++l.drop (l.findIdx (BZ i)+1)=l.eraseIdx (l.findIdx (BZ i)):=(List.eraseIdx_eq_take_drop_succ _ _).symm;rw [he];have hle:(l.eraseIdx (l.findIdx (BZ i))).length=k:=by rw [List.length_eraseIdx_of_lt K];omega
     refine Bv (Ta Z az am k N _ _ _ (3*B) hle (by omega) (by omega) (λx Y=>ac x (List.mem_of_mem_eraseIdx Y)) g2 (by omega) (by rw [← a3];exact aq) (by simp;omega)) ?_;rcases Gs n k _ _ _ with _ | r
     ·exact CJ V (Ax (.inr V))
     ·exact B3 (by simp [My]) (Ax (.inr V))
    ·rintro r (⟨rfl,h⟩ | rfl)
     ·rw [Sum.elim_inr];refine BH ((i+1:Nat):Int) (by simp) (by omega) (by omega) (Ax ⟨V,λp al=>?_⟩);rcases Nat.lt_succ_iff_lt_or_eq.1 al with al | rfl
      ·exact O p al
      ·exact h
     ·rw [Sum.elim_inl];exact Ax (.inl V)
   ·rintro s ⟨rfl,O⟩;unfold Nw;exact B3 (by omega) (Ax ⟨_,V,.inr ⟨V,VA O⟩⟩)
  ·rintro r (rfl | ⟨rfl,h⟩)
   ·rw [Sum.elim_inl];exact Ax V
   ·rw [Sum.elim_inr];refine Ax ?_;simp only [Gs,h,Option.bind_none]
    rfl
def BD(d:DT):Prop:= -1000000000000000<=d.1/\d.1<=1000000000000000/\ -1000000000000000<=d.2.1/\d.2.1<=1000000000000000/\ -1000000000000000<=d.2.2/\d.2.2<=1000000000000000
theorem Pw{n:Nat}(ac:n<=5):∀(k:Nat) (l:List PR) (w:List Int) (out r:List DT) (B:Int),l.length=k->(∀x∈l,VP n x)->BN B w->0<=B->B*3 ^ k<=1000000000000->(∀d∈out,BD d)->Gs n k l w out=some r->(∀d∈r,BD d)/\r.length=out.length+k
 | 0,l,w,out,r,B,ap,O,hw,ag,al,U,h=>by
  unfold Gs at h
  split at h
  ·cases h;exact⟨U,V⟩
  ·cases h
 | k+1,l,w,out,r,B,ap,O,hw,ag,al,U,h=>by
  have aq:B*3 ^ (k+1)=(3*B)*3 ^ k:=by rw [Int.pow_succ];rw [Int.mul_comm (3 ^ k) 3,← Int.mul_assoc,Int.mul_comm B 3]
  have av:B<=1000000000000:=by
   have aw:(1:Int)<=3 ^ (k+1):=by
    have:(0:Int)<3 ^ (k+1):=Int.pow_pos (by decide);omega
   have:=Int.mul_le_mul_of_nonneg_left aw ag;omega
  unfold Gs at h;obtain⟨p,am,h⟩:=bind_some h;split at h
  ·cases h
  unfold Kw at am;obtain⟨c1,c2,c3⟩:=List.find?_range_eq_some.1 am;have a3:l.countP (BZ p)=1:=by simpa using c1
  have c2:=List.mem_range.1 c2;have Y:l.findIdx (BZ p)<l.length:=by
   obtain⟨x,K,Z⟩:=List.countP_pos_iff.1 (show 0<l.countP (BZ p) by omega);exact List.findIdx_lt_length_of_exists ⟨x,K,Z⟩
  rw [SF Y] at h;have Z:BZ p l[l.findIdx (BZ p)]=true:=List.findIdx_getElem;have K:=O _ (List.getElem_mem Y);have hb:=hw.bd (i:=p) (by omega);obtain⟨ay,e2,az,a0,a4,a1⟩:=UG ac K Z hb.1 hb.2;obtain⟨a5,g2⟩:=Ti (F:=0) hw ay e2 az a0 (by omega) a1 av;obtain⟨k1,a2⟩:=Pw ac k _ _ _ r (3*B) (by rw [List.length_eraseIdx_of_lt Y];omega) (λx K=>O x (List.mem_of_mem_eraseIdx K)) g2 (by omega) (by rw [← aq];exact al) (by
   intro d hd
   rcases List.mem_append.1 hd with hd | hd
   ·exact U d hd
   ·cases List.mem_singleton.1 hd
    refine⟨?_,?_,?_,?_,?_,?_⟩ <;> omega) h
  refine⟨k1,?_⟩;rw [a2];simp;omega
theorem Ri{α:Type}(l:List α):l= []∨∃A y,l=A++ [y]:=by
 rcases List.eq_nil_or_concat l with h | ⟨A,y,h⟩
 ·exact .inl h
 ·exact .inr ⟨A,y,by rw [h,List.concat_eq_append]⟩
def OB{α:Type}(less:α->α->Option Bool)(s:Int×List α):Option (Br (Int×List α) (List α)):=
 Option.bind (
  if 0<s.1 then(
   (ix s.2 (s.1)).bind λx=>
   (Av (s.1 - 1)).bind λj=>
   (ix s.2 (j)).bind λy=>
   (less x y).bind λc=>
   some c
  ) else(
   some false
  )
 ) λc=>
 if c=true then(
  (Av (s.1 - 1)).bind λj=>
  (Av (s.1 - 1)).bind λk=>
  (ix s.2 (k)).bind λy=>
  (ix s.2 (s.1)).bind λx=>
  (ix (s.2.set (Int.toNat s.1) y) (j)).bind λ_=>
  (Av (s.1 - 1)).bind λm=>
  some (.more (m,((s.2.set (Int.toNat s.1) y).set (Int.toNat j) x)))
 ) else(
  some (.done s.2)
 )
theorem Yv{α:Type}{less:α->α->Option Bool}{lt:α->α->Bool}{F:Nat}{P:List α}{x:α}(R:List α)(aw:P.length<F)(ay:P.length<=1024)(ap:∀y∈P,less x y=some (lt x y)):
  BI (Pal.iter (OB less) F ((P.length:Int),P++x::R)) (λr=>∃A B,P=A++B/\r=A++x::(B++R)/\(∀b∈B,lt x b=true)/\(A= []∨∃K y,A=K++ [y]/\lt x y=false)):=by
 refine Ps (λm s=>∃A B,A.length=m/\s.1=((m:Nat):Int)/\s.2=A++x::(B++R)/\P=A++B/\∀b∈B,lt x b=true) ?_ (m:=P.length) ⟨P,[],V,V,V,by simp,by simp⟩ (by omega);rintro m ⟨c,v⟩ ⟨A,B,U,ag,O,Y,al⟩;simp only at ag O;subst ag;have az:A.length+B.length=P.length:=by rw [Y,List.length_append]
 have am:v[m]? =some x:=by rw [O,List.getElem?_append_right (by omega),U,Nat.sub_self];rfl
 unfold OB;refine Bs (S:=λc=>(c=true/\∃K y,A=K++ [y]/\lt x y=true)∨(c=false/\(A= []∨∃K y,A=K++ [y]/\lt x y=false))) ?_ ?_
 ·refine Cn (λh=>?_) (λh=>?_)
  ·simp only at h;rcases Ri A with rfl | ⟨K,y,rfl⟩
   ·simp at U;omega
   have aq:K.length+1=m:=by simpa using U
   have ac:v[m - 1]? =some y:=by rw [O,List.append_assoc,List.getElem?_append_right (by omega),show m - 1 - K.length=0 by omega];rfl
   refine Bv (JY V am) (BH ((m - 1:Nat):Int) (by simp only;omega) (by omega) (by omega) ?_);refine Bv (JY V ac) (Bv (ap y (by rw [Y];simp)) ?_);refine Ax ?_;cases Z:lt x y with
   | true=>exact .inl ⟨rfl,K,y,rfl,Z⟩
   | false=>exact .inr ⟨rfl,.inr ⟨K,y,rfl,Z⟩⟩
  ·refine Ax (.inr ⟨V,.inl ?_⟩);cases A with
   | nil=>rfl
   | cons a A=>simp at U h;omega
 ·rintro c (⟨rfl,K,y,rfl,Z⟩ | ⟨rfl,av⟩)
  ·have aq:K.length+1=m:=by simpa using U
   have ac:v[m - 1]? =some y:=by rw [O,List.append_assoc,List.getElem?_append_right (by omega),show m - 1 - K.length=0 by omega];rfl
   have a0:m<v.length:=by rw [O];simp;omega
   refine CJ V (BH ((m - 1:Nat):Int) (by simp only;omega) (by omega) (by omega) ?_);refine BH ((m - 1:Nat):Int) (by simp only;omega) (by omega) (by omega) (Bv (JY V ac) ?_);refine Bv (JY V am) (Ds (m:=m - 1) V (by simp only [List.length_set];omega) ?_);refine BH ((m - 1:Nat):Int) (by simp only;omega) (by omega) (by omega) (Ax ⟨m - 1,by omega,K,y::B,by omega,V,?_,by rw [Y];simp,λb hb=>?_⟩)
   ·simp only;rw [show Int.toNat ((m:Nat):Int)=K.length+1 by omega,show Int.toNat ((m - 1:Nat):Int)=K.length by omega,O];simp
   ·rcases List.mem_cons.1 hb with rfl | hb
    ·exact Z
    ·exact al b hb
  ·exact B3 (by simp) (Ax ⟨A,B,Y,O,al,av⟩)
def Gz(a b:DT):Bool:=decide (a.1<b.1∨(a.1=b.1/\(a.2.1<b.2.1∨(a.2.1=b.2.1/\a.2.2<b.2.2))))
theorem Tp{a b:DT}:Gz a b=true↔a.1<b.1∨(a.1=b.1/\(a.2.1<b.2.1∨(a.2.1=b.2.1/\a.2.2<b.2.2))):=by unfold Gz;exact decide_eq_true_iff
theorem JR{a b:DT}:Gz a b=false↔¬(a.1<b.1∨(a.1=b.1/\(a.2.1<b.2.1∨(a.2.1=b.2.1/\a.2.2<b.2.2)))):=by unfold Gz;exact decide_eq_false_iff_not
theorem Tz{F:Nat}{a b:DT}(K:BD a)(hb:BD b):BI (f113 F a b) (λc=>(c<0↔Gz a b=true)/\(c=0↔a=b)):=by
 obtain⟨a1,O,U,Y,Z,ac⟩:=K;obtain⟨ag,al,am,ap,aq,av⟩:=hb;obtain⟨ax,ay,az⟩:=a;obtain⟨a0,a2,a3⟩:=b;simp only at a1 O U Y Z ac ag al am ap aq av;unfold f113;simp only [Tp,Prod.mk.injEq];refine Cn (λh=>?_) (λh=>?_)
 ·exact BH _ V (by omega) (by omega) (Ax ⟨by omega,by omega⟩)
 refine Cn (λaw=>?_) (λaw=>?_)
 ·exact BH _ V (by omega) (by omega) (Ax ⟨by omega,by omega⟩)
 ·exact BH _ V (by omega) (by omega) (Ax ⟨by omega,by omega⟩)
def F1(x:DT):List DT->List DT
 | []=> [x]
 | y::ys=>if Gz x y=true then x::y::ys else y::F1 x ys
def Es(l:List DT):List DT:=l.foldl (λa x=>F1 x a) []
def Lz(l:List DT):Prop:=l.Pairwise λa b=>Gz b a=false
theorem Pr{x d:DT}:∀{l:List DT},d∈F1 x l↔d=x∨d∈l
 | []=>by simp [F1]
 | y::ys=>by
  unfold F1
  split
  ·simp
  ·rw [List.mem_cons,Pr,List.mem_cons];constructor
   ·rintro(h | h | h)
    ·exact .inr (.inl h)
    ·exact .inl h
    ·exact .inr (.inr h)
   ·rintro(h | h | h)
    ·exact .inr (.inl h)
    ·exact .inl h
    ·exact .inr (.inr h)
theorem Sl{x:DT}:∀{l:List DT},(F1 x l).length=l.length+1
 | []=>rfl
 | y::ys=>by
  unfold F1
  split
  ·rfl
  ·rw [List.length_cons,Sl];rfl
theorem Tk{x:DT}:∀{l:List DT},Lz l->Lz (F1 x l)
 | [],_=>List.pairwise_singleton _ _
 | y::ys,h=>by
  obtain⟨U,Y⟩:=List.pairwise_cons.1 h
  unfold F1
  split
  ·rename_i O
   refine List.pairwise_cons.2 ⟨λz K=>?_,h⟩;have O:=Tp.1 O;rcases List.mem_cons.1 K with rfl | K
   ·rw [JR];omega
   ·have:=JR.1 (U z K);rw [JR];omega
  ·rename_i O;refine List.pairwise_cons.2 ⟨λz K=>?_,Tk Y⟩;rcases Pr.1 K with rfl | K
   ·exact Bool.eq_false_iff.2 O
   ·exact U z K
theorem S8{x:DT}{B:List DT}(K:∀b∈B,Gz x b=true):∀{A:List DT},(∀a∈A,Gz x a=false)->F1 x (A++B)=A++x::B
 | [],_=>by
  cases B with
  | nil=>rfl
  | cons b bs=>simp only [List.nil_append,F1,K b List.mem_cons_self,if_true]
 | a::A,O=>by
  have U:=O a List.mem_cons_self
  simp only [List.cons_append,F1,U]
  rw [if_neg (by decide),S8 K λz Y=>O z (List.mem_cons_of_mem _ Y)]
theorem LR(l:List DT)(x:DT):Es (l++ [x])=F1 x (Es l):=by unfold Es;rw [List.foldl_append];rfl
theorem Tn:∀{k:Nat},k<=10->(3:Int) ^ k<=59049
 | 0,_ | 1,_ | 2,_ | 3,_ | 4,_ | 5,_ | 6,_ | 7,_ | 8,_ | 9,_ | 10,_=>by decide
 | _+11,h=>absurd h (by omega)
theorem L4{α:Type}{P:List α->Prop}(O:P [])(U:∀l x,P l->P (l++ [x])):∀l,P l:=by
 have:∀n (l:List α),l.length=n->P l:=by
  intro n
  induction n with
  | zero=>intro l K;cases List.length_eq_zero_iff.1 K;exact O
  | succ n Y=>
   intro l K;rcases Ri l with rfl | ⟨l',x,rfl⟩
   ·cases K
   ·exact U _ _ (Y _ (by simpa using K))
 exact λl=>this _ l V
theorem SD(l:List DT):Lz (Es l):=L4 (P:=λl=>Lz (Es l)) List.Pairwise.nil (λl x h=>by rw [LR];exact Tk h) l
theorem RD{d:DT}(l:List DT):d∈Es l↔d∈l:=L4 (P:=λl=>d∈Es l↔d∈l) (Iff.rfl) (λl x h=>by rw [LR,Pr,h];simp [or_comm]) l
theorem R1(l:List DT):(Es l).length=l.length:=L4 (P:=λl=>(Es l).length=l.length) V (λl x h=>by rw [LR,Sl,h];simp) l
theorem Wz(F:Nat):Nr F 0=OB λx y=>(f113 F x y).bind λc=>some (decide (c<0)):=by
 funext s;unfold Nr OB;simp only [Option.bind_assoc,Option.bind_some]
theorem VT{A B:List DT}{x y:DT}(O:Lz ((A++ [y])++B))(U:Gz x y=false):∀a∈A++ [y],Gz x a=false:=by
 rw [List.append_assoc] at O;intro a K;rcases List.mem_append.1 K with K | K
 ·have Y:=(List.pairwise_append.1 O).2.2 a K y (by simp);have Z:=JR.1 Y;have ac:=JR.1 U;rw [JR];omega
 ·cases List.mem_singleton.1 K;exact U
theorem YD{F:Nat}{l:List DT}(az:100<F)(a0:l.length<=20)(hb:∀d∈l,BD d):f193 F l 0 (l.length:Int)=some (Es l):=by
 refine Ex ?_;unfold f193;refine BH 1 V (by omega) (by omega) (Bs (S:=λr=>r=Es l) ?_ (λr Y=>Ax Y));refine Ec (l.length - 1) (λi s=>s.1=((i+1:Nat):Int)/\s.2=Es (l.take (i+1))++l.drop (i+1)) ⟨V,?_⟩ (by omega) ?_ ?_
 ·cases l with
  | nil=>rfl
  | cons x xs=>rfl
 ·rintro i ⟨c,w⟩ hi ⟨K,hw⟩;simp only at K hw;subst K;have O:i+1<l.length:=by omega
  unfold NO;refine CJ (by simp only;omega) ?_;have Z:l.drop (i+1)=l[i+1]::l.drop (i+2):=List.drop_eq_getElem_cons O;have a1:(Es (l.take (i+1))).length=i+1:=by rw [R1,List.length_take];omega
  have ac:∀d∈Es (l.take (i+1)),BD d:=λd hd=>hb d (List.mem_of_mem_take ((RD _).1 hd));have ag:BD l[i+1]:=hb _ (List.getElem_mem O);have al:Es (l.take (i+2))=F1 l[i+1] (Es (l.take (i+1))):=by
   rw [List.take_add_one (i:=i+1),List.getElem?_eq_getElem O];exact LR _ _
  have am:=SD (l.take (i+1));generalize l[i+1]=x at*;generalize Es (l.take (i+1))=P at*;generalize l.drop (i+2)=R at*;refine Bs (S:=λr=>r=F1 x P++R) ?_ ?_
  ·rw [Wz,hw,Z];have ap:((i+1:Nat):Int)=(P.length:Int):=by omega
   rw [ap];refine(Yv (lt:=Gz) R (by omega) (by omega) λy U=>?_).Ah ?_
   ·obtain⟨c,aq,av,_⟩:=Tz (F:=F) ag (ac y U);rw [aq,Option.bind_some];congr 1;rw [Bool.eq_iff_iff,decide_eq_true_eq];exact av
   ·rintro r ⟨A,B,rfl,rfl,aw,ay⟩;rw [S8 aw ?_]
    ·simp
    ·rcases ay with rfl | ⟨a2,y,rfl,U⟩
     ·simp
     ·exact VT am U
  ·rintro r rfl;refine BH ((i+1+1:Nat):Int) (by simp) (by omega) (by omega) (Ax ⟨V,?_⟩);simp only;rw [al]
 ·rintro⟨c,w⟩ ⟨K,hw⟩;simp only at K hw;subst K;unfold NO;refine B3 (by simp only;omega) (Ax ⟨_,V,?_⟩);simp only;rw [hw,List.take_of_length_le (by omega),List.drop_eq_nil_of_le (by omega),List.append_nil]
theorem Yf{F:Nat}:∀n,n<=12->∃r,f115 F (CX ((n:Nat):Int))=some r
 | 0,_ | 1,_ | 2,_ | 3,_ | 4,_ | 5,_ | 6,_ | 7,_ | 8,_ | 9,_ | 10,_ | 11,_ | 12,_=>⟨_,rfl⟩
 | _+13,h=>absurd h (by omega)
theorem Ui{F:Nat}{l:List DT}(K:100<F)(O:l.length<=12)(hb:∀d∈l,BD d):f90 F l=some (Es l):=by
 obtain⟨F,rfl⟩:∃k,F=k+1:=⟨F - 1,by omega⟩;obtain⟨x,U⟩:=Yf (F:=F+1) l.length O;refine Ex ?_;unfold f90;refine Bv (b:=l) (by unfold f129 Mt Eh;rw [if_pos (by simp;omega)];rfl) (Bv (b:=Es l) ?_ (Ax V));refine Ex ?_;unfold f130;refine Bv U (Bv (b:=Es l) ?_ (Ax V));refine Ex ?_;unfold f169;refine Bs (S:=λr=>r=Sum.inl (Es l)) ?_ (by rintro r rfl;rw [Sum.elim_inl];exact Ax rfl);refine Ec 0 (λ_ _=>True) trivial (by omega) (by intro i s h;omega) ?_;rintro s -;unfold PD;refine BH (l.length:Int) (by omega) (by omega) (by omega) (CJ (by omega) ?_);exact Bv (YD K (by omega) hb) (Ax ⟨_,V,V⟩)
def Js(n:Nat)(w:List Int)(S:List PR):Option (List DT):=(Gs n S.length S w []).map Es
theorem YT{F:Nat}{o:OW}{S:List PR}(K:100<F)(h:VO o)(O:S.length<=10)(U:∀x∈S,VP o.1.length x):f135 F o S=some (match Js o.1.length (CL o) S with | none=>([],false) | some r=>(r,true)):=by
 have Y:=h.n5;obtain⟨ac,g2⟩:=Lf K h;have Z:(200:Int)*3 ^ S.length<=1000000000000:=by
  have:=Tn O;omega
 have e:=Ta (q:=o) K rfl Y S.length F S (CL o) [] 200 rfl (by omega) O U g2 (by omega) Z (by simp;omega);have e2:f175 F o S=some (match Js o.1.length (CL o) S with | none=>(true,default) | some r=>(false,r)):=by
  refine Ex ?_;unfold f175;refine Bv ac ?_;refine Bv (show f203 F S (CL o) o []=_ from e) ?_;unfold Js;rcases ag:Gs o.1.length S.length S (CL o) [] with _ | r
  ·exact CJ V (Ax V)
  ·refine B3 (by simp [My]) ?_;obtain⟨k1,al⟩:=Pw Y S.length S (CL o) [] r 200 rfl U g2 (by omega) Z (by simp) ag;exact Bv (Ui K (by show r.length<=12;rw [al];simp;omega) k1) (Ax V)
 unfold f135;rw [e2,Option.bind_some];rcases Js o.1.length (CL o) S with _ | r
 ·rfl
 ·rfl
def HG:Nat->List PR->List (List PR)
 | 0,_=> [[]]
 | _+1,[]=> []
 | m+1,x::xs=>(HG m xs).map (x::·)++HG (m+1) xs
theorem O8:∀(m:Nat) (l:List PR),(HG m l).length<=2 ^ l.length
 | 0,l=>by simp only [HG,List.length_singleton];exact Nat.one_le_two_pow
 | m+1,[]=>by simp [HG]
 | m+1,x::xs=>by
  have K:=O8 m xs;have O:=O8 (m+1) xs
  simp only [HG,List.length_append,List.length_map,List.length_cons]
  rw [Nat.pow_succ];omega
theorem M0{x:PR}:∀{m:Nat} {l c:List PR},c∈HG m l->c.length=m/\(x∈c->x∈l)
 | 0,l,c,h=>by rw [show HG 0 l= [[]] by cases l <;> rfl] at h;cases List.mem_singleton.1 h;exact⟨rfl,λh=>by cases h⟩
 | m+1,[],c,h=>by cases h
 | m+1,y::ys,c,h=>by
  rcases List.mem_append.1 h with h | h
  ·obtain⟨U,O,rfl⟩:=List.mem_map.1 h
   have:=M0 (x:=x) O;exact⟨by rw [List.length_cons,this.1],λK=>by
    rcases List.mem_cons.1 K with rfl | K
    ·exact List.mem_cons_self
    ·exact List.mem_cons_of_mem _ (this.2 K)⟩
  ·have:=M0 (x:=x) h;exact⟨this.1,λK=>List.mem_cons_of_mem _ (this.2 K)⟩
def DF(n:Nat)(w:List Int)(P:PR->Bool)(m:Nat)(l ys:List PR):List (List DT):=(HG m (ys.filter P)).filterMap λc=>Js n w (l++c)
theorem SC{n:Nat}{w:List Int}{P:PR->Bool}{m:Nat}{l ys:List PR}:(DF n w P m l ys).length<=2 ^ ys.length:=by
 unfold DF;refine Nat.le_trans (List.length_filterMap_le _ _) (Nat.le_trans (O8 _ _) ?_);exact Nat.pow_le_pow_right (by decide) (List.length_filter_le _ _)
theorem W4{n:Nat}{w:List Int}{P:PR->Bool}{m:Nat}{l xs:List PR}{x:PR}(h:P x=false):DF n w P m l (x::xs)=DF n w P m l xs:=by unfold DF;rw [List.filter_cons_of_neg (by simp [h])]
theorem WR{n:Nat}{w:List Int}{P:PR->Bool}{m:Nat}{l xs:List PR}{x:PR}(h:P x=true):DF n w P (m+1) l (x::xs)=DF n w P m (l++ [x]) xs++DF n w P (m+1) l xs:=by
 unfold DF;rw [List.filter_cons_of_pos h,HG,List.filterMap_append,List.filterMap_map];congr 2;funext c;simp
theorem SQ{F:Nat}{o:OW}{ag m:Nat}{K:List PR}{P:PR->Bool}(al:100<F)(h:VO o)(hm:m<=5)(aw:K.length<=10)(am:∀x∈K,VP o.1.length x)(ap:∀x,VP o.1.length x->f136 F ag x.1 x.2=some (!P x)):
  ∀(k N:Nat) (l:List PR) (i:Nat) (b:List (List DT)),l.length+k=m->k<N->i<=K.length->(∀x∈l,VP o.1.length x)->b.length+2 ^ (K.length - i)<=1000000->
   Lc N F l (i:Int) (m:Int) o K ag b=some (true,b++DF o.1.length (CL o) P k l (K.drop i))
 | 0,N,l,i,b,ay,az,hi,ac,hb=>by
  obtain⟨N,rfl⟩:∃k,N=k+1:=⟨N - 1,by omega⟩
  have a5:1<=2 ^ (K.length - i):=Nat.one_le_two_pow
  refine Ex ?_
  simp only [Lc]
  unfold Mi
  refine CJ (by omega) ?_
  refine Bv (YT al h (by omega) ac) ?_
  refine Bs (S:=λr=>r=(true,b++DF o.1.length (CL o) P 0 l (K.drop i))) ?_ (λr a0=>Ax a0)
  have e:DF o.1.length (CL o) P 0 l (K.drop i)=(Js o.1.length (CL o) l).toList:=by
   unfold DF;simp only [HG,List.filterMap_cons,List.append_nil,List.filterMap_nil];cases Js o.1.length (CL o) l <;> rfl
  rw [e];rcases Js o.1.length (CL o) l with _ | r
  ·exact CJ V (Ax (by simp))
  ·exact B3 (by simp) (KT (by omega) (Ax V))
 | k+1,N,l,i,b,ay,az,hi,ac,hb=>by
  obtain⟨N,rfl⟩:∃k,N=k+1:=⟨N - 1,by omega⟩;refine Ex ?_;simp only [Lc];unfold Mi;refine B3 (by omega) (Bs (S:=λr=>r=Sum.inr (b++DF o.1.length (CL o) P (k+1) l (K.drop i))) ?_ (by rintro r rfl;rw [Sum.elim_inr];exact Ax rfl));refine Ps (λz s=>∃j,z=K.length - j/\j<=K.length/\s.2=((j:Nat):Int)/\s.1++DF o.1.length (CL o) P (k+1) l (K.drop j)=b++DF o.1.length (CL o) P (k+1) l (K.drop i)/\s.1.length+2 ^ (K.length - j)<=1000000) ?_ (m:=K.length - i) ⟨i,V,hi,V,V,hb⟩ (by omega);rintro z ⟨acc,c⟩ ⟨j,rfl,a6,aq,he,hlen⟩;simp only at aq he hlen;subst aq;unfold PK;refine Cn (λa1=>?_) (λa2=>?_)
  ·simp only at a1;have O:j<K.length:=by omega
   have hd:K.drop j=K[j]::K.drop (j+1):=List.drop_eq_getElem_cons O;have av:=am _ (List.getElem_mem O);have a7:2 ^ (K.length - j)=2 ^ (K.length - (j+1))+2 ^ (K.length - (j+1)):=by
    rw [show K.length - j=K.length - (j+1)+1 by omega,Nat.pow_succ];omega
   have a8:0<2 ^ (K.length - (j+1)):=Nat.two_pow_pos _;refine Bs (S:=λr=>∃Y,r=Sum.inr Y/\Y++DF o.1.length (CL o) P (k+1) l (K.drop (j+1))=acc++DF o.1.length (CL o) P (k+1) l (K.drop j)/\Y.length+2 ^ (K.length - (j+1))<=1000000) ?_ ?_
   ·refine Ds (m:=j) V O (Ds (m:=j) V O ?_);refine Bv (ap _ av) ?_;by_cases Z:P K[j]=true
    ·refine B3 (by simp [Z]) ?_;refine Ds (m:=j) V O ?_;refine BH ((j+1:Nat):Int) (by simp) (by omega) (by omega) ?_;refine BI.MB (by simp;omega) ?_;refine Bv (SQ al h hm aw am ap k N (l++ [K[j]]) (j+1) acc (by simp;omega) (by omega) (by omega) (λx U=>by
      rcases List.mem_append.1 U with U | U
      ·exact ac x U
      ·cases List.mem_singleton.1 U;exact av) (by omega)) ?_
     refine B3 (by simp) (Ax ⟨_,V,?_,?_⟩)
     ·rw [hd,WR Z,List.append_assoc]
     ·have:=SC (n:=o.1.length) (w:=CL o) (P:=P) (m:=k) (l:=l++ [K[j]]) (ys:=K.drop (j+1));rw [List.length_drop] at this;rw [List.length_append];omega
    ·refine CJ (by simp [Z]) (Ax ⟨_,V,?_,by simp only;omega⟩);rw [hd,W4 (Bool.eq_false_iff.2 Z)]
   ·rintro r ⟨Y,rfl,a3,a4⟩;rw [Sum.elim_inr];exact BH ((j+1:Nat):Int) (by simp) (by omega) (by omega) (Ax ⟨K.length - (j+1),by omega,j+1,V,by omega,V,a3.trans he,a4⟩)
  ·simp only at a2;refine Ax ?_;have:K.drop j= []:=List.drop_eq_nil_of_le (by omega);rw [this] at he;show Sum.inr _=_;rw [← he];unfold DF;simp [HG]
def FW(n:Nat)(w:List Int)(P:PR->Bool):List (List DT):=(((List.range n).map λm=>DF n w P m [] (ER n)).find? λl=> !l.isEmpty).getD []
theorem ai{F O:Nat}{o:OW}{P:PR->Bool}(Y:100<F)(h:VO o)(ag:∀x,VP o.1.length x->f136 F O x.1 x.2=some (!P x)):f71 F o O=some (FW o.1.length (CL o) P):=by
 have Z:=h.n5;have al:=Rx Z;refine Ex ?_;unfold f71;have am:∀m,m<=5->f132 F o ((m:Nat):Int) O []=some (DF o.1.length (CL o) P m [] (ER o.1.length)):=by
  intro m hm;refine Ex ?_;unfold f132;refine Bv (YX Y Z) ?_;have ap:2 ^ ((ER o.1.length).length - 0)<=2 ^ 10:=Nat.pow_le_pow_right (by decide) (by omega);exact Bv (show f134 F [] 0 (m:Int) o (ER o.1.length) O []=_ from SQ Y h hm al (λx aq=>SA aq) ag m F [] 0 [] (by simp) (by omega) (by omega) (by simp) (by simp at ap ⊢;omega)) (Ax (by simp))
 refine Ec o.1.length (λi s=>s=(i:Int)/\∀j,j<i->DF o.1.length (CL o) P j [] (ER o.1.length)= []) ⟨V,by simp⟩ (by omega) ?_ ?_
 ·rintro i s hi ⟨rfl,U⟩;unfold On;refine CJ (by omega) (Bv (am i (by omega)) ?_);refine Cn (λac=>Ax ?_) (λaw=>?_)
  ·show _=_;unfold FW;rw [List.find?_map,show(List.range o.1.length).find? _=some i from List.find?_range_eq_some.2 ⟨?_,List.mem_range.2 hi,λj K=>?_⟩]
   ·rfl
   ·simp only [Function.comp];cases av:DF o.1.length (CL o) P i [] (ER o.1.length) with
    | nil=>rw [av] at ac;simp at ac
    | cons=>rfl
   ·simp only [Function.comp];rw [U j K];rfl
  ·refine BH ((i+1:Nat):Int) (by simp) (by omega) (by omega) (Ax ⟨V,λj K=>?_⟩);rcases Nat.lt_succ_iff_lt_or_eq.1 K with K | rfl
   ·exact U j K
   ·exact List.length_eq_zero_iff.1 (by omega)
 ·rintro s ⟨rfl,U⟩;unfold On;refine B3 (by omega) (Ax ⟨_,V,?_⟩);unfold FW;rw [List.find?_map,show(List.range o.1.length).find? _=none from List.find?_eq_none.2 ?_]
  ·rfl
  ·intro j K;simp only [Function.comp];rw [U j (List.mem_range.1 K)];simp
theorem ZQ{F n:Nat}(U:n<=5)(x:PR)(K:VP n x):f136 F 0 x.1 x.2=some (!(λ_=>true) x):=by
 obtain⟨Y,Z,ac⟩:=K;obtain⟨a,O⟩:∃a:Nat,x.1=(a:Int):=⟨x.1.toNat,by omega⟩;obtain⟨b,hb⟩:∃b:Nat,x.2=(b:Int):=⟨x.2.toNat,by omega⟩;rw [O,hb];have:b<=4:=by omega
 have:a<b:=by omega
 match a,b with
 | 0,1 | 0,2 | 0,3 | 0,4 | 1,2 | 1,3 | 1,4 | 2,3 | 2,4 | 3,4=>rfl
 | 0,0=>omega
 | a+1,0=>omega
 | a+1,1=>omega
 | a+2,2=>omega
 | a+3,3=>omega
 | a+4,4=>omega
 | a,b+5=>omega
abbrev IC(o:OW):List (List DT):=FW o.1.length (CL o) λ_=>true
theorem Us{F:Nat}{o:OW}(K:100<F)(h:VO o):f71 F o 0=some (IC o):=ai K h λx O=>ZQ h.n5 x O
theorem XX{n:Nat}{w:List Int}{P:PR->Bool}{m:Nat}{s:List DT}(U:n<=5)(hm:m<=5)(hw:BN 200 w)(K:s∈DF n w P m [] (ER n)):s.length=m/\∀d∈s,BD d:=by
 unfold DF at K;obtain⟨c,O,K⟩:=List.mem_filterMap.1 K;rw [List.nil_append] at K;unfold Js at K;obtain⟨r,Y,rfl⟩:=Option.map_eq_some_iff.1 K;have Z:=(M0 (x:=(0,0)) O).1;have ac:∀x∈c,VP n x:=λx ag=>SA (List.mem_filter.1 ((M0 O).2 ag)).1;have al:(200:Int)*3 ^ c.length<=1000000000000:=by
  have:=Tn (k:=c.length) (by omega);omega
 obtain⟨k1,am⟩:=Pw U c.length c w [] r 200 rfl ac hw (by omega) al (by simp) Y;refine⟨by rw [R1,am,Z];simp,λd hd=>k1 d ((RD _).1 hd)⟩
theorem YV{n:Nat}{w:List Int}{P:PR->Bool}:FW n w P= []∨∃m,m<n/\FW n w P=DF n w P m [] (ER n)/\(∀j,j<m->DF n w P j [] (ER n)= []):=by
 unfold FW;rw [List.find?_map];rcases h:(List.range n).find? ((λl:List (List DT)=> !l.isEmpty)∘λm=>DF n w P m [] (ER n)) with _ | m
 ·exact .inl V
 ·obtain⟨Y,K,O⟩:=List.find?_range_eq_some.1 h;refine .inr ⟨m,List.mem_range.1 K,V,λj U=>?_⟩;have:=O j U;simpa using this
theorem Ul{n:Nat}{w:List Int}{P:PR->Bool}(K:n<=5)(hw:BN 200 w):(FW n w P).length<=1024/\∃m,m<=5/\∀s∈FW n w P,s.length=m/\∀d∈s,BD d:=by
 rcases YV (n:=n) (w:=w) (P:=P) with h | ⟨m,hm,h,_⟩
 ·rw [h];exact⟨by simp,0,by omega,by simp⟩
 ·rw [h];refine⟨?_,m,by omega,λs O=>XX K (by omega) hw O⟩;exact Nat.le_trans SC (Nat.le_trans (Nat.pow_le_pow_right (by decide) (Rx K)) (by decide))
def F4:List DT->List DT->Bool
 | [],[]=>false
 | [],_::_=>true
 | _::_,[]=>false
 | x::xs,y::ys=>if x=y then F4 xs ys else Gz x y
theorem PC{a b:List DT}:∀{i:Nat},i<=a.length->i<=b.length->a.take i=b.take i->F4 a b=F4 (a.drop i) (b.drop i):=by
 induction a generalizing b with
 | nil=>intro i K _ _;simp at K;subst K;simp
 | cons x xs U=>
  intro i K O h;cases i with
  | zero=>simp
  | succ i=>
   cases b with
   | nil=>simp at O
   | cons y ys=>
    simp only [List.take_succ_cons,List.cons.injEq] at h;simp only [List.drop_succ_cons];rw [F4,if_pos h.1];exact U (by simpa using K) (by simpa using O) h.2
theorem Yk{F:Nat}{a b:List DT}(al:100<F)(am:a.length<=40)(U:∀d∈a,BD d)(Y:∀d∈b,BD d):BI (f112 F a b) (λc=>c<0↔F4 a b=true):=by
 unfold f112;refine Bs (S:=λr=>(∃c,r=Sum.inl c/\(c<0↔F4 a b=true))∨(r=Sum.inr ()/\a.length<=b.length/\a=b.take a.length)) ?_ ?_
 ·refine Ec a.length (λi s=>s=(i:Int)/\i<=b.length/\a.take i=b.take i) ⟨V,by simp,by simp⟩ (by omega) ?_ ?_
  ·rintro i s hi ⟨rfl,K,he⟩;unfold Nv;have O:a.drop i=a[i]::a.drop (i+1):=List.drop_eq_getElem_cons hi;refine CJ (by omega) (Ds (m:=i) V hi ?_);refine Cn (λh=>Ax (.inl ⟨1,V,?_⟩)) (λh=>?_)
   ·rw [PC (i:=i) (by omega) K he,O,List.drop_eq_nil_of_le (by omega:b.length<=i)];simp [F4]
   have hb:i<b.length:=by omega
   have Z:b.drop i=b[i]::b.drop (i+1):=List.drop_eq_getElem_cons hb;refine Ds (m:=i) V hb ?_;refine Bs (Tz (U _ (List.getElem_mem hi)) (Y _ (List.getElem_mem hb))) ?_;rintro c ⟨c1,c2⟩;refine Cn (λh=>Ax (.inl ⟨c,V,?_⟩)) (λh=>?_)
   ·rw [PC (i:=i) (by omega) K he,O,Z,F4,if_neg (λk=>h (c2.2 k))];exact c1
   ·have heq:=c2.1 (Decidable.not_not.1 h);refine BH ((i+1:Nat):Int) (by simp) (by omega) (by omega) ?_;refine Ax ⟨V,by omega,?_⟩;rw [List.take_add_one,List.take_add_one,he,List.getElem?_eq_getElem hi,List.getElem?_eq_getElem hb,heq]
  ·rintro s ⟨rfl,K,he⟩;unfold Nv;rw [List.take_length] at he;exact B3 (by omega) (Ax ⟨_,V,.inr ⟨V,K,he⟩⟩)
 ·rintro r (⟨c,rfl,ac⟩ | ⟨rfl,ag,he⟩)
  ·rw [Sum.elim_inl];exact Ax ac
  ·rw [Sum.elim_inr];have e:F4 a b=F4 [] (b.drop a.length):=by
    rw [PC (i:=a.length) (Nat.le_refl _) ag (by rw [List.take_length];exact he),List.drop_length]
   refine Cn (λh=>Ax ?_) (λh=>Ax ?_)
   ·rw [e];cases hd:b.drop a.length with
    | nil=>have:=congrArg List.length hd;simp at this;omega
    | cons=>simp [F4]
   ·rw [e,List.drop_eq_nil_of_le (by omega)];simp [F4]
def Gc(b:List DT×Bool)(x:List DT):List DT×Bool:=if(!b.2 || F4 x b.1)=true then(x,true) else b
def Ll(l:List (List DT)):List DT:=(l.foldl Gc ([],false)).1
theorem TX{F:Nat}{o:OW}(aw:2000<F)(h:VO o):f22 F o=some (Ll (IC o),0):=by
 obtain⟨ay,al⟩:=Lf (F:=F) (by omega) h;obtain⟨am,m,hm,ap⟩:=Ul (P:=λ_=>true) h.n5 al;refine Ex ?_;unfold f22;refine Bv (Mn (by omega) h) (B3 (by simp) ?_);refine Bv (Us (by omega) h) (Bs (S:=λr=>r.1=Ll (IC o)) ?_ (λr Z=>Ax (by rw [Z])));have aq:(IC o).length<=1024:=am;have ac:∀s∈IC o,s.length=m/\∀d∈s,BD d:=ap;generalize IC o=L at aq ac ⊢;refine Ec L.length (λi s=>s.2.2=(i:Int)/\(s.1,s.2.1)=(L.take i).foldl Gc ([],false)/\∀d∈s.1,BD d) ⟨V,V,by simp⟩ (by omega) ?_ ?_
 ·rintro i ⟨b,t,c⟩ hi ⟨K,O,U⟩;simp only at K O U;subst K;obtain⟨az,ag⟩:=ac _ (List.getElem_mem hi);have av:(L.take (i+1)).foldl Gc ([],false)=Gc (b,t) L[i]:=by
   rw [List.take_add_one,List.getElem?_eq_getElem hi,List.foldl_append,← O];rfl
  unfold NZ;refine CJ (by simp only;omega) (Ds (m:=i) V hi ?_);refine Bv (b:=Gc (b,t) L[i]) ?_ ?_
  ·refine Ex ?_;unfold f72;refine Bs (S:=λc=>c=(!t || F4 L[i] b)) ?_ ?_
   ·refine Cn (λh=>Ax ?_) (λh=>?_)
    ·simp only at h;rw [h];rfl
    ·simp only at h;obtain rfl:t=true:=by simpa using h
     refine Bs (S:=λc=>c=F4 L[i] b) ?_ (λc K=>Ax (by rw [K];simp));unfold f73 f74;refine Bs (S:=λc=>c<0↔F4 L[i] b=true) (Bs (Yk (by omega) (by omega) ag U) (λc K=>Ax K)) ?_;intro c K;refine Ax ?_;by_cases Y:F4 L[i] b=true
     ·rw [Y];exact decide_eq_true (K.2 Y)
     ·rw [Bool.eq_false_iff.2 Y];exact decide_eq_false λk=>Y (K.1 k)
   ·rintro c rfl;refine Bs (S:=λr=>r=Gc (b,t) L[i]) ?_ (λr Z=>Ax Z);unfold Gc;refine Cn (λh=>Ax ?_) (λh=>Ax ?_)
    ·rw [if_pos h]
    ·rw [if_neg h]
  ·refine BH ((i+1:Nat):Int) (by simp) (by omega) (by omega) (Ax ⟨V,av.symm,?_⟩);simp only;unfold Gc;split
   ·exact ag
   ·exact U
 ·rintro⟨b,t,c⟩ ⟨K,O,U⟩;simp only at K O U;subst K;rw [List.take_length] at O;unfold NZ;refine B3 (by simp) (Ax ⟨_,V,?_⟩);simp only;unfold Ll;rw [← O]
theorem T3{F:Nat}{o:OW}(K:2000<F)(h:VO o):f24 F o=some (((IC o).length:Int),0):=by
 refine Ex ?_;unfold f24;refine Bv (Mn (by omega) h) (B3 (by simp) ?_);exact Bv (Us (by omega) h) (Ax V)
theorem T2{F:Nat}{o:OW}(U:2000<F)(h:VO o):f43 F o=some ((CL o).take o.1.length,0):=by
 obtain⟨K,O⟩:=Lf (F:=F) (by omega) h;have Y:=h.n5;have Z:=O.1;refine Ex ?_;unfold f43;refine Bv (Mn (by omega) h) (B3 (by simp) ?_);refine Bv K (Bv (b:=(CL o).take o.1.length) (by unfold GR;rw [if_pos (by omega)];simp) ?_);exact Bv (b:=(CL o).take o.1.length) (by unfold f87 Mx Eh;rw [if_pos (by simp;omega)];rfl) (Ax V)
theorem Wn{l:List (List DT)}:Ll l= []∨Ll l∈l:=by
 have:∀l:List (List DT),(l.foldl Gc ([],false)).1= []∨(l.foldl Gc ([],false)).1∈l:=by
  intro l;refine L4 (P:=λl=>(l.foldl Gc ([],false)).1= []∨(l.foldl Gc ([],false)).1∈l) (.inl V) (λl x h=>?_) l;rw [List.foldl_append];show(Gc _ x).1= []∨(Gc _ x).1∈l++ [x];generalize l.foldl Gc ([],false)=b at*;unfold Gc;split
  ·exact .inr (by simp)
  ·rcases h with h | h
   ·exact .inl h
   ·exact .inr (List.mem_append_left _ h)
 exact this l
theorem Vn{o:OW}(h:VO o):(Ll (IC o)).length<=5:=by
 obtain⟨U,K⟩:=Lf (F:=101) (by omega) h;obtain⟨Y,m,hm,O⟩:=Ul (P:=λ_=>true) h.n5 K;rcases Wn (l:=IC o) with e | e
 ·rw [e];simp
 ·have:=(O _ e).1;omega
def Gb(o:OW)(a b:Int):Bool:=o.2.any λd=>decide (d.1=a)&&decide (d.2.1=b)
def EF(c:List Int):Int:=c.getD (c.length - 1) 0
def I0(o:OW)(c:List Int)(h:Nat):Bool:= !decide ((h:Int)∈c)&&(decide (c= []) || Gb o (EF c) h)
def Iu(o:OW)(c:List Int)(i:Nat):List (List Int):=((List.range i).filter (I0 o c)).map λh:Nat=>c++ [(h:Int)]
def ext(o:OW)(c:List Int):List (List Int):=Iu o c o.1.length
def Dh(o:OW):Nat->List (List Int)
 | 0=> [[]]
 | k+1=>(Dh o k).flatMap (ext o)
def IB(o:OW)(c:List Int):Bool:=Gb o (EF c) (c.getD 0 0)
def ME(o:OW)(r:List Int×Int):Prop:=
 (∃k,2<=k/\k<=o.1.length/\(∀j,2<=j->j<k->(Dh o j).find? (IB o)=none)/\(Dh o k).find? (IB o)=some r.1/\r.2=0)∨
  ((∀j,2<=j->j<=o.1.length->(Dh o j).find? (IB o)=none)/\r=([],11))
theorem WV(o:OW)(c:List Int)(i:Nat):Iu o c (i+1)=Iu o c i++(if I0 o c i=true then [c++ [(i:Int)]] else []):=by
 unfold Iu;rw [List.range_succ,List.filter_append,List.map_append];congr 1;by_cases h:I0 o c i=true
 ·rw [if_pos h];simp [h]
 ·rw [if_neg h];simp [h]
def Ch(o:OW)(k:Nat)(c:List Int):Prop:=c.length=k/\c.Nodup/\∀x∈c,0<=x/\x<(o.1.length:Int)
theorem ao{o:OW}{k:Nat}{c x:List Int}(h:Ch o k c)(Y:x∈ext o c):Ch o (k+1) x:=by
 obtain⟨Z,ac,ag⟩:=h;unfold ext Iu at Y;obtain⟨a,O,rfl⟩:=List.mem_map.1 Y;obtain⟨O,U⟩:=List.mem_filter.1 O;have O:=List.mem_range.1 O;have al:(a:Int) ∉ c:=by
  intro hm;unfold I0 at U;rw [decide_eq_true hm] at U;cases U
 refine⟨by simp [Z],?_,λy K=>?_⟩
 ·rw [List.nodup_append];exact⟨ac,by simp,by rintro u hu v am rfl;cases List.mem_singleton.1 am;exact al hu⟩
 ·rcases List.mem_append.1 K with K | K
  ·exact ag y K
  ·cases List.mem_singleton.1 K;omega
theorem Mk(o:OW):∀(k:Nat) (c:List Int),c∈Dh o k->Ch o k c
 | 0,c,h=>by cases List.mem_singleton.1 h;exact⟨rfl,List.nodup_nil,λx K=>by cases K⟩
 | k+1,c,h=>by
  obtain⟨a,O,U⟩:=List.mem_flatMap.1 h
  exact ao (Mk o k a O) U
theorem Sb(o:OW){k:Nat}(Z:o.1.length<k):Dh o k= []:=by
 rcases h:Dh o k with _ | ⟨c,l⟩
 ·rfl
 ·obtain⟨ac,K,O⟩:=Mk o k c (by rw [h];exact List.mem_cons_self);have U:c.length<=((List.range o.1.length).map λh:Nat=>(h:Int)).length:=List.Nodup.length_le_of_subset K λx Y=>by
   have:=O x Y;exact List.mem_map.2 ⟨x.toNat,List.mem_range.2 (by omega),by omega⟩
  rw [List.length_map,List.length_range] at U;omega
theorem PO{α β:Type}{f:α->List β}{m:Nat}:∀{l:List α},(∀x∈l,(f x).length<=m)->(l.flatMap f).length<=l.length*m
 | [],_=>by simp
 | a::l,h=>by
  rw [List.flatMap_cons,List.length_append,List.length_cons,Nat.succ_mul]
  have O:=h a List.mem_cons_self
  have U:=PO (l:=l) λx K=>h x (List.mem_cons_of_mem _ K)
  omega
theorem PV(o:OW)(c:List Int)(i:Nat):(Iu o c i).length<=i:=by
 unfold Iu;rw [List.length_map];have K:=List.length_filter_le (I0 o c) (List.range i);rw [List.length_range] at K;exact K
theorem TG{o:OW}(K:o.1.length<=5):∀k,(Dh o k).length<=5 ^ k
 | 0=>by simp [Dh]
 | k+1=>by
  have O:=TG K k
  have U:((Dh o k).flatMap (ext o)).length<=(Dh o k).length*5:=PO λx _=>Nat.le_trans (PV o x _) K
  show((Dh o k).flatMap (ext o)).length<=_
  rw [Nat.pow_succ]
  exact Nat.le_trans U (Nat.mul_le_mul_right 5 O)
theorem WE{o:OW}(K:o.1.length<=5)(k:Nat):(Dh o k).length<=3125:=by
 rcases Nat.lt_or_ge o.1.length k with h | h
 ·rw [Sb o h];simp
 ·exact Nat.le_trans (TG K k) (Nat.pow_le_pow_right (by omega) (by omega:k<=5))
theorem Tu{c:List Int}(h:0<c.length):ix c ((c.length:Int) - 1)=some (EF c):=JY (m:=c.length - 1) (by omega) (by unfold EF;rw [List.getD_eq_getElem?_getD,List.getElem?_eq_getElem (by omega)];rfl)
theorem aQ{c:List Int}(h:0<c.length):ix c 0=some (c.getD 0 0):=JY (m:=0) V (by rw [List.getD_eq_getElem?_getD,List.getElem?_eq_getElem h];rfl)
theorem U6{α:Type}{l:List α}{i:Nat}{x:α}(hi:i<l.length):x∈l.take (i+1)↔x∈l.take i∨x=l[i]:=by
 rw [List.take_add_one,List.getElem?_eq_getElem hi];simp only [Option.toList_some,List.mem_append,List.mem_singleton]
theorem aZ{F:Nat}{l:List Int}{x:Int}(U:100<F)(Y:l.length<=40):f82 F l x=some (decide (x∈l)):=by
 refine Ex ?_;unfold f82;refine Bs (S:=λq:Int=>(0<=q/\x∈l)∨(q<0/\x ∉ l)) ?_ ?_
 ·unfold f128;refine Bs (S:=λq:Int⊕Unit=>(∃z,q=Sum.inl z/\0<=z/\x∈l)∨(q=Sum.inr ()/\x ∉ l)) ?_ ?_
  ·refine Ec l.length (λi s=>s=(i:Int)/\x ∉ l.take i) ⟨V,by simp⟩ (by omega) ?_ ?_
   ·rintro i s hi ⟨rfl,O⟩;unfold ND;refine CJ (by omega) (Ds (m:=i) V hi ?_);refine Cn (λh=>Ax (.inl ⟨_,V,by omega,h▸List.getElem_mem hi⟩)) (λh=>?_);exact BH ((i+1:Nat):Int) (by simp) (by omega) (by omega) (Ax ⟨V,λhm=>((U6 hi).1 hm).elim O h⟩)
   ·rintro s ⟨rfl,O⟩;unfold ND;exact B3 (by omega) (Ax ⟨_,V,.inr ⟨V,by rwa [List.take_length] at O⟩⟩)
  ·rintro q (⟨z,rfl,K,h⟩ | ⟨rfl,h⟩)
   ·exact Ax (.inl ⟨K,h⟩)
   ·exact Ax (.inr ⟨by decide,h⟩)
 ·rintro q (⟨K,h⟩ | ⟨K,h⟩)
  ·exact Ax (by rw [decide_eq_true h,decide_eq_true K])
  ·exact Ax (by rw [decide_eq_false h,decide_eq_false (by omega)])
theorem cf{o:OW}{a b:Int}{i:Nat}(hi:i<o.2.length):Gb (o.1,o.2.take (i+1)) a b=(Gb (o.1,o.2.take i) a b || (decide (o.2[i].1=a)&&decide (o.2[i].2.1=b))):=by
 unfold Gb;rw [List.take_add_one,List.getElem?_eq_getElem hi];simp only [Option.toList_some,List.any_append,List.any_cons,List.any_nil,Bool.or_false]
theorem XF{o:OW}{a b:Int}:Gb (o.1,o.2.take o.2.length) a b=Gb o a b:=by rw [List.take_length]
theorem Sv{κ ν:Type} [DecidableEq κ] (x y:κ)(v:ν):∀xs:List (κ×ν),AZ (Be xs x v) y=if y=x then some v else AZ xs y
 | []=>by
  unfold Be AZ
  by_cases h:y=x
  ·rw [if_pos h];simp [h]
  ·rw [if_neg h];simp [h]
 | z::U=>by
  have Y:=Sv x y v U;unfold Be;by_cases h:x=z.1
  ·rw [if_pos h];by_cases K:y=x
   ·rw [if_pos K];unfold AZ;simp [K]
   ·rw [if_neg K];unfold AZ;rw [List.find?_cons_of_neg (by simpa using K),List.find?_cons_of_neg (by simpa using λe=>K (e.trans h.symm))]
  ·rw [if_neg h];by_cases O:y=z.1
   ·rw [if_neg (λe=>h (e.symm.trans O))];unfold AZ;simp [O]
   ·have:AZ (z::Be U x v) y=AZ (Be U x v) y:=by unfold AZ;rw [List.find?_cons_of_neg (by simpa using O)]
    rw [this,Y];by_cases K:y=x
    ·rw [if_pos K,if_pos K]
    ·rw [if_neg K,if_neg K];unfold AZ;rw [List.find?_cons_of_neg (by simpa using O)]
theorem Xu{F:Nat}{o:OW}{e:Int}(Y:100<F)(Z:o.2.length<=40):BI (Pal.iter (Ma F (o,e)) F (([]:List ((Int×Int)×Bool)),0)) (λm=>∀a b,(AZ m (a,b)).getD false=Gb o a b):=by
 refine Ec o.2.length (λi s=>s.2=(i:Int)/\∀a b,(AZ s.1 (a,b)).getD false=Gb (o.1,o.2.take i) a b) ⟨V,λa b=>by simp [AZ,Gb]⟩ (by omega) ?_ ?_
 ·rintro i ⟨m,z⟩ hi ⟨K,hm⟩;simp only at K hm;subst K;unfold Ma
  dsimp only;refine CJ (by omega) (Ds (m:=i) V hi ?_);refine BH ((i+1:Nat):Int) (by simp) (by omega) (by omega) (Ax ⟨V,λa b=>?_⟩);simp only;rw [Sv,cf hi,← hm a b];by_cases h:(a,b)=(o.2[i].1,o.2[i].2.1)
  ·rw [if_pos h];obtain⟨rfl,rfl⟩:=Prod.mk.inj h;simp
  ·rw [if_neg h];have:(decide (o.2[i].1=a)&&decide (o.2[i].2.1=b))=false:=by
    rw [Bool.and_eq_false_iff];by_cases O:o.2[i].1=a
    ·exact .inr (decide_eq_false λU=>h (by rw [O,U]))
    ·exact .inl (decide_eq_false O)
   rw [this,Bool.or_false]
 ·rintro⟨m,z⟩ ⟨K,hm⟩;simp only at K hm;subst K;unfold Ma
  dsimp only;exact B3 (by omega) (Ax ⟨_,V,λa b=>by rw [hm,XF]⟩)
theorem X2{F:Nat}{o:OW}{e:Int}{m:List ((Int×Int)×Bool)}{c:List Int}{acc:List (List Int)}(Y:100<F)(hm:∀a b,(AZ m (a,b)).getD false=Gb o a b)(ac:o.1.length<=5)(ag:c.length<=20)(al:acc.length<=100000):Pal.iter (Me F (o,e) m c) F (acc,0)=some (acc++ext o c):=by
 refine Ex (Ec o.1.length (λi s=>s.2=(i:Int)/\s.1=acc++Iu o c i) ⟨V,by simp [Iu]⟩ (by omega) ?_ ?_)
 ·rintro i ⟨l,z⟩ hi ⟨K,O⟩;simp only at K O;subst K;subst O;have am:=PV o c i;unfold Me
  dsimp only;refine CJ (by omega) (Bs (S:=λr=>r=acc++Iu o c (i+1)) ?_ ?_)
  ·refine Bv (aZ Y (by omega)) (Bs (S:=λq=>q= !I0 o c i) ?_ ?_)
   ·refine Cn (λh=>Ax ?_) (λh=>?_)
    ·unfold I0;rw [h];rfl
    ·refine Cn (λU=>?_) (λU=>Ax ?_)
     ·refine BH _ V (by omega) (by omega) (Bv (Tu (by omega)) ?_);refine Ax ?_;rw [hm];unfold I0;have Z:c≠ []:=by rintro rfl;simp at U
      rw [Bool.not_eq_true] at h;rw [h,decide_eq_false Z];simp
     ·have:c= []:=List.eq_nil_of_length_eq_zero (by omega);unfold I0;rw [Bool.not_eq_true] at h;rw [h,decide_eq_true this];rfl
   ·rintro q rfl;rw [WV];refine Cn (λh=>Ax ?_) (λh=>?_)
    ·rw [if_neg (by simpa using h),List.append_nil]
    ·rw [if_pos (by simpa using h),← List.append_assoc];refine BI.MB (by simp;omega) (KT (by rw [List.length_append];omega) ?_);exact Ax V
  ·rintro r rfl;exact BH ((i+1:Nat):Int) (by simp) (by omega) (by omega) (Ax ⟨V,V⟩)
 ·rintro⟨l,z⟩ ⟨K,O⟩;simp only at K O;subst K;subst O;unfold Me
  dsimp only;exact B3 (by omega) (Ax ⟨_,V,V⟩)
theorem RL{α:Type}{l:List α}{p:α->Bool}{i:Nat}(hi:i<l.length)(h:(l.take i).find? p=none):(l.take (i+1)).find? p=if p l[i]=true then some l[i] else none:=by
 rw [List.take_add_one,List.getElem?_eq_getElem hi,List.find?_append,h];by_cases K:p l[i]=true
 ·rw [if_pos K];simp [K]
 ·rw [if_neg K];simp [K]
theorem Xr{α:Type}{l:List α}{p:α->Bool}{i:Nat}{x:α}(h:(l.take i).find? p=some x):l.find? p=some x:=by
 rw [← List.take_append_drop i l,List.find?_append,h];rfl
theorem XN{F:Nat}{o:OW}{e:Int}{m:List ((Int×Int)×Bool)}{k:Nat}(am:4000<F)(hm:∀a b,(AZ m (a,b)).getD false=Gb o a b)(Z:o.1.length<=5)(ap:k<=5):
  BI (Pal.iter (Md F (o,e) m (Dh o k)) F ([],0)) (λq=>(1<k/\∃c,(Dh o k).find? (IB o)=some c/\q=Sum.inl (c,0))∨((1<k->(Dh o k).find? (IB o)=none)/\q=Sum.inr (Dh o (k+1)))):=by
 have aq:=WE Z k;refine Ec (Dh o k).length (λi s=>s.2=(i:Int)/\s.1=((Dh o k).take i).flatMap (ext o)/\(1<k->((Dh o k).take i).find? (IB o)=none)) ⟨V,by simp⟩ (by omega) ?_ ?_
 ·rintro i ⟨l,z⟩ hi ⟨O,U,K⟩;simp only at O U K;subst O;subst U;have ac:=Mk o k _ (List.getElem_mem hi);have av:(Dh o k)[i].length=k:=ac.1;have ag:(((Dh o k).take i).flatMap (ext o)).length<=((Dh o k).take i).length*5:=PO λx _=>Nat.le_trans (PV o x _) Z;rw [List.length_take] at ag;unfold Md
  dsimp only;refine CJ (by omega) (Ds (m:=i) V hi ?_);refine Bs (S:=λq=>q=(decide (1<k)&&IB o (Dh o k)[i])) ?_ ?_
  ·refine Cn (λh=>?_) (λh=>Ax (by rw [decide_eq_false (by omega)];rfl));refine BH _ V (by omega) (by omega) (Bv (Tu (by omega)) ?_);refine Bv (aQ (by omega)) (Ax ?_);rw [hm,decide_eq_true (by omega)];rfl
  ·rintro q rfl;refine Cn (λh=>Ax (.inl ?_)) (λh=>?_)
   ·rw [Bool.and_eq_true] at h;have Y:1<k:=of_decide_eq_true h.1;refine⟨Y,_,Xr (i:=i+1) ?_,V⟩;rw [RL hi (K Y),if_pos h.2]
   ·refine Bv (X2 (by omega) hm Z (by omega) (by omega)) (BH ((i+1:Nat):Int) (by simp) (by omega) (by omega) ?_);refine Ax ⟨V,?_,λY=>?_⟩
    ·simp only;rw [List.take_add_one,List.getElem?_eq_getElem hi,List.flatMap_append];simp
    ·rw [RL hi (K Y),if_neg];intro al;rw [al,decide_eq_true Y] at h;exact h V
 ·rintro⟨l,z⟩ ⟨O,U,K⟩;simp only at O U K;subst O;subst U;unfold Md
  dsimp only;rw [List.take_length] at K ⊢;exact B3 (by omega) (Ax ⟨_,V,.inr ⟨K,V⟩⟩)
theorem Zv{F:Nat}{o:OW}(ag:4000<F)(h:VO o):BI (f33 F o) (ME o):=by
 have al:=h.n5;have a0:=h.d8;unfold f33;refine Bv (Mn (by omega) h) ?_;refine B3 (by simp) ?_;refine Bs (Xu (by omega) (by omega)) ?_;intro m hm;refine Bs (S:=λq=>(∃r,q=Sum.inl r/\ME o r)∨(q=Sum.inr ()/\ME o ([],11))) ?_ ?_
 ·refine Ec (o.1.length+1) (λi s=>s=Dh o i/\∀j,2<=j->j<i->(Dh o j).find? (IB o)=none) ⟨V,by omega⟩ (by omega) ?_ ?_
  ·rintro i s hi ⟨rfl,K⟩;have Z:∀k,(∀j,2<=j->j<k->(Dh o j).find? (IB o)=none)->Dh o k= []->ME o ([],11):=by
    intro k am he;refine .inr ⟨λj O U=>?_,V⟩;rcases Nat.lt_or_ge j k with ap | a1
    ·exact am j O ap
    ·have:∀t,Dh o (k+t)= []:=by
      intro t
      induction t with
      | zero=>exact he
      | succ t aq=>show(Dh o (k+t)).flatMap (ext o)= [];rw [aq];rfl
     have:=this (j - k);rw [show k+(j - k)=j by omega] at this;rw [this];rfl
   unfold N9;refine Cn (λav=>?_) (λav=>Ax (.inr ⟨V,Z i K (List.eq_nil_of_length_eq_zero (by omega))⟩));refine Bs (XN ag hm al (by omega)) ?_;rintro q (⟨a2,c,aw,rfl⟩ | ⟨ay,rfl⟩)
   ·exact Ax (.inl ⟨_,V,.inl ⟨i,by omega,by omega,K,aw,V⟩⟩)
   ·have ac:∀j,2<=j->j<i+1->(Dh o j).find? (IB o)=none:=by
     intro j O U;rcases Nat.lt_succ_iff_lt_or_eq.1 U with U | rfl
     ·exact K j O U
     ·exact ay (by omega)
    refine Cn (λaz=>Ax (.inr ⟨V,Z (i+1) ac (List.eq_nil_of_length_eq_zero (by omega))⟩)) (λaz=>Ax ⟨V,ac⟩)
  ·rintro s ⟨rfl,K⟩;rw [Sb o (by omega:o.1.length<o.1.length+1)];unfold N9;refine B3 (by simp) (Ax ⟨_,V,.inr ⟨V,.inr ⟨λj O U=>K j O (by omega),V⟩⟩⟩)
 ·rintro q (⟨r,rfl,Y⟩ | ⟨rfl,Y⟩)
  ·exact Ax Y
  ·exact Ax Y
def UO(w l:List Int)(g:Int):Nat->Int
 | 0=>0
 | i+1=>UO w l g i+if l.getD i 0=g then gN w i else 0
def sm(w l:List Int)(g:Int):Int:=UO w l g l.length
def tw(a b:Int)(d:DT):Int:=(if d.1=a/\d.2.1=b then d.2.2 else 0) - (if d.1=b/\d.2.1=a then d.2.2 else 0)
def Ci(l:List DT)(a b:Int):Int:=(l.map (tw a b)).sum
theorem Wg(l:List DT)(d:DT)(a b:Int):Ci (l++ [d]) a b=Ci l a b+tw a b d:=by unfold Ci;rw [List.map_append,List.sum_append];simp
theorem H6(l:List DT)(d:DT)(a b:Int):Ci (d::l) a b=tw a b d+Ci l a b:=by unfold Ci;rw [List.map_cons,List.sum_cons]
theorem WA{l:List DT}{i:Nat}(hi:i<l.length)(a b:Int):Ci (l.take (i+1)) a b=Ci (l.take i) a b+tw a b l[i]:=by
 rw [List.take_add_one,List.getElem?_eq_getElem hi,Option.toList_some,Wg]
theorem YF(a b:Int)(d:DT):tw b a d= -tw a b d:=by unfold tw;omega
theorem Kn(a b:Int):∀l:List DT,Ci l b a= -Ci l a b
 | []=>rfl
 | d::l=>by rw [H6,H6,Kn a b l,YF];omega
theorem PY{a b:Int}:∀{l:List DT},(∀d∈l,1<=d.2.2/\d.2.2<=9)-> -(9*(l.length:Int))<=Ci l a b/\Ci l a b<=9*(l.length:Int)
 | [],_=>by simp [Ci]
 | d::l,h=>by
  have O:=h d List.mem_cons_self
  have U:=PY (a:=a) (b:=b) (l:=l) λx K=>h x (List.mem_cons_of_mem _ K)
  rw [H6,List.length_cons]
  have Y: -9<=tw a b d/\tw a b d<=9:=by unfold tw;split <;> split <;> omega
  omega
theorem Nj{a b:Int}:∀{l:List DT},(∀d∈l,1<=d.2.2)->0<Ci l a b->∃d∈l,d.1=a/\d.2.1=b
 | [],_,h=>by simp [Ci] at h
 | d::l,O,h=>by
  by_cases hd:d.1=a/\d.2.1=b
  ·exact⟨d,List.mem_cons_self,hd⟩
  ·rw [H6] at h;have Y:=O d List.mem_cons_self;have:tw a b d<=0:=by unfold tw;rw [if_neg hd];split <;> omega
   obtain⟨x,K,U⟩:=Nj (a:=a) (b:=b) (l:=l) (λx K=>O x (List.mem_cons_of_mem _ K)) (by omega);exact⟨x,List.mem_cons_of_mem _ K,U⟩
def Mv(l:List DT)(a b:Nat):Option DT:=if 0<Ci l a b/\a≠b then some ((a:Int),(b:Int),Ci l a b) else none
def QH(l:List DT)(a k:Nat):List DT:=(List.range k).filterMap (Mv l a)
def QP(l:List DT)(n k:Nat):List DT:=(List.range k).flatMap λa=>QH l a n
def C9(o:OW):List DT:=QP o.2 o.1.length o.1.length
theorem Ib{o:OW}{d:DT}:d∈C9 o↔(0<=d.1/\d.1<o.1.length)/\(0<=d.2.1/\d.2.1<o.1.length)/\d.1≠d.2.1/\0<d.2.2/\d.2.2=Ci o.2 d.1 d.2.1:=by
 unfold C9 QP;rw [List.mem_flatMap];constructor
 ·rintro⟨a,K,hd⟩;obtain⟨b,hb,hd⟩:=List.mem_filterMap.1 hd;have K:=List.mem_range.1 K;have hb:=List.mem_range.1 hb;unfold Mv at hd;split at hd
  ·rename_i h;cases hd;exact⟨⟨by simp only;omega,by simp only;omega⟩,⟨by simp only;omega,by simp only;omega⟩,by simp only;omega,h.1,V⟩
  ·cases hd
 ·rintro⟨⟨a1,U⟩,⟨Y,Z⟩,ac,ag,O⟩;obtain⟨x,y,v⟩:=d;simp only at a1 U Y Z ac ag O;obtain⟨a,rfl⟩:∃a:Nat,x=(a:Int):=⟨x.toNat,by omega⟩;obtain⟨b,rfl⟩:∃b:Nat,y=(b:Int):=⟨y.toNat,by omega⟩;refine⟨a,List.mem_range.2 (by omega),List.mem_filterMap.2 ⟨b,List.mem_range.2 (by omega),?_⟩⟩;unfold Mv;rw [if_pos ⟨by omega,by omega⟩,← O]
theorem Rl(o:OW):(C9 o).Pairwise λx y=>x.1<y.1∨(x.1=y.1/\x.2.1<y.2.1):=by
 unfold C9 QP;rw [List.pairwise_flatMap];have K:∀{a:Nat} {k:Nat} {d:DT},d∈QH o.2 a k->d.1=(a:Int):=by
  intro a k d hd;obtain⟨b,_,hd⟩:=List.mem_filterMap.1 hd;unfold Mv at hd;split at hd
  ·cases hd;rfl
  ·cases hd
 refine⟨λa _=>?_,?_⟩
 ·unfold QH;rw [List.pairwise_filterMap];refine List.pairwise_lt_range.imp λ{b c} Y d hd e he=>?_;unfold Mv at hd he;split at hd
  ·cases hd;split at he
   ·cases he;exact .inr ⟨V,by simp only;omega⟩
   ·cases he
  ·cases hd
 ·refine List.pairwise_lt_range.imp λ{a b} Z x O y U=> .inl ?_;rw [K O,K U];omega
theorem LW(o:OW):((C9 o).map λd=>(d.1,d.2.1)).Nodup:=by
 unfold List.Nodup;rw [List.pairwise_map];exact(Rl o).imp λ{x y} h e=>by
  have:=Prod.mk.inj e;omega
theorem SL{o:OW}(h:VO o):(C9 o).length<=8:=by
 have K:=List.Nodup.length_le_of_subset (LW o) (l₂:=o.2.map λd=>(d.1,d.2.1)) λx O=>by
  obtain⟨d,hd,rfl⟩:=List.mem_map.1 O;obtain⟨_,_,_,U,Y⟩:=Ib.1 hd;obtain⟨e,he,Z,e2⟩:=Nj (l:=o.2) (λd hd=>by obtain⟨_,_,_,_,_,v,_⟩:=h.ds d hd;exact v) (Y▸U);exact List.mem_map.2 ⟨e,he,by rw [Z,e2]⟩
 rw [List.length_map,List.length_map] at K;have:=h.d8;omega
theorem RG(x:DT):∀l:List DT,(F1 x l).Perm (x::l)
 | []=> .refl _
 | y::ys=>by
  unfold F1
  split
  ·exact .refl _
  ·exact((RG x ys).cons y).trans (.swap x y ys)
theorem VM(l:List DT):(Es l).Perm l:=L4 (P:=λl=>(Es l).Perm l) (.refl _) (λl x h=>by
 rw [LR]
 exact(RG x _).trans ((h.cons x).trans (List.perm_append_comm (l₁:= [x])))) l
theorem Xd{a b:DT}(K:Gz b a=false)(O:Gz a b=false):a=b:=by
 rw [JR] at K O;obtain⟨a1,U,Y⟩:=a;obtain⟨Z,ac,ag⟩:=b;simp only at K O;have al:a1=Z:=by omega
 have e2:U=ac:=by omega
 have am:Y=ag:=by omega
 rw [al,e2,am]
theorem Yp(o:OW):Lz (C9 o):=(Rl o).imp λ{x y} h=>by rw [JR];omega
theorem PL{l:List DT}{o:OW}(h:l.Perm (C9 o)):Es l=C9 o:=
 List.Perm.eq_of_pairwise (λa b _ _ K O=>Xd K O) (SD l) (Yp o) ((VM l).trans h)
theorem Ni{α β:Type}(f:α->β){l:List α}(h:(l.map f).Nodup):l.Nodup:=OY f h
theorem Zc{F:Nat}{o:OW}{e:Int}(aq:100<F)(h:VO o):BI (Pal.iter (Mj F (o,e)) F (([]:List ((Int×Int)×Int)),0)) (λm=>KN m/\m.length<=16/\∀a b,(AZ m (a,b)).getD 0=Ci o.2 a b):=by
 have av:=h.d8;refine(Ec o.2.length (λi s=>s.2=(i:Int)/\KN s.1/\s.1.length<=2*i/\∀a b,(AZ s.1 (a,b)).getD 0=Ci (o.2.take i) a b) (Q:=λm=>KN m/\m.length<=16/\∀a b,(AZ m (a,b)).getD 0=Ci o.2 a b) ⟨V,List.nodup_nil,Nat.zero_le _,λa b=>by simp [AZ,Ci]⟩ (by omega) ?_ ?_)
 ·rintro i ⟨m,z⟩ hi ⟨K,O,U,hm⟩;simp only at K O U hm;subst K;obtain⟨_,_,_,_,Z,v6,aw⟩:=h.ds _ (List.getElem_mem hi);have hb:=λa b=>PY (a:=a) (b:=b) (l:=o.2.take i) λd hd=>by
   obtain⟨_,_,_,_,_,ag,al⟩:=h.ds _ (List.mem_of_mem_take hd);exact⟨ag,al⟩
  simp only [List.length_take] at hb;have ay:=hb o.2[i].1 o.2[i].2.1;have az:=hb o.2[i].2.1 o.2[i].1;have am:(o.2[i].2.1,o.2[i].1)≠(o.2[i].1,o.2[i].2.1):=λe=>Z (Prod.mk.inj e).2;unfold Mj
  dsimp only;refine CJ (by omega) (Ds (m:=i) V hi ?_);refine BH (Ci (o.2.take i) o.2[i].1 o.2[i].2.1+o.2[i].2.2) (by rw [hm]) (by omega) (by omega) (BH (Ci (o.2.take i) o.2[i].2.1 o.2[i].1 - o.2[i].2.2) (by rw [KW,if_neg am,hm]) (by omega) (by omega) ?_);refine BH ((i+1:Nat):Int) (by simp) (by omega) (by omega) ?_;have ac:∀(k:Int×Int) (v:Int) (q:List ((Int×Int)×Int)),(Be q k v).length<=q.length+1:=by
   intro k v q
   induction q with
   | nil=>simp [Be]
   | cons y ys a0=>unfold Be;split <;> simp <;> omega
  refine Ax ⟨V,(O.put _ _).put _ _,?_,λa b=>?_⟩
  ·simp only;have a1:=ac (o.2[i].1,o.2[i].2.1) (Ci (o.2.take i) o.2[i].1 o.2[i].2.1+o.2[i].2.2) m;have g2:=ac (o.2[i].2.1,o.2[i].1) (Ci (o.2.take i) o.2[i].2.1 o.2[i].1 - o.2[i].2.2) (Be m (o.2[i].1,o.2[i].2.1) (Ci (o.2.take i) o.2[i].1 o.2[i].2.1+o.2[i].2.2));omega
  ·simp only;rw [KW,KW,WA hi];unfold tw;by_cases Y:(a,b)=(o.2[i].2.1,o.2[i].1)
   ·obtain⟨rfl,rfl⟩:=Prod.mk.inj Y;rw [if_pos rfl,if_neg (λq=>Z q.1),if_pos ⟨rfl,rfl⟩,Option.getD_some];omega
   ·rw [if_neg Y];have ap:¬(o.2[i].1=b/\o.2[i].2.1=a):=λq=>Y (by rw [q.1,q.2]);rw [if_neg ap];by_cases e2:(a,b)=(o.2[i].1,o.2[i].2.1)
    ·obtain⟨rfl,rfl⟩:=Prod.mk.inj e2;rw [if_pos rfl,if_pos ⟨rfl,rfl⟩,Option.getD_some];omega
    ·rw [if_neg e2,if_neg (λq=>e2 (by rw [q.1,q.2])),hm];omega
 ·rintro⟨m,z⟩ ⟨K,O,U,hm⟩;simp only at K O U hm;subst K;unfold Mj
  dsimp only;exact B3 (by omega) (Ax ⟨_,V,O,by omega,λa b=>by rw [hm,List.take_length]⟩)
theorem WX{o:OW}(h:VO o){m l:List ((Int×Int)×Int)}(Z:KN m)(hm:∀a b,(AZ m (a,b)).getD 0=Ci o.2 a b)(O:l.Perm m):(ET l).Perm (C9 o):=by
 have al:KN l:=Z.perm O;have am:∀d:DT,d∈ET l↔d∈C9 o:=by
  intro d;have ap:d∈ET l↔((d.1,d.2.1),d.2.2)∈m/\0<d.2.2:=by
   unfold ET;rw [List.mem_map];constructor
   ·rintro⟨e,he,rfl⟩;obtain⟨he,U⟩:=List.mem_filter.1 he;exact⟨O.mem_iff.1 he,by simpa using U⟩
   ·rintro⟨he,U⟩;exact⟨((d.1,d.2.1),d.2.2),List.mem_filter.2 ⟨O.mem_iff.2 he,by simpa using U⟩,V⟩
  rw [ap,Ib,← Pq Z];have K:=hm d.1 d.2.1;constructor
  ·rintro⟨aq,g2⟩;rw [aq,Option.getD_some] at K;obtain⟨e,he,av,e2⟩:=Nj (l:=o.2) (λd hd=>by obtain⟨_,_,_,_,_,v,_⟩:=h.ds d hd;exact v) (K▸g2);obtain⟨v1,v2,ac,v4,Y,-⟩:=h.ds e he;rw [av] at v1 v2 Y;rw [e2] at ac v4 Y;exact⟨⟨v1,v2⟩,⟨ac,v4⟩,Y,g2,K⟩
  ·rintro⟨_,_,_,aw,ay⟩;refine⟨?_,aw⟩;cases ag:AZ m (d.1,d.2.1) with
   | none=>rw [ag] at K;simp at K;omega
   | some v=>rw [ag,Option.getD_some] at K;rw [K,ay]
 refine(List.perm_ext_iff_of_nodup ?_ ?_).2 am
 ·refine Ni (λd:DT=>(d.1,d.2.1)) ?_;have e:(ET l).map (λd:DT=>(d.1,d.2.1))=(l.filter λe=>decide (0<e.2)).map (·.1):=by
   unfold ET;rw [List.map_map];rfl
  rw [e];exact List.Nodup.sublist (List.filter_sublist.map _) al
 ·exact Ni _ (LW o)
theorem Ug{F:Nat}{o:OW}(O:100<F)(h:VO o):f45 F o=some (C9 o,0):=by
 have hlen:=SL h;refine Ex ?_;unfold f45;refine Bv (Mn (by omega) h) ?_;refine B3 (by simp) ?_;refine Bs (Zc O h) ?_;rintro m ⟨U,ac,hm⟩;rw [WM (by omega) (r:=some (C9 o,0)) λl p=>?_]
 ·exact Ax V
 ·have K:=WX h U hm p;rw [Ui O (by rw [K.length_eq];omega) λd hd=>?_,PL K]
  ·rfl
  ·have hd:=K.mem_iff.1 hd;obtain⟨⟨a1,ag⟩,⟨al,am⟩,_,ap,aq⟩:=Ib.1 hd;have hb:=PY (a:=d.1) (b:=d.2.1) (l:=o.2) λd hd=>by
    obtain⟨_,_,_,_,_,Y,Z⟩:=h.ds _ hd;exact⟨Y,Z⟩
   have:=h.n5;have:=h.d8;unfold BD;omega
theorem aD{F:Nat}{o x:OW}(K:2000<F)(h:VO o)(O:VO x)(U:o.1.length=x.1.length)(Y:CL o=CL x):f35 F o x=some true:=by
 have e:IC o=IC x:=by show FW _ _ _=FW _ _ _;rw [U,Y]
 have Z:=h.n5;refine Ex ?_;unfold f35;refine Bv (T2 K h) ?_;refine Bv (T2 K O) ?_;refine Bv (TX K h) ?_;refine Bv (TX K O) ?_;refine Bv (T3 K h) ?_;refine Bv (T3 K O) ?_;rw [e,U,Y];simp only [if_true,Option.bind_some,decide_true];refine Bs (S:=λr=>r=true) (Bv (aC (by omega) (by rw [List.length_take];omega)) (Ax V)) ?_;rintro r rfl;refine Bs (S:=λr=>r=true) (CJ V (Bv (TK (by omega) (by have:=Vn O;omega)) (Ax V))) ?_;rintro r rfl;exact Ax V
theorem ZI{w:List Int}{d:DT}(h:w.length=5)(a1:0<=d.1)(K:d.1<5)(O:0<=d.2.1)(U:d.2.1<5)(j:Nat):gN (Ky w d) j=gN w j+(if(j:Int)=d.2.1 then d.2.2 else 0)+(if(j:Int)=d.1 then -d.2.2 else 0):=by
 unfold Ky;rw [T4 (by unfold IU;rw [List.length_set];exact h) a1 K,T4 h O U]
theorem YO{w:List Int}{d:DT}(h:w.length=5):(Ky w d).length=5:=by unfold Ky IU;rw [List.length_set,List.length_set];exact h
theorem Pn{a b:Int}:∀{l:List DT},(∀d∈l,¬(d.1=a/\d.2.1=b)/\¬(d.1=b/\d.2.1=a))->Ci l a b=0
 | [],_=>rfl
 | d::l,h=>by
  obtain⟨K,O⟩:=h d List.mem_cons_self
  rw [H6,Pn (l:=l) λx U=>h x (List.mem_cons_of_mem _ U)]
  unfold tw;rw [if_neg K,if_neg O];rfl
theorem SE{a b v:Int}:∀{l:List DT},(l.map λd=>(d.1,d.2.1)).Nodup->(a,b,v)∈l->(∀d∈l,¬(d.1=b/\d.2.1=a))->Ci l a b=v
 | [],_,h,_=>by cases h
 | d::l,K,h,U=>by
  rw [List.map_cons,List.nodup_cons] at K
  have Y:=U d List.mem_cons_self
  rw [H6]
  rcases List.mem_cons.1 h with rfl | h
  ·rw [Pn (l:=l) λx O=>⟨λk=>K.1 (List.mem_map.2 ⟨x,O,by rw [k.1,k.2]⟩),U x (List.mem_cons_of_mem _ O)⟩]
   unfold tw;rw [if_pos ⟨rfl,rfl⟩,if_neg Y];simp
  ·rw [SE K.2 h λx O=>U x (List.mem_cons_of_mem _ O)];unfold tw;rw [if_neg (λk=>K.1 (List.mem_map.2 ⟨_,h,by simp only;rw [k.1,k.2]⟩)),if_neg Y];simp
theorem K9{o:OW}(h:VO o)(a b:Int):Ci (C9 o) a b=Ci o.2 a b:=by
 have key:∀a b:Int,0<Ci o.2 a b->Ci (C9 o) a b=Ci o.2 a b:=by
  intro a b U;obtain⟨e,he,Z,e2⟩:=Nj (l:=o.2) (λd hd=>by obtain⟨_,_,_,_,_,v,_⟩:=h.ds d hd;exact v) U;obtain⟨v1,v2,Y,v4,O,-⟩:=h.ds e he;rw [Z] at v1 v2 O;rw [e2] at Y v4 O;refine SE (LW o) (Ib.2 ⟨⟨v1,v2⟩,⟨Y,v4⟩,O,U,V⟩) λd hd k=>?_;obtain⟨_,_,_,ac,K⟩:=Ib.1 hd;rw [k.1,k.2,Kn a b] at K;omega
 rcases Int.lt_trichotomy (Ci o.2 a b) 0 with al | heq | ag
 ·have:=key b a (by rw [Kn a b];omega);rw [Kn a b,Kn a b] at this;omega
 ·rw [heq];refine Pn λd hd=>?_;obtain⟨_,_,_,ac,K⟩:=Ib.1 hd;refine⟨λk=>?_,λk=>?_⟩
  ·rw [k.1,k.2] at K;omega
  ·rw [k.1,k.2,Kn a b] at K;omega
 ·exact key a b ag
theorem Y6{o:OW}(h:VO o):C9 (o.1,C9 o)=C9 o:=by
 have K:(C9 (o.1,C9 o)).Perm (C9 o):=(List.perm_ext_iff_of_nodup (Ni _ (LW _)) (Ni _ (LW o))).2 λd=>by
  rw [Ib,Ib,K9 h]
 exact(PL (.refl _)).symm.trans (PL K)
theorem cB{x v:Int}{P:Prop} [Decidable P] (O:0<=x)(U:x<5):(if x=0/\P then v else 0)+(if x=1/\P then v else 0)+(if x=2/\P then v else 0)+(if x=3/\P then v else 0)+(if x=4/\P then v else 0)=if P then v else 0:=by
 have:x=0∨x=1∨x=2∨x=3∨x=4:=by omega
 by_cases K:P <;> rcases this with rfl | rfl | rfl | rfl | rfl <;> simp [K]
theorem bj{x v:Int}{P:Prop} [Decidable P] (O:0<=x)(U:x<5):(if P/\x=0 then v else 0)+(if P/\x=1 then v else 0)+(if P/\x=2 then v else 0)+(if P/\x=3 then v else 0)+(if P/\x=4 then v else 0)=if P then v else 0:=by
 have:x=0∨x=1∨x=2∨x=3∨x=4:=by omega
 by_cases K:P <;> rcases this with rfl | rfl | rfl | rfl | rfl <;> simp [K]
def T5(l:List DT)(j:Int):Int:=Ci l 0 j+Ci l 1 j+Ci l 2 j+Ci l 3 j+Ci l 4 j
theorem PZ{n:Nat}(O:n<=5)(j:Nat):∀(l:List DT) (w:List Int),(∀d∈l,VD n d)->w.length=5->gN (l.foldl Ky w) j=gN w j+T5 l j
 | [],w,_,_=>by simp [T5,Ci]
 | d::l,w,h,hw=>by
  obtain⟨v1,v2,K,v4,-⟩:=h d List.mem_cons_self
  rw [List.foldl_cons,PZ O j l _ (λx U=>h x (List.mem_cons_of_mem _ U)) (YO hw),ZI hw v1 (by omega) K (by omega)]
  unfold T5
  rw [H6,H6,H6,H6,H6]
  have Z:=cB (x:=d.1) (v:=d.2.2) (P:=d.2.1=(j:Int)) v1 (by omega)
  have ac:=bj (x:=d.2.1) (v:=d.2.2) (P:=d.1=(j:Int)) K (by omega)
  unfold tw
  have Y:(if(j:Int)=d.2.1 then d.2.2 else 0)=if d.2.1=(j:Int) then d.2.2 else 0:=by
   by_cases k:d.2.1=(j:Int)
   ·rw [if_pos k,if_pos k.symm]
   ·rw [if_neg k,if_neg (λq=>k q.symm)]
  have e2:(if(j:Int)=d.1 then -d.2.2 else 0)= -(if d.1=(j:Int) then d.2.2 else 0):=by
   by_cases k:d.1=(j:Int)
   ·rw [if_pos k,if_pos k.symm]
   ·rw [if_neg k,if_neg (λq=>k q.symm)];rfl
  rw [Y,e2];omega
theorem YY{o:OW}(h:VO o)(K:VO (o.1,C9 o)):CL o=CL (o.1,C9 o):=by
 have O:=h.n5;obtain⟨-,U⟩:=Lf (F:=101) (by omega) h;obtain⟨-,Y⟩:=Lf (F:=101) (by omega) K;refine Xn U.1 Y.1 λj Z=>?_;unfold CL;rw [PZ O j o.2 _ h.ds (by simp),PZ O j (C9 o) _ K.ds (by simp)];unfold T5;rw [K9 h,K9 h,K9 h,K9 h,K9 h]
theorem YC{o:OW}{c:List Int}(h:c∈Dh o 2):∃a b,c= [a,b]/\Gb o a b=true:=by
 obtain⟨c1,U,O⟩:=List.mem_flatMap.1 h;have Y:=(Mk o 1 c1 U).1;unfold ext Iu at O;obtain⟨k,K,rfl⟩:=List.mem_map.1 O;have K:=(List.mem_filter.1 K).2
 match c1,Y with
 | [a],_=>
  refine⟨a,k,V,?_⟩;unfold I0 at K;simp only [Bool.and_eq_true,Bool.or_eq_true] at K;rcases K.2 with q | q
  ·simp at q
  ·exact q
theorem Sj{o:OW}{a b:Int}(h:Gb o a b=true):∃d∈o.2,d.1=a/\d.2.1=b:=by
 unfold Gb at h;rw [List.any_eq_true] at h;obtain⟨d,hd,h⟩:=h;rw [Bool.and_eq_true] at h;exact⟨d,hd,of_decide_eq_true h.1,of_decide_eq_true h.2⟩
theorem Z4{o:OW}{r:List Int×Int}(h:ME (o.1,C9 o) r):r.2=11∨(r.2=0/\3<=r.1.length):=by
 rcases h with⟨k,k1,ap,-,O,U⟩ | ⟨-,rfl⟩
 ·refine .inr ⟨U,?_⟩;have hm:=List.mem_of_find?_eq_some O;have aq:=(Mk _ k _ hm).1;rcases Nat.lt_or_ge 2 k with Y | Y
  ·omega
  ·obtain rfl:k=2:=by omega
   obtain⟨a,b,e,Z⟩:=YC hm;have K:IB (o.1,C9 o) r.1=true:=List.find?_some O;rw [e] at K;replace K:Gb (o.1,C9 o) b a=true:=K;obtain⟨d,hd,d1,d2⟩:=Sj Z;obtain⟨x,ac,ag,x2⟩:=Sj K;obtain⟨_,_,_,p4,al⟩:=Ib.1 hd;obtain⟨_,_,_,av,am⟩:=Ib.1 ac;rw [d1,d2] at al;rw [ag,x2,Kn a b] at am;omega
 ·exact .inl V
theorem ZT{F:Nat}(ag:4000<F)(Z:f18 F=some true)(QL:List Int):f10 F QL=some true:=by
 refine Ex ?_;unfold f10;refine Bv (b:=(QL,0,2685821657736338717)) V (Bs (aY (pm:=5) (dm:=8) (by omega) (k:=0) ⟨Int.le_refl _,Int.le_refl _⟩ (by omega) (by omega) (by omega) (by omega)) ?_);rintro⟨o,ac⟩ ⟨K,al,hd,am⟩;simp only at K al hd am ⊢;have hlen:=SL K;refine Bv (Ug (by omega) K) (Bs (S:=λq=>q=false) (B3 (by simp) (Ax (decide_eq_false (by simp only;omega)))) ?_);rintro q rfl;refine B3 (by simp) (Bs (S:=λq=>q=Sum.inl true∨(q=Sum.inr ()/\∀d∈C9 o,d.2.2<=9)) ?_ ?_)
 ·refine Ec (C9 o).length (λi s=>s=(i:Int)/\∀d∈(C9 o).take i,d.2.2<=9) ⟨V,by simp⟩ (by omega) ?_ ?_
  ·rintro i s hi ⟨rfl,O⟩;unfold NS;refine CJ (by simp only;omega) (Ds (m:=i) V hi ?_);refine Bs (S:=λq=>q=decide (9<(C9 o)[i].2.2)) ?_ ?_
   ·refine Cn (λk=>Ax (decide_eq_true k).symm) (λk=>Ax ?_);rw [decide_eq_false k];exact decide_eq_false (by simp only;omega)
   ·rintro q rfl;refine Cn (λk=>Bv Z (Ax (.inl V))) (λk=>?_);exact BH ((i+1:Nat):Int) (by simp) (by omega) (by omega) (Ax ⟨V,Ny hi O (by have:¬9<(C9 o)[i].2.2:=λq=>k (decide_eq_true q);omega)⟩)
  ·rintro s ⟨rfl,O⟩;unfold NS;rw [List.take_length] at O;exact B3 (by simp only;omega) (Ax ⟨_,V,.inr ⟨V,O⟩⟩)
 ·rintro q (rfl | ⟨rfl,ap⟩)
  ·exact Ax V
  ·rw [Sum.elim_inr];have U:VO (o.1,C9 o):=⟨K.n2,K.n5,K.cs,hlen,λd hd=>by
    obtain⟨⟨a1,aq⟩,⟨ac,av⟩,aw,ay,az⟩:=Ib.1 hd
    exact⟨a1,aq,ac,av,aw,by omega,ap d hd⟩⟩
   refine Bv (Ug (by omega) U) (Bs (Zv ag U) ?_);rintro⟨r,e⟩ Y;have Y:=Z4 Y;simp only at Y;rw [Y6 K];refine Bs (S:=λq=>q=false) (B3 (by simp) (Bv (TK (by omega) (by simp only;omega)) (Ax V))) ?_;rintro q rfl;refine Bs (S:=λq=>q=false) (B3 (by simp) ?_) ?_
   ·refine Cn (λk=>Ax (decide_eq_false λq=>?_)) (λ_=>Ax V);simp only at k q;omega
   rintro q rfl;refine Bs (S:=λq=>q=false) (B3 (by simp) ?_) ?_
   ·refine Cn (λk=>Ax (decide_eq_false λq=>?_)) (λ_=>Ax V);simp only at k q;omega
   rintro q rfl;refine B3 (by simp) (Bv (aD (by omega) K U V (YY K U)) ?_);refine Bs (S:=λq=>q=true) (CJ V (Bv Z (Ax V))) ?_;rintro q rfl;exact Ax V
end Pal
