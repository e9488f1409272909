/- DebtFewest states that the payments of Fewest are right and in order: a part (5 of 9) of the proof of its row. -/
import Derived.Test.YtmeophcclkejkaaGreatDoorFea
import Derived.Test.YtmeophcclkejkaaGreatDoorFeb
import Derived.Test.YtmeophcclkejkaaGreatDoorFec
import Derived.Test.YtmeophcclkejkaaGreatDoorFed
import Derived.Handed
import Derived.LaidLaws
import Derived.LaidHandle
import Derived.Test.YtmeophcclkejkaaGreatDoorRows
import Derived.Test.YtmeophcclkejkaaGreatDoorChecked
import Derived.Conc.LeavingOf
import Derived.Conc.HoldsTime
import Derived.Carry
import Derived.ChangeSame
import Derived.ChangeVars
import Derived.ChangeSlices
import Derived.JoinedOf
import Derived.RowKit
import Derived.Deep.Strs
import Derived.Stop.Joined
set_option linter.all false
set_option maxRecDepth 100000
namespace Pal
open Go Go.Conc Go.Conc.Lib Go.Proofs Go.ConcR.Gen
theorem JL.uA{J:Judge Tryz.prog}{F:Fam}{Q:GP}{b:Frame}{n:Nat}{L:Env}{ds:Ld_}{k:Li_}{cs:Lf_}{s:St}{ops:Ao_}{i:Nat}{rest:List Nat}{d:Option Tmp}{x:Operand}{ty:TypeId}{p:String}{af:Ae_}{g:On_}(K:FE b n L ops i=some ⟨d,.fieldAddr 136 x 0,ty,p,af,g⟩)(O:ev L x=some (.pointer (some F.uA)))(h:JL J Q b n (Av L d (.pointer (some F.uA))) ds (.inRegion ops rest::k) cs s):JL J Q b n L ds (.inRegion ops (i::rest)::k) cs s:=Am K (λρ h=>GV (a:=F.uA) 0 0 Tryz.underlying136 (AM Tryz.type21) V V V (h _ _ O)) h
theorem e9{P:Program}{J:Judge P}{Q:GP}{n:Nat}{L:Env}{ds:Ld_}{c:Code}{k:Li_}{cs:Lf_}{s:St}{b:Frame}(h:∀K,K=k->JL J Q b n L ds (.code c::K) cs s):JL J Q b n L ds (.code c::k) cs s:=h _ V
theorem VU{P:Program}{J:Judge P}{Q:GP}{n:Nat}{L:Env}{ds:Ld_}{k:Li_}{cs:Lf_}{s:St}{b:Frame}(h:∀K,K=k->JL J Q b n L ds K cs s):JL J Q b n L ds k cs s:=h _ V
theorem IK:(Tryz.prog.funcs[168]?).any (·.norace)=true:=by rw [Tryz.func168];rfl
theorem gx:(Tryz.prog.funcs[136]?).any (·.norace)=true:=by rw [Tryz.func136];rfl
theorem fH:(Tryz.prog.funcs[170]?).any (·.norace)=true:=by rw [Tryz.func170];rfl
theorem Rn:(Tryz.prog.funcs[192]?).any (·.norace)=true:=by rw [Tryz.func192];rfl
theorem QL:(Tryz.prog.info? 136).map (λi=>decide (i.size=0))=some false:=(congrArg (Option.map (λi=>decide (i.size=0))) Tryz.type136).trans V
abbrev Ho:=Bool×Bool×Nat×M4×Int
def V6(a:Ho):Prop:=(a.2.1=true->a.2.2.2.1.k=true)/\a.2.2.1<=4/\Dh a.2.2.2.1
def Rg(a:Ho):LP:= .Cn a.1 a.2.1 a.2.2.1 a.2.2.2.1
theorem aI{F:Fam}{sv aw:Bool}{it:Nat}{old:M4}{q:Nat}(h:old.l=false/\old.s=false):(mN sv aw old,q,#[Fam.Cf F.uA,Fam.EC F.uA],some LP.len)∈F.B2 (.Cn sv aw it old) old q:=by
 obtain⟨l,k,s,w⟩:=old;obtain⟨K,O⟩:=h;simp only at K O;subst K O;simp [Fam.B2,Fam.FO,mN]
theorem TR{F:Fam}{sv aw:Bool}{it:Nat}{old:M4}{q:Nat}(h:¬(old.l=false/\old.s=false))(x:LP)(K:x= .IS sv∨x= .Cz sv):(mN sv aw old,q,#[Fam.Cf F.uA,Fam.EC F.uA],some x)∈F.B2 (.Cn sv aw it old) old q:=by
 obtain⟨l,k,s,w⟩:=old;show _∈F.FO _ _ _ _ _ _;unfold Fam.FO;rw [List.mem_append];right;rw [if_pos rfl,if_neg h];cases l <;> cases s <;> simp [mN] at h ⊢ <;> rcases K with rfl | rfl <;> simp
theorem YX{F:Fam}{sv aw:Bool}{it:Nat}{old m:M4}{q:Nat}(h:m≠old):(m,q,#[Fam.Cf F.uA],some (LP.Eu sv aw it))∈F.B2 (.Cn sv aw it old) m q:=by
 show _∈F.FO _ _ _ _ _ _;unfold Fam.FO;rw [List.mem_append];right;rw [if_neg h];exact List.mem_singleton.2 V
theorem aR{F:Fam}{sv:Bool}{it:Nat}{old:M4}{q:Nat}(K:old.l=true/\old.s=false)(O:it<4)(U:old.k=false)(Y:old.w≠0):(({old with k:=true}:M4),q,#[Fam.Cf F.uA,Fam.EC F.uA],some (LP.Eu sv true (it+1)))∈F.B2 (.Cn sv false it old) old q:=by
 show _∈F.FO _ _ _ _ _ _;unfold Fam.FO;rw [List.mem_append];left;rw [if_pos ⟨K.1,K.2,O⟩,if_pos ⟨rfl,U,Y⟩,if_pos rfl];exact List.mem_singleton.2 V
theorem aP{F:Fam}{sv:Bool}{it:Nat}{old m:M4}{q:Nat}(K:old.l=true/\old.s=false)(O:it<4)(U:old.k=false)(Y:old.w≠0)(hm:m≠old):(m,q,#[Fam.Cf F.uA],some (LP.Eu sv false (it+1)))∈F.B2 (.Cn sv false it old) m q:=by
 show _∈F.FO _ _ _ _ _ _;unfold Fam.FO;rw [List.mem_append];left;rw [if_pos ⟨K.1,K.2,O⟩,if_pos ⟨rfl,U,Y⟩,if_neg hm];exact List.mem_singleton.2 V
theorem Qu{F:Fam}{sv aw:Bool}{it:Nat}{old m:M4}{q:Nat}(K:old.l=true/\old.s=false)(O:it<4)(U:¬(aw=false/\old.k=false/\old.w≠0)):(m,q,#[],some (LP.Cn sv aw (it+1) m))∈F.B2 (.Cn sv aw it old) m q:=by
 show _∈F.FO _ _ _ _ _ _;unfold Fam.FO;rw [List.mem_append];left;rw [if_pos ⟨K.1,K.2,O⟩,if_neg U];exact List.mem_singleton.2 V
theorem Hn(m:M4)(h:m.s=true):m={m with l:=m.l || !m.s}:=by
 obtain⟨l,k,s,w⟩:=m;simp only at h;subst h;simp
set_option maxHeartbeats 4000000 in
theorem XL{F:Fam}{n:Nat}{L:Env}{ds:Ld_}{k:Li_}{cs:Lf_}{s:St}{b:Frame}{ops:Ao_}{i:Nat}{rest:List Nat}{d:Option Tmp}{x:Operand}{ats:Array TypeId}{ty:TypeId}{pp:String}{af:Ae_}{g:On_}{kk:Nat}(ac:s.q=false)(c7:ops[i]? =some ⟨d,.call ⟨.value (.func 168),#[x],ats⟩,ty,pp,af,g⟩)(hw:AP L ops ⟨d,.call ⟨.value (.func 168),#[x],ats⟩,ty,pp,af,g⟩=some true)(c8:((b.kind != .early)&&Bj n d)=true)(c9:ev L x=some (.pointer (some F.uA)))
  (h:JL (AX Tryz.prog false) (Stop Tryz.prog F (.lk kk .FR)) b n (Av L d (.tuple #[])) ds (.inRegion ops rest::k) cs s):
  JL (AX Tryz.prog false) (Stop Tryz.prog F (.lk kk (.Eu false false 0))) b n L ds (.inRegion ops (i::rest)::k) cs s:=by
 refine HA (vs:= [.pointer (some F.uA)]) c7 hw c8 Tryz.func168 (by decide+kernel) V (by simp [evs,c9]) (Nat.le_of_ble_eq_true V) λb6 back=>C 20 V (JL.uA V V ?_);refine HB (kk:=kk) (p:= .Eu false false 0) Db.stop ac V V V V V Ht IK V λca el b1=>⟨some (.Cn false false 0 ca),List.mem_singleton.2 V,?_⟩;refine C 3 V (e9 λdd dn=>?_);have a1:∀X:Ph->GP,Db Tryz.prog F X->(∀p g s,Stop Tryz.prog F p g s->X p g s)->∀L',look L' 0=some (.pointer (some F.uA))->JL (AX Tryz.prog false) (X (.lk kk .len)) (base 168) Tryz.f168.ntmps L' [] dd (b6::cs) s:=by
  intro X O ay L' ea;rw [dn];refine EH (L':= [(0,.pointer (some F.uA))]) ⟨ea,trivial⟩ (C 3 V ?_);refine LS (kk:=kk) (p:= .len) O ac V (λ_ _=>V) V V V V (by simp) Pp (C 3 V ?_);refine P7 (kk:=kk) (p:= .Lu) O ac V (λ_ _=>V) V V V V Tryz.underlying247 Tryz.underlying174 QL V (QG (kk:=kk) (p:= .Kz) (ad:=F.uA) O ac V (λ_ _=>V) V V V V (by simp) V8 V V ?_);refine JL.done (JL.fin V V (BE.none Tryz.func168 V) (back _ _ _ _ ?_));exact N3 (λg s=>ay _ g s) h
 refine JL.block (IC ?_);refine EJ [(0,.pointer (some F.uA)),(2,iV 0),(3,.bool false),(4,.bool false),(5,iV ((0:Nat):Int)),(6,.int .i32 (ca:M4).num)] V (VU λcc a6=>?_);refine Vu (P:=Tryz.prog) (F:=F) (s:=s) (kk:=kk) (ph:=Rg) (ok:=V6) (head:=λ(X:Ph->GP) (a:Ho)=>JL (AX Tryz.prog false) (X (.lk kk (Rg a))) (base 168) Tryz.f168.ntmps ([(0,.pointer (some F.uA)),(2,iV a.2.2.2.2),(3,.bool a.1),(4,.bool a.2.1),(5,iV (a.2.2.1:Int)),(6,.int .i32 (a.2.2.2.1:M4).num)]) [] cc (b6::cs) s) ?_ (false,false,0,ca,0) ⟨(λe=>by cases e),Nat.zero_le _,b1.2.2.1⟩;intro Y b2 em hC;have key:∀N (a:Ho),4 - a.2.2.1<N->V6 a->(λ(X:Ph->GP) (a:Ho)=>JL (AX Tryz.prog false) (X (.lk kk (Rg a))) (base 168) Tryz.f168.ntmps ([(0,.pointer (some F.uA)),(2,iV a.2.2.2.2),(3,.bool a.1),(4,.bool a.2.1),(5,iV (a.2.2.1:Int)),(6,.int .i32 (a.2.2.2.1:M4).num)]) [] cc (b6::cs) s) Y a:=by
  intro N
  induction N with
  | zero=>intro a co;omega
  | succ N b3=>
   rintro⟨sv,aw,it,old,wt⟩ eb b1;simp only at eb;have ec:aw=true->old.k=true:=b1.1;have ce:Dh old:=b1.2.2;have a2:Co old:=ce.Co;show JL (AX Tryz.prog false) (Y (.lk kk (.Cn sv aw it old))) (base 168) Tryz.f168.ntmps [(0,.pointer (some F.uA)),(2,iV wt),(3,.bool sv),(4,.bool aw),(5,iV (it:Int)),(6,.int .i32 (old:M4).num)] [] cc (b6::cs) s;rw [a6];refine C 2 V (Bt (λL s'=>s=s'/\L= [(0,.pointer (some F.uA)),(2,iV wt),(3,.bool sv),(4,.bool aw),(5,iV (it:Int)),(6,.int .i32 (old:M4).num)]) ?_ ?_)
   rotate_left
   ·intro az;refine C 3 V (Am (v:=C3 (BC old&&& 5)) V (λρ h=>EG (c:=5) a2 (h _ _ V) (h _ _ V) (by decide)) ?_);refine C 2 V (Mw (q:=((BC old&&& 5:Nat):Int)=1) (i:=17) V (λcp=>?_) (λcp=>?_))
    ·refine Am (v:=iV (it:Int)) V (λρ h=>Yl.move (h _ _ V)) (JL.canSpin (it:=(it:Int)) ac V V V V cH V (λGF=>?_) ?_)
     ·refine Am (v:= .bool true) V (λρ h=>Mv (h _ _ V) (h _ _ V)) ?_;have a3:=(gC old).1 cp;refine C 5 V ?_;have b4:it<4:=by omega
      refine C 1 V (Am (v:= .bool (!aw)) V (λρ h=>Yl.not (h _ _ V)) ?_);refine C 1 V (K0 (c:= !aw) (i:=23) V (λc1=>?_) (λc1=>?_))
      ·refine Am (v:= .int .i32 (old:M4).num) V (λρ h=>Yl.move (h _ _ V)) (Am (v:=C3 (BC old&&& 2)) V (λρ h=>EG (c:=2) a2 (h _ _ V) (h _ _ V) (by decide)) ?_);refine C 3 V (Mw (q:=((BC old&&& 2:Nat):Int)=0) (i:=28) V (λc2=>?_) (λc2=>?_))
       ·refine Am (v:= .int .i32 (old:M4).num) V (λρ h=>Yl.move (h _ _ V)) (Am (v:=C3 old.w) V (λρ h=>I8 a2 (h _ _ V) (h _ _ V)) ?_);refine C 3 V (Mw (q:=(old.w:Int)≠0) (i:=33) V (λc3=>?_) (λc3=>?_))
        ·have ed:aw=false:=by simpa using c1
         subst ed;have ct:=(Rq old).1 c2;have cw:old.w≠0:=by omega
         refine C 2 V (JL.uA V V ?_);refine C 2 V (Am (v:= .int .i32 ({old with k:=true}:M4).num) V (λρ h=>ON (c:=2) a2 (by decide) (RF old) V (h _ _ V) (h _ _ V)) ?_);refine TC (kk:=kk) (p:= .Cn sv false it old) (old:=old) (nw:={old with k:=true}) b2 ac V V V V V Pa V V V (λq a4=>⟨some (.Eu sv true (it+1)),aR a3 b4 ct cw,?_⟩) (λm q hm a4=>⟨some (.Eu sv false (it+1)),aP a3 b4 ct cw hm,?_⟩)
         ·refine Am (v:= .bool true) V (λρ h=>Mv (h _ _ V) (h _ _ V)) (C 7 V ?_);refine JL.ext (v:= .tuple #[]) V V V MC V V (C 4 V ?_);refine Am (v:=iV ((it+1:Nat):Int)) V (λρ h=>FY (h _ _ V) (h _ _ V) (by unfold Au;rw [if_pos (by omega)];congr 1)) (C 6 V ?_);refine JL.uA V V (HB (kk:=kk) (p:= .Eu sv true (it+1)) b2 ac V V V V V Ht IK V λa7 cy bv=>⟨some (.Cn sv true (it+1) a7),List.mem_singleton.2 V,?_⟩);refine C 3 V (JL.again ?_);rw [← a6];exact EJ [(0,.pointer (some F.uA)),(2,iV wt),(3,.bool sv),(4,.bool true),(5,iV ((it+1:Nat):Int)),(6,.int .i32 (a7:M4).num)] V (b3 (sv,true,it+1,a7,wt) (by show 4 - (it+1)<N;omega) ⟨bv.2.2.2,(by show it+1<=4;omega),bv.2.2.1⟩)
         ·refine Am (v:= .bool false) V (λρ h=>Mv (h _ _ V) (h _ _ V)) (C 5 V ?_);refine JL.ext (v:= .tuple #[]) V V V MC V V (C 4 V ?_);refine Am (v:=iV ((it+1:Nat):Int)) V (λρ h=>FY (h _ _ V) (h _ _ V) (by unfold Au;rw [if_pos (by omega)];congr 1)) (C 6 V ?_);refine JL.uA V V (HB (kk:=kk) (p:= .Eu sv false (it+1)) b2 ac V V V V V Ht IK V λa7 cy bv=>⟨some (.Cn sv false (it+1) a7),List.mem_singleton.2 V,?_⟩);refine C 3 V (JL.again ?_);rw [← a6];exact EJ [(0,.pointer (some F.uA)),(2,iV wt),(3,.bool sv),(4,.bool false),(5,iV ((it+1:Nat):Int)),(6,.int .i32 (a7:M4).num)] V (b3 (sv,false,it+1,a7,wt) (by show 4 - (it+1)<N;omega) ⟨bv.2.2.2,(by show it+1<=4;omega),bv.2.2.1⟩)
        ·refine IT V V V (C 12 V ?_);refine JL.ext (v:= .tuple #[]) V V V MC V V (C 4 V ?_);refine Am (v:=iV ((it+1:Nat):Int)) V (λρ h=>FY (h _ _ V) (h _ _ V) (by unfold Au;rw [if_pos (by omega)];congr 1)) (C 6 V ?_);refine JL.uA V V (HB (kk:=kk) (p:= .Cn sv aw it old) b2 ac V V V V V Ht IK V λm q a4=>⟨some (.Cn sv aw (it+1) m),Qu a3 b4 (λe=>c3 (by omega)),?_⟩);refine C 3 V (JL.again ?_);rw [← a6];exact EJ [(0,.pointer (some F.uA)),(2,iV wt),(3,.bool sv),(4,.bool aw),(5,iV ((it+1:Nat):Int)),(6,.int .i32 (m:M4).num)] V (b3 (sv,aw,it+1,m,wt) (by show 4 - (it+1)<N;omega) ⟨a4.2.2.2.2.2,(by show it+1<=4;omega),a4.2.2.2.2.1⟩)
       ·refine IT V V V (C 17 V ?_);refine JL.ext (v:= .tuple #[]) V V V MC V V (C 4 V ?_);refine Am (v:=iV ((it+1:Nat):Int)) V (λρ h=>FY (h _ _ V) (h _ _ V) (by unfold Au;rw [if_pos (by omega)];congr 1)) (C 6 V ?_);refine JL.uA V V (HB (kk:=kk) (p:= .Cn sv aw it old) b2 ac V V V V V Ht IK V λm q a4=>⟨some (.Cn sv aw (it+1) m),Qu a3 b4 (λe=>c2 ((Rq old).2 e.2.1)),?_⟩);refine C 3 V (JL.again ?_);rw [← a6];exact EJ [(0,.pointer (some F.uA)),(2,iV wt),(3,.bool sv),(4,.bool aw),(5,iV ((it+1:Nat):Int)),(6,.int .i32 (m:M4).num)] V (b3 (sv,aw,it+1,m,wt) (by show 4 - (it+1)<N;omega) ⟨a4.2.2.2.2.2,(by show it+1<=4;omega),a4.2.2.2.2.1⟩)
      ·refine IT V V V (C 22 V ?_);refine JL.ext (v:= .tuple #[]) V V V MC V V (C 4 V ?_);refine Am (v:=iV ((it+1:Nat):Int)) V (λρ h=>FY (h _ _ V) (h _ _ V) (by unfold Au;rw [if_pos (by omega)];congr 1)) (C 6 V ?_);refine JL.uA V V (HB (kk:=kk) (p:= .Cn sv aw it old) b2 ac V V V V V Ht IK V λm q a4=>⟨some (.Cn sv aw (it+1) m),Qu a3 b4 (λe=>by rw [e.1] at c1;cases c1),?_⟩);refine C 3 V (JL.again ?_);rw [← a6];exact EJ [(0,.pointer (some F.uA)),(2,iV wt),(3,.bool sv),(4,.bool aw),(5,iV ((it+1:Nat):Int)),(6,.int .i32 (m:M4).num)] V (b3 (sv,aw,it+1,m,wt) (by show 4 - (it+1)<N;omega) ⟨a4.2.2.2.2.2,(by show it+1<=4;omega),a4.2.2.2.2.1⟩)
     ·refine Am (v:= .bool false) V (λρ h=>Mv (h _ _ V) (h _ _ V)) (C 3 V ?_);exact AB (az _ _ ⟨V,V⟩) V
    ·refine IT V V V (C 5 V ?_);exact AB (az _ _ ⟨V,V⟩) V
   rintro _ _ ⟨rfl,rfl⟩;refine C 6 V (Bt (λL s'=>s=s'/\L= [(0,.pointer (some F.uA)),(2,iV wt),(3,.bool sv),(4,.bool aw),(5,iV (it:Int)),(6,.int .i32 (old:M4).num),(7,.int .i32 ({old with l:=old.l || !old.s}:M4).num)]) ?_ ?_)
   rotate_left
   ·intro az;refine C 3 V (Am (v:=C3 (BC old&&& 4)) V (λρ h=>EG (c:=4) a2 (h _ _ V) (h _ _ V) (by decide)) ?_);refine C 2 V (Gt (p:=((BC old&&& 4:Nat):Int)=0) V (λc=>?_) (λc=>?_))
    ·refine JL.region (C 1 V ?_);refine Am (v:= .int .i32 ({old with l:=true}:M4).num) V (λρ h=>ON (c:=1) a2 (by decide) (gK old) V (h _ _ V) (h _ _ V)) (C 2 V ?_);refine EH ?_ (az _ _ ⟨V,V⟩);exact⟨V,V,V,V,V,V,congrArg (λm:M4=>some (Value.int .i32 m.num)) (by rw [(Ih old).1 c];simp),trivial⟩
    ·refine JL.skip (EH ?_ (az _ _ ⟨V,V⟩));exact⟨V,V,V,V,V,V,congrArg (λm:M4=>some (Value.int .i32 m.num)) ((Bool.eq_false_or_eq_true old.s).elim (Hn old) (λhh=>absurd ((Ih old).2 hh) c)),trivial⟩
   rintro _ _ ⟨rfl,rfl⟩;have eo:Co {old with l:=old.l || !old.s}:=a2;refine JL.seq (Bt (λL s'=>s=s'/\L= [(0,.pointer (some F.uA)),(2,iV wt),(3,.bool sv),(4,.bool aw),(5,iV (it:Int)),(6,.int .i32 (old:M4).num),(7,.int .i32 ({old with l:=old.l || !old.s,w:=if old.l=true∨old.s=true then old.w+1 else old.w}:M4).num)]) ?_ ?_)
   rotate_left
   ·intro az;refine C 3 V (Am (v:=C3 (BC old&&& 5)) V (λρ h=>EG (c:=5) a2 (h _ _ V) (h _ _ V) (by decide)) ?_);refine C 2 V (Gt (p:=((BC old&&& 5:Nat):Int)≠0) V (λc=>?_) (λc=>?_))
    ·refine JL.region (C 1 V ?_);refine Am (v:= .int .i32 ({old with l:=old.l || !old.s,w:=old.w+1}:M4).num) V (λρ h=>bI (m:={old with l:=old.l || !old.s}) ce (h _ _ V) (h _ _ V)) (C 2 V ?_);refine EH ?_ (az _ _ ⟨V,V⟩);exact⟨V,V,V,V,V,V,congrArg (λm:M4=>some (Value.int .i32 m.num)) (by rw [if_pos (by have:=λe=>c ((M9 old).2 e);cases ep:old.l <;> cases er:old.s <;> simp_all)]),trivial⟩
    ·refine JL.skip (EH ?_ (az _ _ ⟨V,V⟩));exact⟨V,V,V,V,V,V,congrArg (λm:M4=>some (Value.int .i32 m.num)) (by rw [if_neg (by have:=(M9 old).1 (Decidable.not_not.1 c);rw [this.1,this.2];simp)]),trivial⟩
   rintro _ _ ⟨rfl,rfl⟩;have c0:Co ({old with l:=old.l || !old.s,w:=if old.l=true∨old.s=true then old.w+1 else old.w}:M4):=by unfold Dh at ce;unfold Co;simp only;split <;> omega
   refine JL.seq (Bt (λL s'=>s=s'/\L= [(0,.pointer (some F.uA)),(2,iV wt),(3,.bool sv),(4,.bool aw),(5,iV (it:Int)),(6,.int .i32 (old:M4).num),(7,.int .i32 ({old with l:=old.l || !old.s,s:=old.s || (sv&&old.l),w:=if old.l=true∨old.s=true then old.w+1 else old.w}:M4).num)]) ?_ ?_)
   rotate_left
   ·intro az;refine C 4 V (K0 (c:=sv) (i:=61) V (λc1=>?_) (λc1=>?_))
    ·refine Am (v:= .int .i32 (old:M4).num) V (λρ h=>Yl.move (h _ _ V)) (Am (v:=C3 (BC old&&& 1)) V (λρ h=>EG (c:=1) a2 (h _ _ V) (h _ _ V) (by decide)) ?_);refine C 3 V (Gt (p:=((BC old&&& 1:Nat):Int)≠0) V (λc=>?_) (λc=>?_))
     ·refine JL.region (C 1 V ?_);refine Am (v:= .int .i32 ({old with s:=true,l:=old.l || !old.s,w:=if old.l=true∨old.s=true then old.w+1 else old.w}:M4).num) V (λρ h=>ON (c:=4) (m:={old with l:=old.l || !old.s,w:=if old.l=true∨old.s=true then old.w+1 else old.w}) c0 (by decide) (gR _) V (h _ _ V) (h _ _ V)) ?_
      refine C 2 V (EH ?_ (az _ _ ⟨V,V⟩));exact⟨V,V,V,V,V,V,congrArg (λm:M4=>some (Value.int .i32 m.num)) (by rcases Bool.eq_false_or_eq_true old.l with hh | hh <;> first | exact absurd ((Rf old).2 hh) c | (rw [c1,hh];simp)),trivial⟩
     ·refine JL.skip (EH ?_ (az _ _ ⟨V,V⟩));exact⟨V,V,V,V,V,V,congrArg (λm:M4=>some (Value.int .i32 m.num)) (by have:=(Rf old).1 (Decidable.not_not.1 c);rw [this];simp),trivial⟩
    ·refine IT V V V (C 6 V ?_);refine EH ?_ (az _ _ ⟨V,V⟩);exact⟨V,V,V,V,V,V,congrArg (λm:M4=>some (Value.int .i32 m.num)) (by rw [c1];simp),trivial⟩
   rintro _ _ ⟨rfl,rfl⟩;have c4:Co ({old with l:=old.l || !old.s,s:=old.s || (sv&&old.l),w:=if old.l=true∨old.s=true then old.w+1 else old.w}:M4):=c0
   refine JL.seq (Bt (λL s'=>s=s'/\L= [(0,.pointer (some F.uA)),(2,iV wt),(3,.bool sv),(4,.bool aw),(5,iV (it:Int)),(6,.int .i32 (old:M4).num),(7,.int .i32 (mN sv aw old:M4).num)]) ?_ ?_)
   rotate_left
   ·intro az;refine C 4 V (Qo (t:=aw) V (λc=>?_) (λc=>?_))
    ·have c5:old.k=true:=ec c;refine C 4 V ?_;refine Am (v:=C3 (BC ({old with l:=old.l || !old.s,s:=old.s || (sv&&old.l),w:=if old.l=true∨old.s=true then old.w+1 else old.w}:M4)&&& 2)) V (λρ h=>EG (c:=2) (m:={old with l:=old.l || !old.s,s:=old.s || (sv&&old.l),w:=if old.l=true∨old.s=true then old.w+1 else old.w}) c4 (h _ _ V) (h _ _ V) (by decide)) ?_
     refine Am (v:= .bool false) V (λρ h=>Yl.to (Yl.eql (h _ _ V) (h _ _ V)) (by rw [decide_eq_false (λe=>by have q:=(Rq _).1 e;simp only at q;rw [c5] at q;cases q)])) (C 5 V ?_);refine Am (v:= .int .i32 ({old with k:=false,l:=old.l || !old.s,s:=old.s || (sv&&old.l),w:=if old.l=true∨old.s=true then old.w+1 else old.w}:M4).num) V (λρ h=>Yl.Qv (m:={old with l:=old.l || !old.s,s:=old.s || (sv&&old.l),w:=if old.l=true∨old.s=true then old.w+1 else old.w}) c4 c5 (h _ _ V) (h _ _ V)) ?_
     refine C 2 V (EH ?_ (az _ _ ⟨V,V⟩));exact⟨V,V,V,V,V,V,congrArg (λm:M4=>some (Value.int .i32 m.num)) (by simp [mN,c]),trivial⟩
    ·refine JL.skip (EH ?_ (az _ _ ⟨V,V⟩));exact⟨V,V,V,V,V,V,congrArg (λm:M4=>some (Value.int .i32 m.num)) (by simp [mN,c]),trivial⟩
   rintro _ _ ⟨rfl,rfl⟩;refine C 4 V (JL.uA V V ?_);refine C 2 V (λT ee=>(AX Tryz.prog false).stop (hC (sv,aw,it,old,wt) _ b1 λX eu ef O ay b5=>?_));refine Qf (kk:=kk) (p:= .Cn sv aw it old) (old:=old) (nw:=mN sv aw old) ef ac V V V V V Pa V V V (λq a4=>?_) (λm q hm a4=>⟨some (.Eu sv aw it),YX hm,?_⟩) T ee
   ·by_cases a3:old.l=false/\old.s=false
    ·refine⟨some .len,aI a3,?_⟩;refine C 6 V (Am (v:=C3 (BC old&&& 5)) V (λρ h=>EG (c:=5) a2 (h _ _ V) (h _ _ V) (by decide)) ?_);refine Am (v:= .bool true) V (λρ h=>Yl.to (Yl.eql (h _ _ V) (h _ _ V)) (by rw [decide_eq_true ((M9 old).2 a3)])) (C 3 V ?_);exact a1 X O ay _ V
    ·by_cases c6:wt=0
     ·refine⟨some ((.IS sv)),TR a3 _ (.inl V),?_⟩;refine C 6 V (Am (v:=C3 (BC old&&& 5)) V (λρ h=>EG (c:=5) a2 (h _ _ V) (h _ _ V) (by decide)) ?_);refine Am (v:= .bool false) V (λρ h=>Yl.to (Yl.eql (h _ _ V) (h _ _ V)) (by rw [decide_eq_false (λe=>a3 ((M9 old).1 e))])) ?_;refine C 13 V (Am (v:= .bool true) V (λρ h=>Yl.to (Yl.eql (h _ _ V) (h _ _ V)) (by rw [decide_eq_true c6])) ?_);refine C 3 V (Qb (kk:=kk) (p:= .IS sv) O ac V V V V V QZ Rn λm a5 v al=>⟨some (.Cz sv),List.mem_singleton.2 V,?_⟩);refine C 6 V (Am (v:= .pointer (some F.qA)) V (λρ h=>GV (a:=F.uA) 0 1 Tryz.underlying136 NO V V V (h _ _ V)) ?_);refine C 1 V (SW (kk:=kk) (sv:=sv) O ac V V V V Vo V V ?_);refine JL.done ?_;cases sv
      ·rw [if_neg (by decide)];refine C 4 V (Qb (kk:=kk) (p:= .Gf) O ac V V V V V QZ Rn λeg ej v2 ek=>⟨some (.EM (decide (IntKind.i64.wrap (v2 - v)>1000000))),by (cases decide (IntKind.i64.wrap (v2 - v)>1000000) <;> simp [Fam.B2]),?_⟩);refine C 1 V (Am (v:= .int .i64 (IntKind.i64.wrap (v2 - v))) V (λρ h=>Yl.sub (h _ _ V) (h _ _ V)) ?_);refine C 4 V ?_;generalize decide (IntKind.i64.wrap (v2 - v)>1000000)=av;refine C 4 V (JL.uA V V ?_);refine HB (kk:=kk) (p:= .EM av) O ac V V V V V Ht IK V ?_;intro m ci a0;have a8:Dh m:=a0.2.2;have am:Co m:=a8.Co;by_cases ag:m.s=true
       ·refine⟨some (.Et (!av || m.w==1)),by simp [Fam.B2,ag],?_⟩;refine C 2 V ?_;obtain⟨bw,bx,bz⟩:=a0.1 ag;refine C 4 V (Am (v:=C3 (BC m&&& 4)) V (λρ h=>EG (c:=4) am (h _ _ V) (h _ _ V) (by decide)) ?_);refine Am (v:= .bool true) V (λρ h=>Yl.to (H7 (h _ _ V) (h _ _ V)) (by have b0:(((BC m&&& 4:Nat):Int)≠0):=(λe=>by rw [(Ih m).1 e] at ag;cases ag);rw [decide_eq_true b0])) ?_;refine C 6 V (Am (v:=C3 (BC m&&& 3)) V (λρ h=>EG (c:=3) am (h _ _ V) (h _ _ V) (by decide)) ?_);refine Am (v:= .bool false) V (λρ h=>Yl.to (H7 (h _ _ V) (h _ _ V)) (by rw [(Pb m).2 ⟨bw,bx⟩];rfl)) (C 2 V ?_);refine Am (v:=C3 m.w) V (λρ h=>I8 am (h _ _ V) (h _ _ V)) (Am (v:= .bool false) V (λρ h=>Yl.to (Yl.eql (h _ _ V) (h _ _ V)) (by rw [decide_eq_false (λe=>bz (by omega))])) ?_);refine C 12 V (Am (v:= .bool (!av)) V (λρ h=>Yl.not (h _ _ V)) ?_);refine C 1 V (K0 (c:= !av) (i:=119) V (λd1=>?_) (λd1=>?_))
        ·refine IT V V V (C 5 V ?_);have hex:(!av || m.w==1)=true:=by rw [d1];simp
         rw [hex];refine C 2 V (Am (v:= .int .i32 (-11)) V (λρ h=>Yl.to (Yl.sub (h _ _ V) (h _ _ V)) V) ?_);refine C 6 V (JL.uA V V ?_);refine C 1 V (Hy (kk:=kk) (p:= .Et true) (dl:= -11) O ac V V V V V HH V V λK a5 al=>⟨⟨true,K.k,false,K.w - 1⟩,some .len,?_,List.mem_singleton.2 V,?_⟩)
         ·obtain⟨a9,bb,be,w3⟩:=K;obtain⟨U,g2,Z,ap,bi,aq⟩:=al;simp only at U g2 Z ap;subst U g2 Z;have bn:w3<134217728:=aq;have e:(⟨false,false,true,w3⟩:M4).num+(-11)=((8*(w3 - 1)+1:Nat):Int):=by simp only [M4.num,Bool.toNat_true,Bool.toNat_false];omega
          rw [e,FL (by omega)];simp only [M4.num,Bool.toNat_true,Bool.toNat_false];omega
         exact C 2 V (a1 X O ay _ V)
        ·refine Am (v:= .int .i32 (m:M4).num) V (λρ h=>Yl.move (h _ _ V)) (Am (v:=C3 m.w) V (λρ h=>I8 am (h _ _ V) (h _ _ V)) ?_);refine C 3 V (Gt (p:=(m.w:Int)=1) V (λd2=>?_) (λd2=>?_))
         ·have hex:(!av || m.w==1)=true:=by rw [d1];simp;omega
          rw [hex];refine C 2 V (Am (v:= .int .i32 (-11)) V (λρ h=>Yl.to (Yl.sub (h _ _ V) (h _ _ V)) V) ?_);refine C 6 V (JL.uA V V ?_);refine C 1 V (Hy (kk:=kk) (p:= .Et true) (dl:= -11) O ac V V V V V HH V V λK a5 al=>⟨⟨true,K.k,false,K.w - 1⟩,some .len,?_,List.mem_singleton.2 V,?_⟩)
          ·obtain⟨a9,bb,be,w3⟩:=K;obtain⟨U,g2,Z,ap,bi,aq⟩:=al;simp only at U g2 Z ap;subst U g2 Z;have bn:w3<134217728:=aq;have e:(⟨false,false,true,w3⟩:M4).num+(-11)=((8*(w3 - 1)+1:Nat):Int):=by simp only [M4.num,Bool.toNat_true,Bool.toNat_false];omega
           rw [e,FL (by omega)];simp only [M4.num,Bool.toNat_true,Bool.toNat_false];omega
          exact C 2 V (a1 X O ay _ V)
         ·have hex:(!av || m.w==1)=false:=by rw [d1];simp;omega
          rw [hex];refine C 5 V (JL.uA V V ?_);refine C 1 V (Hy (kk:=kk) (p:= .Et false) (dl:= -7) O ac V V V V V HH V V λK a5 al=>⟨⟨true,K.k,true,K.w - 1⟩,some .len,?_,List.mem_singleton.2 V,?_⟩)
          ·obtain⟨a9,bb,be,w3⟩:=K;obtain⟨U,g2,Z,ap,bi,aq⟩:=al;simp only at U g2 Z ap;subst U g2 Z;have bn:w3<134217728:=aq;have e:(⟨false,false,true,w3⟩:M4).num+(-7)=((8*(w3 - 1)+5:Nat):Int):=by simp only [M4.num,Bool.toNat_true,Bool.toNat_false];omega
           rw [e,FL (by omega)];simp only [M4.num,Bool.toNat_true,Bool.toNat_false];omega
          exact C 2 V (a1 X O ay _ V)
       ·refine⟨some (.Cn av true 0 m),by simp [Fam.B2,ag],?_⟩;refine C 2 V ?_;have bo:m.s=false:=by simpa using ag
        refine C 4 V (Am (v:=C3 (BC m&&& 4)) V (λρ h=>EG (c:=4) am (h _ _ V) (h _ _ V) (by decide)) ?_);refine Am (v:= .bool false) V (λρ h=>Yl.to (H7 (h _ _ V) (h _ _ V)) (by rw [(Ih m).2 bo];rfl)) (C 11 V ?_);refine JL.again ?_;rw [← a6];exact EJ [(0,.pointer (some F.uA)),(2,iV v),(3,.bool av),(4,.bool true),(5,iV ((0:Nat):Int)),(6,.int .i32 (m:M4).num)] V (b5 (av,true,0,m,v) ⟨λ_=>a0.2.1 bo,Nat.zero_le _,a8⟩)
      ·rw [if_pos rfl];refine C 15 V (JL.uA V V ?_);refine HB (kk:=kk) (p:= .EM true) O ac V V V V V Ht IK V ?_;intro m ci a0;have a8:Dh m:=a0.2.2;have am:Co m:=a8.Co;by_cases ag:m.s=true
       ·refine⟨some (.Et (!true || m.w==1)),by simp [Fam.B2,ag],?_⟩;refine C 2 V ?_;obtain⟨bw,bx,bz⟩:=a0.1 ag;refine C 4 V (Am (v:=C3 (BC m&&& 4)) V (λρ h=>EG (c:=4) am (h _ _ V) (h _ _ V) (by decide)) ?_);refine Am (v:= .bool true) V (λρ h=>Yl.to (H7 (h _ _ V) (h _ _ V)) (by have b0:(((BC m&&& 4:Nat):Int)≠0):=(λe=>by rw [(Ih m).1 e] at ag;cases ag);rw [decide_eq_true b0])) ?_;refine C 6 V (Am (v:=C3 (BC m&&& 3)) V (λρ h=>EG (c:=3) am (h _ _ V) (h _ _ V) (by decide)) ?_);refine Am (v:= .bool false) V (λρ h=>Yl.to (H7 (h _ _ V) (h _ _ V)) (by rw [(Pb m).2 ⟨bw,bx⟩];rfl)) (C 2 V ?_);refine Am (v:=C3 m.w) V (λρ h=>I8 am (h _ _ V) (h _ _ V)) (Am (v:= .bool false) V (λρ h=>Yl.to (Yl.eql (h _ _ V) (h _ _ V)) (by rw [decide_eq_false (λe=>bz (by omega))])) ?_);refine C 12 V (Am (v:= .bool (!true)) V (λρ h=>Yl.not (h _ _ V)) ?_);refine C 1 V (K0 (c:= !true) (i:=119) V (λd1=>?_) (λd1=>?_))
        ·refine IT V V V (C 5 V ?_);have hex:(!true || m.w==1)=true:=by rw [d1];simp
         rw [hex];refine C 2 V (Am (v:= .int .i32 (-11)) V (λρ h=>Yl.to (Yl.sub (h _ _ V) (h _ _ V)) V) ?_);refine C 6 V (JL.uA V V ?_);refine C 1 V (Hy (kk:=kk) (p:= .Et true) (dl:= -11) O ac V V V V V HH V V λK a5 al=>⟨⟨true,K.k,false,K.w - 1⟩,some .len,?_,List.mem_singleton.2 V,?_⟩)
         ·obtain⟨a9,bb,be,w3⟩:=K;obtain⟨U,g2,Z,ap,bi,aq⟩:=al;simp only at U g2 Z ap;subst U g2 Z;have bn:w3<134217728:=aq;have e:(⟨false,false,true,w3⟩:M4).num+(-11)=((8*(w3 - 1)+1:Nat):Int):=by simp only [M4.num,Bool.toNat_true,Bool.toNat_false];omega
          rw [e,FL (by omega)];simp only [M4.num,Bool.toNat_true,Bool.toNat_false];omega
         exact C 2 V (a1 X O ay _ V)
        ·refine Am (v:= .int .i32 (m:M4).num) V (λρ h=>Yl.move (h _ _ V)) (Am (v:=C3 m.w) V (λρ h=>I8 am (h _ _ V) (h _ _ V)) ?_);refine C 3 V (Gt (p:=(m.w:Int)=1) V (λd2=>?_) (λd2=>?_))
         ·have hex:(!true || m.w==1)=true:=by rw [d1];simp;omega
          rw [hex];refine C 2 V (Am (v:= .int .i32 (-11)) V (λρ h=>Yl.to (Yl.sub (h _ _ V) (h _ _ V)) V) ?_);refine C 6 V (JL.uA V V ?_);refine C 1 V (Hy (kk:=kk) (p:= .Et true) (dl:= -11) O ac V V V V V HH V V λK a5 al=>⟨⟨true,K.k,false,K.w - 1⟩,some .len,?_,List.mem_singleton.2 V,?_⟩)
          ·obtain⟨a9,bb,be,w3⟩:=K;obtain⟨U,g2,Z,ap,bi,aq⟩:=al;simp only at U g2 Z ap;subst U g2 Z;have bn:w3<134217728:=aq;have e:(⟨false,false,true,w3⟩:M4).num+(-11)=((8*(w3 - 1)+1:Nat):Int):=by simp only [M4.num,Bool.toNat_true,Bool.toNat_false];omega
           rw [e,FL (by omega)];simp only [M4.num,Bool.toNat_true,Bool.toNat_false];omega
          exact C 2 V (a1 X O ay _ V)
         ·have hex:(!true || m.w==1)=false:=by rw [d1];simp;omega
          rw [hex];refine C 5 V (JL.uA V V ?_);refine C 1 V (Hy (kk:=kk) (p:= .Et false) (dl:= -7) O ac V V V V V HH V V λK a5 al=>⟨⟨true,K.k,true,K.w - 1⟩,some .len,?_,List.mem_singleton.2 V,?_⟩)
          ·obtain⟨a9,bb,be,w3⟩:=K;obtain⟨U,g2,Z,ap,bi,aq⟩:=al;simp only at U g2 Z ap;subst U g2 Z;have bn:w3<134217728:=aq;have e:(⟨false,false,true,w3⟩:M4).num+(-7)=((8*(w3 - 1)+5:Nat):Int):=by simp only [M4.num,Bool.toNat_true,Bool.toNat_false];omega
           rw [e,FL (by omega)];simp only [M4.num,Bool.toNat_true,Bool.toNat_false];omega
          exact C 2 V (a1 X O ay _ V)
       ·refine⟨some (.Cn true true 0 m),by simp [Fam.B2,ag],?_⟩;refine C 2 V ?_;have bo:m.s=false:=by simpa using ag
        refine C 4 V (Am (v:=C3 (BC m&&& 4)) V (λρ h=>EG (c:=4) am (h _ _ V) (h _ _ V) (by decide)) ?_);refine Am (v:= .bool false) V (λρ h=>Yl.to (H7 (h _ _ V) (h _ _ V)) (by rw [(Ih m).2 bo];rfl)) (C 11 V ?_);refine JL.again ?_;rw [← a6];exact EJ [(0,.pointer (some F.uA)),(2,iV v),(3,.bool true),(4,.bool true),(5,iV ((0:Nat):Int)),(6,.int .i32 (m:M4).num)] V (b5 (true,true,0,m,v) ⟨λ_=>a0.2.1 bo,Nat.zero_le _,a8⟩)
     ·refine⟨some ((.Cz sv)),TR a3 _ (.inr V),?_⟩;refine C 6 V (Am (v:=C3 (BC old&&& 5)) V (λρ h=>EG (c:=5) a2 (h _ _ V) (h _ _ V) (by decide)) ?_);refine Am (v:= .bool false) V (λρ h=>Yl.to (Yl.eql (h _ _ V) (h _ _ V)) (by rw [decide_eq_false (λe=>a3 ((M9 old).1 e))])) ?_;refine C 13 V (Am (v:= .bool false) V (λρ h=>Yl.to (Yl.eql (h _ _ V) (h _ _ V)) (by rw [decide_eq_false c6])) ?_);refine C 7 V (Am (v:= .pointer (some F.qA)) V (λρ h=>GV (a:=F.uA) 0 1 Tryz.underlying136 NO V V V (h _ _ V)) ?_);refine C 1 V (SW (kk:=kk) (sv:=sv) O ac V V V V Vo V V ?_);refine JL.done ?_;cases sv
      ·rw [if_neg (by decide)];refine C 4 V (Qb (kk:=kk) (p:= .Gf) O ac V V V V V QZ Rn λeg ej v2 ek=>⟨some (.EM (decide (IntKind.i64.wrap (v2 - wt)>1000000))),by (cases decide (IntKind.i64.wrap (v2 - wt)>1000000) <;> simp [Fam.B2]),?_⟩);refine C 1 V (Am (v:= .int .i64 (IntKind.i64.wrap (v2 - wt))) V (λρ h=>Yl.sub (h _ _ V) (h _ _ V)) ?_);refine C 4 V ?_;generalize decide (IntKind.i64.wrap (v2 - wt)>1000000)=av;refine C 4 V (JL.uA V V ?_);refine HB (kk:=kk) (p:= .EM av) O ac V V V V V Ht IK V ?_;intro m ci a0;have a8:Dh m:=a0.2.2;have am:Co m:=a8.Co;by_cases ag:m.s=true
       ·refine⟨some (.Et (!av || m.w==1)),by simp [Fam.B2,ag],?_⟩;refine C 2 V ?_;obtain⟨bw,bx,bz⟩:=a0.1 ag;refine C 4 V (Am (v:=C3 (BC m&&& 4)) V (λρ h=>EG (c:=4) am (h _ _ V) (h _ _ V) (by decide)) ?_);refine Am (v:= .bool true) V (λρ h=>Yl.to (H7 (h _ _ V) (h _ _ V)) (by have b0:(((BC m&&& 4:Nat):Int)≠0):=(λe=>by rw [(Ih m).1 e] at ag;cases ag);rw [decide_eq_true b0])) ?_;refine C 6 V (Am (v:=C3 (BC m&&& 3)) V (λρ h=>EG (c:=3) am (h _ _ V) (h _ _ V) (by decide)) ?_);refine Am (v:= .bool false) V (λρ h=>Yl.to (H7 (h _ _ V) (h _ _ V)) (by rw [(Pb m).2 ⟨bw,bx⟩];rfl)) (C 2 V ?_);refine Am (v:=C3 m.w) V (λρ h=>I8 am (h _ _ V) (h _ _ V)) (Am (v:= .bool false) V (λρ h=>Yl.to (Yl.eql (h _ _ V) (h _ _ V)) (by rw [decide_eq_false (λe=>bz (by omega))])) ?_);refine C 12 V (Am (v:= .bool (!av)) V (λρ h=>Yl.not (h _ _ V)) ?_);refine C 1 V (K0 (c:= !av) (i:=119) V (λd1=>?_) (λd1=>?_))
        ·refine IT V V V (C 5 V ?_);have hex:(!av || m.w==1)=true:=by rw [d1];simp
         rw [hex];refine C 2 V (Am (v:= .int .i32 (-11)) V (λρ h=>Yl.to (Yl.sub (h _ _ V) (h _ _ V)) V) ?_);refine C 6 V (JL.uA V V ?_);refine C 1 V (Hy (kk:=kk) (p:= .Et true) (dl:= -11) O ac V V V V V HH V V λK a5 al=>⟨⟨true,K.k,false,K.w - 1⟩,some .len,?_,List.mem_singleton.2 V,?_⟩)
         ·obtain⟨a9,bb,be,w3⟩:=K;obtain⟨U,g2,Z,ap,bi,aq⟩:=al;simp only at U g2 Z ap;subst U g2 Z;have bn:w3<134217728:=aq;have e:(⟨false,false,true,w3⟩:M4).num+(-11)=((8*(w3 - 1)+1:Nat):Int):=by simp only [M4.num,Bool.toNat_true,Bool.toNat_false];omega
          rw [e,FL (by omega)];simp only [M4.num,Bool.toNat_true,Bool.toNat_false];omega
         exact C 2 V (a1 X O ay _ V)
        ·refine Am (v:= .int .i32 (m:M4).num) V (λρ h=>Yl.move (h _ _ V)) (Am (v:=C3 m.w) V (λρ h=>I8 am (h _ _ V) (h _ _ V)) ?_);refine C 3 V (Gt (p:=(m.w:Int)=1) V (λd2=>?_) (λd2=>?_))
         ·have hex:(!av || m.w==1)=true:=by rw [d1];simp;omega
          rw [hex];refine C 2 V (Am (v:= .int .i32 (-11)) V (λρ h=>Yl.to (Yl.sub (h _ _ V) (h _ _ V)) V) ?_);refine C 6 V (JL.uA V V ?_);refine C 1 V (Hy (kk:=kk) (p:= .Et true) (dl:= -11) O ac V V V V V HH V V λK a5 al=>⟨⟨true,K.k,false,K.w - 1⟩,some .len,?_,List.mem_singleton.2 V,?_⟩)
          ·obtain⟨a9,bb,be,w3⟩:=K;obtain⟨U,g2,Z,ap,bi,aq⟩:=al;simp only at U g2 Z ap;subst U g2 Z;have bn:w3<134217728:=aq;have e:(⟨false,false,true,w3⟩:M4).num+(-11)=((8*(w3 - 1)+1:Nat):Int):=by simp only [M4.num,Bool.toNat_true,Bool.toNat_false];omega
           rw [e,FL (by omega)];simp only [M4.num,Bool.toNat_true,Bool.toNat_false];omega
          exact C 2 V (a1 X O ay _ V)
         ·have hex:(!av || m.w==1)=false:=by rw [d1];simp;omega
          rw [hex];refine C 5 V (JL.uA V V ?_);refine C 1 V (Hy (kk:=kk) (p:= .Et false) (dl:= -7) O ac V V V V V HH V V λK a5 al=>⟨⟨true,K.k,true,K.w - 1⟩,some .len,?_,List.mem_singleton.2 V,?_⟩)
          ·obtain⟨a9,bb,be,w3⟩:=K;obtain⟨U,g2,Z,ap,bi,aq⟩:=al;simp only at U g2 Z ap;subst U g2 Z;have bn:w3<134217728:=aq;have e:(⟨false,false,true,w3⟩:M4).num+(-7)=((8*(w3 - 1)+5:Nat):Int):=by simp only [M4.num,Bool.toNat_true,Bool.toNat_false];omega
           rw [e,FL (by omega)];simp only [M4.num,Bool.toNat_true,Bool.toNat_false];omega
          exact C 2 V (a1 X O ay _ V)
       ·refine⟨some (.Cn av true 0 m),by simp [Fam.B2,ag],?_⟩;refine C 2 V ?_;have bo:m.s=false:=by simpa using ag
        refine C 4 V (Am (v:=C3 (BC m&&& 4)) V (λρ h=>EG (c:=4) am (h _ _ V) (h _ _ V) (by decide)) ?_);refine Am (v:= .bool false) V (λρ h=>Yl.to (H7 (h _ _ V) (h _ _ V)) (by rw [(Ih m).2 bo];rfl)) (C 11 V ?_);refine JL.again ?_;rw [← a6];exact EJ [(0,.pointer (some F.uA)),(2,iV wt),(3,.bool av),(4,.bool true),(5,iV ((0:Nat):Int)),(6,.int .i32 (m:M4).num)] V (b5 (av,true,0,m,wt) ⟨λ_=>a0.2.1 bo,Nat.zero_le _,a8⟩)
      ·rw [if_pos rfl];refine C 15 V (JL.uA V V ?_);refine HB (kk:=kk) (p:= .EM true) O ac V V V V V Ht IK V ?_;intro m ci a0;have a8:Dh m:=a0.2.2;have am:Co m:=a8.Co;by_cases ag:m.s=true
       ·refine⟨some (.Et (!true || m.w==1)),by simp [Fam.B2,ag],?_⟩;refine C 2 V ?_;obtain⟨bw,bx,bz⟩:=a0.1 ag;refine C 4 V (Am (v:=C3 (BC m&&& 4)) V (λρ h=>EG (c:=4) am (h _ _ V) (h _ _ V) (by decide)) ?_);refine Am (v:= .bool true) V (λρ h=>Yl.to (H7 (h _ _ V) (h _ _ V)) (by have b0:(((BC m&&& 4:Nat):Int)≠0):=(λe=>by rw [(Ih m).1 e] at ag;cases ag);rw [decide_eq_true b0])) ?_;refine C 6 V (Am (v:=C3 (BC m&&& 3)) V (λρ h=>EG (c:=3) am (h _ _ V) (h _ _ V) (by decide)) ?_);refine Am (v:= .bool false) V (λρ h=>Yl.to (H7 (h _ _ V) (h _ _ V)) (by rw [(Pb m).2 ⟨bw,bx⟩];rfl)) (C 2 V ?_);refine Am (v:=C3 m.w) V (λρ h=>I8 am (h _ _ V) (h _ _ V)) (Am (v:= .bool false) V (λρ h=>Yl.to (Yl.eql (h _ _ V) (h _ _ V)) (by rw [decide_eq_false (λe=>bz (by omega))])) ?_);refine C 12 V (Am (v:= .bool (!true)) V (λρ h=>Yl.not (h _ _ V)) ?_);refine C 1 V (K0 (c:= !true) (i:=119) V (λd1=>?_) (λd1=>?_))
        ·refine IT V V V (C 5 V ?_);have hex:(!true || m.w==1)=true:=by rw [d1];simp
         rw [hex];refine C 2 V (Am (v:= .int .i32 (-11)) V (λρ h=>Yl.to (Yl.sub (h _ _ V) (h _ _ V)) V) ?_);refine C 6 V (JL.uA V V ?_);refine C 1 V (Hy (kk:=kk) (p:= .Et true) (dl:= -11) O ac V V V V V HH V V λK a5 al=>⟨⟨true,K.k,false,K.w - 1⟩,some .len,?_,List.mem_singleton.2 V,?_⟩)
         ·obtain⟨a9,bb,be,w3⟩:=K;obtain⟨U,g2,Z,ap,bi,aq⟩:=al;simp only at U g2 Z ap;subst U g2 Z;have bn:w3<134217728:=aq;have e:(⟨false,false,true,w3⟩:M4).num+(-11)=((8*(w3 - 1)+1:Nat):Int):=by simp only [M4.num,Bool.toNat_true,Bool.toNat_false];omega
          rw [e,FL (by omega)];simp only [M4.num,Bool.toNat_true,Bool.toNat_false];omega
         exact C 2 V (a1 X O ay _ V)
        ·refine Am (v:= .int .i32 (m:M4).num) V (λρ h=>Yl.move (h _ _ V)) (Am (v:=C3 m.w) V (λρ h=>I8 am (h _ _ V) (h _ _ V)) ?_);refine C 3 V (Gt (p:=(m.w:Int)=1) V (λd2=>?_) (λd2=>?_))
         ·have hex:(!true || m.w==1)=true:=by rw [d1];simp;omega
          rw [hex];refine C 2 V (Am (v:= .int .i32 (-11)) V (λρ h=>Yl.to (Yl.sub (h _ _ V) (h _ _ V)) V) ?_);refine C 6 V (JL.uA V V ?_);refine C 1 V (Hy (kk:=kk) (p:= .Et true) (dl:= -11) O ac V V V V V HH V V λK a5 al=>⟨⟨true,K.k,false,K.w - 1⟩,some .len,?_,List.mem_singleton.2 V,?_⟩)
          ·obtain⟨a9,bb,be,w3⟩:=K;obtain⟨U,g2,Z,ap,bi,aq⟩:=al;simp only at U g2 Z ap;subst U g2 Z;have bn:w3<134217728:=aq;have e:(⟨false,false,true,w3⟩:M4).num+(-11)=((8*(w3 - 1)+1:Nat):Int):=by simp only [M4.num,Bool.toNat_true,Bool.toNat_false];omega
           rw [e,FL (by omega)];simp only [M4.num,Bool.toNat_true,Bool.toNat_false];omega
          exact C 2 V (a1 X O ay _ V)
         ·have hex:(!true || m.w==1)=false:=by rw [d1];simp;omega
          rw [hex];refine C 5 V (JL.uA V V ?_);refine C 1 V (Hy (kk:=kk) (p:= .Et false) (dl:= -7) O ac V V V V V HH V V λK a5 al=>⟨⟨true,K.k,true,K.w - 1⟩,some .len,?_,List.mem_singleton.2 V,?_⟩)
          ·obtain⟨a9,bb,be,w3⟩:=K;obtain⟨U,g2,Z,ap,bi,aq⟩:=al;simp only at U g2 Z ap;subst U g2 Z;have bn:w3<134217728:=aq;have e:(⟨false,false,true,w3⟩:M4).num+(-7)=((8*(w3 - 1)+5:Nat):Int):=by simp only [M4.num,Bool.toNat_true,Bool.toNat_false];omega
           rw [e,FL (by omega)];simp only [M4.num,Bool.toNat_true,Bool.toNat_false];omega
          exact C 2 V (a1 X O ay _ V)
       ·refine⟨some (.Cn true true 0 m),by simp [Fam.B2,ag],?_⟩;refine C 2 V ?_;have bo:m.s=false:=by simpa using ag
        refine C 4 V (Am (v:=C3 (BC m&&& 4)) V (λρ h=>EG (c:=4) am (h _ _ V) (h _ _ V) (by decide)) ?_);refine Am (v:= .bool false) V (λρ h=>Yl.to (H7 (h _ _ V) (h _ _ V)) (by rw [(Ih m).2 bo];rfl)) (C 11 V ?_);refine JL.again ?_;rw [← a6];exact EJ [(0,.pointer (some F.uA)),(2,iV wt),(3,.bool true),(4,.bool true),(5,iV ((0:Nat):Int)),(6,.int .i32 (m:M4).num)] V (b5 (true,true,0,m,wt) ⟨λ_=>a0.2.1 bo,Nat.zero_le _,a8⟩)
   ·refine JL.done (C 4 V ?_);refine JL.uA V V (HB (kk:=kk) (p:= .Eu sv aw it) O ac V V V V V Ht IK V λa7 cy bv=>⟨some (.Cn sv aw it a7),List.mem_singleton.2 V,?_⟩);refine C 3 V (JL.again ?_);rw [← a6];exact EJ [(0,.pointer (some F.uA)),(2,iV wt),(3,.bool sv),(4,.bool aw),(5,iV (it:Int)),(6,.int .i32 (a7:M4).num)] V (b5 (sv,aw,it,a7,wt) ⟨bv.2.2.2,b1.2.1,bv.2.2.1⟩)
 exact λa co=>key 5 a (by omega) co
set_option maxHeartbeats 4000000 in
theorem Xm{F:Fam}{n:Nat}{L:Env}{ds:Ld_}{k:Li_}{cs:Lf_}{s:St}{b:Frame}{ops:Ao_}{i:Nat}{rest:List Nat}{d:Option Tmp}{x:Operand}{ats:Array TypeId}{ty:TypeId}{pp:String}{af:Ae_}{g:On_}{kk:Nat}(K:s.q=false)(O:ops[i]? =some ⟨d,.call ⟨.value (.func 135),#[x],ats⟩,ty,pp,af,g⟩)(hw:AP L ops ⟨d,.call ⟨.value (.func 135),#[x],ats⟩,ty,pp,af,g⟩=some true)(U:((b.kind != .early)&&Bj n d)=true)(Y:ev L x=some (.pointer (some F.uA)))
  (h:JL (AX Tryz.prog false) (Stop Tryz.prog F (.lk kk .FR)) b n (Av L d (.tuple #[])) ds (.inRegion ops rest::k) cs s):
  JL (AX Tryz.prog false) (Stop Tryz.prog F (.lk kk .Gj)) b n L ds (.inRegion ops (i::rest)::k) cs s:=by
 refine HA (vs:= [.pointer (some F.uA)]) O hw U Tryz.func135 (by decide+kernel) V (by simp [evs,Y]) (Nat.le_of_ble_eq_true V) λac back=>C 2 V (LS (kk:=kk) (p:= .Gj) Db.stop K V (λ_ _=>V) V V V V (by simp) VI ?_);refine C 6 V (JL.uA V V ?_);refine TC (kk:=kk) (p:= .HG) (old:=M4.zero) (nw:=⟨true,false,false,0⟩) Db.stop K V V V V V Pa V V V (λq Z=>⟨some .len,by simp [Fam.B2],?_⟩) (λm q hm Z=>⟨some (.Eu false false 0),by simp [Fam.B2,hm],?_⟩)
 ·refine JL.done (C 5 V ?_);refine LS (kk:=kk) (p:= .len) Db.stop K V (λ_ _=>V) V V V V (by simp) Pp (C 3 V ?_);refine P7 (kk:=kk) (p:= .Lu) Db.stop K V (λ_ _=>V) V V V V Tryz.underlying247 Tryz.underlying174 QL V (QG (kk:=kk) (p:= .Kz) (ad:=F.uA) Db.stop K V (λ_ _=>V) V V V V (by simp) V8 V V ?_);exact JL.done (JL.ret V V (BE.none Tryz.func135 V) (back _ _ _ _ h))
 ·refine JL.done (C 4 V ?_);refine XL (kk:=kk) K V V V V (JL.done ?_);exact JL.fin V V (BE.none Tryz.func135 V) (back _ _ _ _ h)
set_option maxHeartbeats 4000000 in
theorem XE{F:Fam}{n:Nat}{L:Env}{ds:Ld_}{k:Li_}{cs:Lf_}{s:St}{b:Frame}{ops:Ao_}{i:Nat}{rest:List Nat}{d:Option Tmp}{x:Operand}{ats:Array TypeId}{ty:TypeId}{pp:String}{af:Ae_}{g:On_}{kk:Nat}(K:s.q=false)(O:ops[i]? =some ⟨d,.call ⟨.value (.func 98),#[x],ats⟩,ty,pp,af,g⟩)(hw:AP L ops ⟨d,.call ⟨.value (.func 98),#[x],ats⟩,ty,pp,af,g⟩=some true)(U:((b.kind != .early)&&Bj n d)=true)(Y:ev L x=some (.pointer (some F.uA)))
  (h:JL (AX Tryz.prog false) (Stop Tryz.prog F (.lk kk .FR)) b n (Av L d (.tuple #[])) ds (.inRegion ops rest::k) cs s):
  JL (AX Tryz.prog false) (Stop Tryz.prog F (.lk kk .Gj)) b n L ds (.inRegion ops (i::rest)::k) cs s:=by
 refine HA (vs:= [.pointer (some F.uA)]) O hw U Tryz.func98 (by decide+kernel) V (by simp [evs,Y]) (Nat.le_of_ble_eq_true V) λZ back=>C 3 V (Am (v:= .pointer (some F.uA)) V (λρ h=>GV (a:=F.uA) 1 0 Tryz.underlying138 (AM Tryz.type136) V V V (h _ _ V)) ?_);refine Xm (kk:=kk) K V V V V (JL.done ?_);exact JL.fin V V (BE.none Tryz.func98 V) (back _ _ _ _ h)
def I1(m:M4):LP:=if m.l=false/\m.k=false/\m.s=false/\m.w≠0 then .EX m else .Fx
def Rx(m:M4):LP:=if m.s=true then .Ft true else if m.k=false/\m.w≠0 then .EX {m with l:=false} else .Fx
set_option maxHeartbeats 4000000 in
theorem Xw{F:Fam}{n:Nat}{L:Env}{ds:Ld_}{k:Li_}{cs:Lf_}{s:St}{b:Frame}{ops:Ao_}{i:Nat}{rest:List Nat}{d:Option Tmp}{x Z:Operand}{nw:M4}{ats:Array TypeId}{ty:TypeId}{pp:String}{af:Ae_}{g:On_}{kk:Nat}(U:s.q=false)(a3:ops[i]? =some ⟨d,.call ⟨.value (.func 170),#[x,Z],ats⟩,ty,pp,af,g⟩)(hw:AP L ops ⟨d,.call ⟨.value (.func 170),#[x,Z],ats⟩,ty,pp,af,g⟩=some true)(a4:((b.kind != .early)&&Bj n d)=true)(a5:ev L x=some (.pointer (some F.uA)))(a6:ev L Z=some (.int .i32 nw.num))(al:nw.l=false)(a7:Dh nw)(ac:Co nw)
  (h:JL (AX Tryz.prog false) (Stop Tryz.prog F (.lk kk .Fx)) b n (Av L d (.tuple #[])) ds (.inRegion ops rest::k) cs s):
  JL (AX Tryz.prog false) (Stop Tryz.prog F (.lk kk (if nw.s=true then .Ft true else if nw.k=false/\nw.w≠0 then .EX nw else .Fx))) b n L ds (.inRegion ops (i::rest)::k) cs s:=by
 refine HA (vs:= [.pointer (some F.uA),.int .i32 nw.num]) a3 hw a4 Tryz.func170 (by decide+kernel) V (by simp [evs,a5,a6]) (Nat.le_of_ble_eq_true V) λam back=>C 4 V (Am (v:= .int .i32 ({nw with l:=true}:M4).num) V (λρ h=>bB ac al (h _ _ V) (h _ _ V)) ?_);refine Am (v:=C3 (BC ({nw with l:=true}:M4)&&& 1)) V (λρ h=>EG (c:=1) (m:={nw with l:=true}) ac (h _ _ V) (h _ _ V) (by decide)) (Am (v:= .bool false) V (λρ h=>Yl.to (Yl.eql (h _ _ V) (h _ _ V)) (by rw [decide_eq_false (λe=>by have q:=(Rf _).1 e;cases q)])) ?_);refine C 6 V (Am (v:=C3 (BC nw&&& 4)) V (λρ h=>EG (c:=4) ac (h _ _ V) (h _ _ V) (by decide)) ?_);refine C 2 V (Gt (p:=((BC nw&&& 4:Nat):Int)=0) V (λc=>?_) (λc=>?_))
 ·have ap:=(Ih nw).1 c;rw [if_neg (by rw [ap];exact Bool.false_ne_true)];refine C 6 V ?_;refine IC ?_;refine EJ [(0,.pointer (some F.uA)),(4,.int .i32 nw.num)] V ?_;refine VU λaq av=>?_;have a8:(if nw.k=false/\nw.w≠0 then LP.EX nw else .Fx)=I1 nw:=by unfold I1;rw [al,ap];simp
  rw [a8];refine Vu (P:=Tryz.prog) (F:=F) (s:=s) (kk:=kk) (ph:=λm=>LP.EX m) (ok:=Dh) (head:=λ(X:Ph->GP) (a:M4)=>JL (AX Tryz.prog false) (X (.lk kk (I1 a))) (base 170) Tryz.f170.ntmps ([(0,.pointer (some F.uA)),(4,.int .i32 (a:M4).num)]) [] aq (am::cs) s) ?_ nw a7;intro Y bx aw hC old ay;have K:Co old:=ay.Co;show JL (AX Tryz.prog false) (Y (.lk kk (I1 old))) (base 170) Tryz.f170.ntmps [(0,.pointer (some F.uA)),(4,.int .i32 old.num)] [] aq (am::cs) s;rw [av];refine C 5 V (Am (v:=C3 old.w) V (λρ h=>I8 K (h _ _ V) (h _ _ V)) ?_);refine C 2 V (Mw (q:=(old.w:Int)=0) (i:=17) V (λc2=>?_) (λc2=>?_))
  ·have O:I1 old= .Fx:=by unfold I1;rw [if_neg (λe=>e.2.2.2 (by omega))]
   refine C 6 V ?_;rw [O];exact JL.ret V V (BE.none Tryz.func170 V) (back _ _ _ _ (N3 (λg s=>aw _ g s) h))
  ·refine Am (v:= .int .i32 (old:M4).num) V (λρ h=>Yl.move (h _ _ V)) (Am (v:=C3 (BC old&&& 7)) V (λρ h=>EG (c:=7) K (h _ _ V) (h _ _ V) (by decide)) ?_);refine C 3 V (Gt (p:=((BC old&&& 7:Nat):Int)≠0) V (λc3=>?_) (λc3=>?_))
   ·have O:I1 old= .Fx:=by unfold I1;rw [if_neg (λe=>c3 ((V7 old).2 ⟨e.1,e.2.1,e.2.2.1⟩))]
    rw [O];exact JL.ret V V (BE.none Tryz.func170 V) (back _ _ _ _ (N3 (λg s=>aw _ g s) h))
   ·have a9:=(V7 old).1 (Decidable.not_not.1 c3);obtain⟨l0,bz,b0,w0⟩:=old;obtain⟨z1,az,a0⟩:=a9;simp only at z1 az a0 c2;subst z1 az a0;have a1:w0≠0:=by omega
    have O:I1 ⟨false,false,false,w0⟩= .EX ⟨false,false,false,w0⟩:=by unfold I1;rw [if_pos ⟨rfl,rfl,rfl,a1⟩]
    rw [O];refine C 4 V (Am (v:= .int .i32 (⟨false,false,false,w0 - 1⟩:M4).num) V (λρ h=>bR (m:=⟨false,false,false,w0⟩) K a1 (h _ _ V) (h _ _ V)) ?_);refine Am (v:= .int .i32 (⟨false,true,false,w0 - 1⟩:M4).num) V (λρ h=>ON (c:=2) (m:=⟨false,false,false,w0 - 1⟩) (by unfold Co at K ⊢;simp only at K ⊢;omega) (by decide) (RF _) V (h _ _ V) (h _ _ V)) (C 7 V ?_);refine JL.uA V V (C 2 V ?_);refine λT bb=>(AX Tryz.prog false).stop (hC ⟨false,false,false,w0⟩ _ ay λX b1 be a2 bi bn=>?_);refine Qf (kk:=kk) (p:= .EX ⟨false,false,false,w0⟩) (old:=⟨false,false,false,w0⟩) (nw:=⟨false,true,false,w0 - 1⟩) be U V V V V V Pa V V V (λq bo=>⟨some (.Ft false),by simp [Fam.B2],?_⟩) (λm q hm bo=>⟨some .HN,by simp [Fam.B2,hm],?_⟩) T bb
    ·refine JL.done (C 5 V ?_);refine Am (v:= .pointer (some F.qA)) V (λρ h=>GV (a:=F.uA) 0 1 Tryz.underlying136 NO V V V (h _ _ V)) (SN (kk:=kk) (st:=false) a2 U V V V V Vd V V ?_);exact JL.done (JL.ret V V (BE.none Tryz.func170 V) (back _ _ _ _ (N3 (λg s=>bi _ g s) h)))
    ·refine JL.done (C 5 V ?_);refine JL.uA V V (HB (kk:=kk) (p:= .HN) a2 U V V V V V Ht fH V λag b2 bv=>⟨some (I1 ag),List.mem_singleton.2 V,?_⟩);refine C 3 V (JL.again ?_);rw [← av];exact EJ [(0,.pointer (some F.uA)),(4,.int .i32 ag.num)] V (bn ag bv)
 ·have bw:nw.s=true:=by rcases Bool.eq_false_or_eq_true nw.s with hh | hh;exact hh;exact absurd ((Ih nw).2 hh) c
  rw [if_pos bw];refine C 3 V (Am (v:= .pointer (some F.qA)) V (λρ h=>GV (a:=F.uA) 0 1 Tryz.underlying136 NO V V V (h _ _ V)) ?_);refine SN (kk:=kk) (st:=true) Db.stop U V V V V Vd V V (JL.done ?_);exact JL.fin V V (BE.none Tryz.func170 V) (back _ _ _ _ h)
set_option maxHeartbeats 4000000 in
theorem WJ{F:Fam}{n:Nat}{L:Env}{ds:Ld_}{k:Li_}{cs:Lf_}{s:St}{b:Frame}{ops:Ao_}{i:Nat}{rest:List Nat}{d:Option Tmp}{x:Operand}{ats:Array TypeId}{ty:TypeId}{pp:String}{af:Ae_}{g:On_}{kk:Nat}(K:s.q=false)(al:ops[i]? =some ⟨d,.call ⟨.value (.func 136),#[x],ats⟩,ty,pp,af,g⟩)(hw:AP L ops ⟨d,.call ⟨.value (.func 136),#[x],ats⟩,ty,pp,af,g⟩=some true)(am:((b.kind != .early)&&Bj n d)=true)(ap:ev L x=some (.pointer (some F.uA)))
  (h:JL (AX Tryz.prog false) (Stop Tryz.prog F .Iq) b n (Av L d (.tuple #[])) ds (.inRegion ops rest::k) cs s):
  JL (AX Tryz.prog false) (Stop Tryz.prog F (.lk kk .G1)) b n L ds (.inRegion ops (i::rest)::k) cs s:=by
 refine HA (vs:= [.pointer (some F.uA)]) al hw am Tryz.func136 (by decide+kernel) V (by simp [evs,ap]) (Nat.le_of_ble_eq_true V) λa0 back=>C 6 V (JL.uA V V ?_);refine HB (kk:=kk) (p:= .G1) Db.stop K V V V V V Ht gx V λa1 a2 a3=>⟨some .KJ,List.mem_singleton.2 V,?_⟩;refine C 4 V (P7 (kk:=kk) (p:= .KJ) Db.stop K V (λ_ _=>V) V V V V Tryz.underlying247 Tryz.underlying174 QL V ?_);refine QG (kk:=kk) (p:= .KH) (ad:=F.uA) Db.stop K V (λ_ _=>V) V V V V (by simp) gA V V (C 2 V ?_);refine LS (kk:=kk) (p:= .KC) Db.stop K V (λ_ _=>V) V V V V (by simp) VI (C 5 V ?_);refine JL.uA V V (Hy (kk:=kk) (p:= .Im) (dl:= -1) Db.stop K V V V V V HH V V λm q Y=>⟨{m with l:=false},some (Rx m),?_,List.mem_singleton.2 V,?_⟩)
 ·obtain⟨aq,O,U,w3⟩:=m;obtain⟨Z,av⟩:=Y;simp only at Z;subst Z;have a4:w3<134217728:=av;have a5:=Bool.toNat_le O;have a6:=Bool.toNat_le U;have e:(⟨true,O,U,w3⟩:M4).num+(-1)=((2*O.toNat+4*U.toNat+8*w3:Nat):Int):=by simp only [M4.num,Bool.toNat_true];omega
  rw [e,FL (by omega)];simp only [M4.num,Bool.toNat_false];omega
 ·have ac:Dh m:=Y.2;have aw:Co ({m with l:=false}:M4):=(show Dh ({m with l:=false}:M4) from ac).Co;refine C 8 V ?_;refine Gt (p:=({m with l:=false}:M4).num≠0) V (λc=>?_) (λc=>?_)
  ·refine JL.region (C 2 V ?_);refine Xw (kk:=kk) (nw:={m with l:=false}) K V V V V V V ac aw (C 2 V ?_);refine LS (kk:=kk) (p:= .Fx) Db.stop K V (λ_ _=>V) V V V V (by simp) Pp (JL.done ?_);exact JL.fin V V (BE.none Tryz.func136 V) (back _ _ _ _ h)
  ·have ay:({m with l:=false}:M4).num=0:=Decidable.not_not.1 c;have ag:m.k=false/\m.s=false/\m.w=0:=by
    obtain⟨aq,O,U,w3⟩:=m;cases O <;> cases U <;> simp [M4.num] at ay ⊢ <;> omega
   have az:Rx m= .Fx:=by unfold Rx;rw [if_neg (by rw [ag.2.1];exact Bool.false_ne_true),if_neg (λe=>e.2 ag.2.2)]
   rw [az];refine C 2 V (LS (kk:=kk) (p:= .Fx) Db.stop K V (λ_ _=>V) V V V V (by simp) Pp ?_);exact JL.done (JL.fin V V (BE.none Tryz.func136 V) (back _ _ _ _ h))
theorem JO.aA{F:Fam}{n:Nat}{M:Env}{ds:Ld_}{cs:Lf_}{s:St}{b:Frame}{kk:Nat}(K:b.roundOf=none)(O:s.q=false)(h:JO (AX Tryz.prog false) (Stop Tryz.prog F .Iq) b n M ds cs s):
  JO (AX Tryz.prog false) (Stop Tryz.prog F (.lk kk .G1)) b n M (dcall 99 #[.pointer (some F.uA)]::ds) cs s:=by
 refine JO.enter (vs:= [.pointer (some F.uA)]) K Tryz.func99 (by decide+kernel) V (Nat.le_of_ble_eq_true V) λT U todo=>C 3 V (Am (v:= .pointer (some F.uA)) V (λρ h=>GV (a:=F.uA) 1 0 Tryz.underlying138 (AM Tryz.type136) V V V (h _ _ V)) ?_);refine WJ (kk:=kk) O V V V V (JL.done ?_);exact JL.out V (JO.leaveD V Tryz.func99 V (.inl V) (h T U todo))
end Pal
namespace Pal
open Go Go.Conc
open Go.ConcN (upd)
variable {ops:Ao_}{i:Nat}{rest:List Nat}{f:FuncId}{z:Operand}{ats:Array TypeId}{ty t u tw:TypeId}{pp:String}{af:Ae_}{g:On_}{kk:Nat}
section
variable {P:Program}{F:Fam}{n:Nat}{L L':Env}{ds:Ld_}{k:Li_}{cs:Lf_}{s s':St}{b:Frame}
variable {d:Option Tmp}{x y:Operand}
theorem W7{m:Nat}(h:Bo P t=some m)(w:World):(Go.sizeOf t).run P w= .ok m w:=by
 unfold Bo at h;simp only [Go.sizeOf,typeInfo,bind,Sem.bind,program,Sem.run];cases hi:P.info? t with
 | none=>rw [hi] at h;cases h
 | some j=>rw [hi] at h;simp at h;subst h;rfl
theorem bA{w:World}{K:Nat->Value}(h:F.FD w K)(O:kk<F.n):w.cell? ⟨F.fd,kk,none⟩=some (K kk)/\w.frozen? ⟨F.fd,kk,none⟩=false:=by
 unfold Fam.FD Fam.I2 at h;constructor
 ·simp [World.cell?,h,O]
 ·simp [World.frozen?,h]
theorem Xv{w:World}{O:Nat->Value}{v:Value}(h:F.FD w O)(ac:kk<F.n):w.setCell ⟨F.fd,kk,none⟩ v=F.HI w (upd O kk v):=by
 unfold Fam.HI World.setCell;congr 1;apply Array.ext_getElem?;intro i;unfold Fam.FD Fam.I2 at h;rw [Array.getElem?_modify];have U:F.fd<w.heap.size:=by
  rcases Nat.lt_or_ge F.fd w.heap.size with K | K
  ·exact K
  ·simp [Array.getElem?_eq_none K] at h
 by_cases e:F.fd=i
 ·subst e;rw [Array.getElem?_setIfInBounds_self_of_lt U,h];simp only [if_true,Option.map_some,Fam.I2,Option.some.injEq,Obj.cells.injEq,and_true];apply Array.ext
  ·simp
  ·intro j ag Y;by_cases e2:kk=j
   ·subst e2;simp [upd]
   ·have Z:¬j=kk:=λe=>e2 e.symm;simp [upd,Z];rw [Array.getElem_setIfInBounds (by simpa using Y),if_neg e2];simp
 ·rw [Array.getElem?_setIfInBounds_ne e,if_neg e]
theorem Xp{X:Ph->GP}(av:Db P F X){a:Option Addr}{l c:Nat}(aw:s.q=false)(Y:kk<F.n)
  (ay:ops[i]? =some ⟨d,.store t x y,ty,pp,af,g⟩) (Z:b.roundOf=none) (hw:AP L ops ⟨d,.store t x y,ty,pp,af,g⟩=some true) (U:((b.kind != .early)&&Bj n d)=true)
  (az:Bo P t=some 1) (a0:(P.funcs[b.fn]?).any (·.norace)=false) (a1:ev L x=some (.pointer (some ⟨F.fd,kk,none⟩))) (a2:ev L y=some (.slice a l c)) (hm:F.msg kk (.slice a l c) s.E)
  (h:JL (AX P false) (X (.lk kk .G1)) b n (Av L d undef) ds (.inRegion ops rest::k) cs s):
  JL (AX P false) (X (.lk kk .FR)) b n L ds (.inRegion ops (i::rest)::k) cs s:=λT K=>by
 simp only [Bool.and_eq_true] at U
 refine(AX P _).stop (av _ _ _ {
  run:=rfl,offers:=rfl,quiet:=(by simp [Fam.CX]),live:=λ_=>aw,act:=(by simp [Fam.act]),Ji:=(by simp),Fv:=(by simp),go:=(by simp),lk:=λk' l e a3=>by cases e;exact absurd rfl a3
  Cz:=(by simp),store:=λk' e=>?_,fin:=(by simp)})
 cases e
 refine⟨_,hm,G (fr b (CQ T d undef) ds (.inRegion ops rest::k)) cs,rfl,λw a4 ac=>?_,h _ (K.put U.2 _)⟩
 obtain⟨c1,c2⟩:=bA ac Y
 have ag:execOp (⟨T,ds⟩:Act).eval ⟨d,.store t x y,ty,pp,af,g⟩=(do Instr.storeAt t (.pointer (some ⟨F.fd,kk,none⟩)) (.slice a l c);pure Next.skip):=by
  rw [LB];simp only [execOp,K.ev a1,K.ev a2]
 have al:(Value.slice a l c).cells= #[.slice a l c]:=rfl;have am:(Value.slice a l c).oneCell'=true:=rfl;have ap:(Addr.add ⟨F.fd,kk,none⟩ 0)=⟨F.fd,kk,none⟩:=by rw [Ed rfl];rfl
 have aq:=W7 (P:=P) az w;have O:=run_store P w ⟨F.fd,kk,none⟩ (.slice a l c) .plain am;rw [c1] at O;simp only [c2,Bool.false_eq_true,if_false] at O;rw [BT Z,BT Z,stepG_none (a:=⟨T,ds⟩) (w':=F.HI w (upd a4 kk (.slice a l c))) ay (Ca K hw) (by simpa using U.1) (by
  rw [ag]
  simp [Instr.storeAt,Instr.sureAddr,storeVar,al,aq,storeCells,ap,O,Xv ac Y,Result.andThen]),En]
 have e2:listed P b.fn ⟨T,ds⟩ ⟨d,.store t x y,ty,pp,af,g⟩ w= #[⟨.cell ⟨F.fd,kk,none⟩,true,false⟩]:=by
  unfold listed;rw [ag];have a5:=events_store (P:=P) (w:=w) (es:= #[]) ⟨F.fd,kk,none⟩ (.slice a l c) .plain am;have a6:(do Instr.storeAt t (.pointer (some ⟨F.fd,kk,none⟩)) (.slice a l c);pure Next.skip:Sem Next).events P w #[]= #[⟨.cell ⟨F.fd,kk,none⟩,true,false⟩]:=by
   simp [Instr.storeAt,Instr.sureAddr,storeVar,al,aq,storeCells,ap,O,c1,c2,a5,Result.evThen]
  rw [a6,seen_def];simp [seenStep,a0]
 rw [e2]
end
end Pal
namespace Pal
open Go Go.Conc Go.Proofs
open Go.Proofs.Tryz
open Go.Conc.Lib Go.ConcR.Gen
theorem gu:(Tryz.prog.funcs[94]?).any (·.norace)=false:=by rw [func94];rfl
def Lm(fu_:Nat)(K:AZ)(p:Ax)(j:Nat):Option (List Int):=
 (f120 fu_ K).bind λO=>
 (f119 fu_ ([O]:List (List (AJ))) ((j:Nat):Int) p ([]:List ((Nat×Bs)×Bool))).bind λU=>
 some U.1
set_option maxHeartbeats 1000000 in
theorem cd{F:Fam}{j:Nat}{E:LH}{ap a1 aq:An}{Z c2 av ac op ag al am oi kf off:Nat}{p:Ax}{O:AZ}(a3:At E ac op [.slice ap p.length Z])(a4:Al Aw E ap Z p)(a5:At E ag al [sV a1 O.1 c2,sV aq O.2 av])(a6:Al (rL rI) E a1 c2 O.1)(a7:Al Aw E aq av O.2)(hi:At E am oi [iV ((j:Nat):Int)])(a8:At E kf off [.slice (some ⟨F.fd,0,none⟩) F.n F.n]){fu_:Nat}{r:List Int}(az:Lm fu_ O p j=some r)(a0:j<F.n)(a9:∀E' a c,Le E E'->Al rI E' a c r->(r= []->a=none)->F.msg j (.slice a r.length c) E'):
  Way Tryz.prog false (Stop Tryz.prog F (F.start j)) (born Tryz.prog ⟨.fn (.func 94) [.pointer (some F.sA),Aj ac op,Aj ag al,Aj am oi,.pointer (some F.uA),Aj kf off].toArray,#[]⟩) ⟨E,λ_=>none,false⟩:=by
 refine Y5 (fn:=Tryz.f94) (vs:= [.pointer (some F.sA),Aj ac op,Aj ag al,Aj am oi,.pointer (some F.uA),Aj kf off]) func94 (by decide+kernel) V (by simp) (Nat.le_of_ble_eq_true V) ?_;obtain⟨H,bb⟩:∃H:LH,H=λ_=>none:=⟨_,V⟩;rw [← bb];have be:Aq E H []:=trivial;refine(?_:JL (AX Tryz.prog false) (Stop Tryz.prog F (.lk j .Gj)) (baseD 94) Tryz.f94.ntmps (Gv 0 [.pointer (some F.sA),Aj ac op,Aj ag al,Aj am oi,.pointer (some F.uA),Aj kf off]) [] [.code _] [L6 Tryz.prog] (Ak E H []));unfold Lm at az;refine C 2 V (JL.defer (vs:= [.pointer (some F.sA)]) V V V V V ?_);refine C 3 V (Cy 0 a3 BH V V V ?_);refine JS.makeMap V V V be λr1 bi=>Am (v:= .agg #[sV ap p Z,.map (some r1)]) V (λρ h=>CZ [(0,1),(1,1)] h (C8 type149) underlying149 ⟨V,AM type96,V,AM type147,trivial⟩ V V) (JS.box (v:= .agg #[sV ap p Z,.map (some r1)]) V V V bi V λct bn=>?_);refine C 3 V (Cu 1 bn V λcw K bo bv=>?_);refine Ff 5 λaw=>Di 0 aw V V (Ks 1 aw (a5.Ag K) FI Du V V V ?_);refine Dw 4 aw 0 (hi.Ag K) A3 V V V V ?_;obtain⟨a2,bw,bx⟩:=bs az;refine JG.call (i:=2) (vs:= [.agg #[sV a1 O.1 c2,sV aq O.2 av]]) (eK (a6.Ag K) (a7.Ag K) bw) (by decide+kernel) V V V (A1 func97 V) V bv ?_;rintro _ cy _ U ⟨bz,b0,rfl,rfl,b1⟩ b2;refine JG.one (i:=3) V (by decide+kernel) (Take.Fh (pp:=(rL (rM rI false rI false))) [sV bz a2 b0] ([a2]:List (List AJ)) b2 V V V underlying154 Kb NK (by decide) V V V ⟨⟨_,_,V,b1⟩,trivial⟩ λc0 c1 b3 b4=>?_);refine Dl [5,6] (Cj 3 b3 b4 V λc3 Y b5 b6=>?_);obtain⟨ca,cc,ce⟩:=bs bx;refine Ch 0 (cQ b5 (bo.Ag (U.Ad Y)) (a4.Ag ((K.Ad U).Ad Y)) BK.nil cc) V V (A1 func96 V) b6 V ?_;rintro _ c4 _ ay ⟨c5,c6,c7,rfl,rfl,ci,co,c8⟩ c9;refine C 3 V ?_;have cp:r=ca.1:=(Option.some.inj ce).symm;subst cp;refine JL.region (XE (kk:=j) V V V V V ?_);refine C 3 V (JL.defer (vs:= [.pointer (some F.uA)]) V V V V V ?_);refine C 2 V (Cy 0 (a8.Ag (((K.Ad U).Ad Y).Ad ay)) Fy V V V ?_);refine Cy 0 (hi.Ag (((K.Ad U).Ad Y).Ad ay)) A3 V V V (C 1 V ?_);refine Am (v:= Aj F.fd j) V (λρ h=>Yl.to (FK (xs:=List.replicate F.n ()) (m:=((j:Nat):Int)) (xv:=()) (List.length_replicate) (by simp [ix,a0]) underlying25 FU (h _ _ V) (h _ _ V)) (by show Aj F.fd (j*1)=_;rw [Nat.mul_one])) (Xp (kk:=j) Db.stop V a0 V V V V FU gu V V (a9 _ _ _ (((K.Ad U).Ad Y).Ad ay) ci co) ?_);exact JL.done (JL.out V (JO.aA (kk:=j) V V (JO.gw Tryz.K7 V V (JO.leaveD V func94 V (.inr V) XA))))
theorem OL.dX{e:TypeId}{E:LH}{r c:Nat}{seg:Seg}{xs:Lv_}(h:OL e rV E (A0 r) c seg xs)(Y:c=xs.length):seg= [(r,.cells xs.toArray e (0,0))]:=by
 obtain⟨wss,ag,K,Z⟩:=h;rcases ag with⟨al,_⟩ | ⟨bk,f,am,e2,ac,ap,O⟩
 ·cases al
 cases am;have hw:wss=xs.map λx=> [x]:=by
  apply List.ext_getElem?;intro i;rw [List.getElem?_map];cases U:xs[i]? with
  | none=>rw [List.getElem?_eq_none (by rw [K];exact List.getElem?_eq_none_iff.1 U)];rfl
  | some x=>
   have hi:i<wss.length:=by rw [K];exact(List.getElem?_eq_some_iff.1 U).1
   have:=(Z i x wss[i] U (List.getElem?_eq_getElem hi)).1;rw [List.getElem?_eq_getElem hi,this];rfl
 have aq:wss.flatten=xs:=by
  rw [hw];clear hw O Z K ac ap Y
  induction xs with
  | nil=>rfl
  | cons x xs av=>simp [av]
 rw [aq] at O;have ay:rV.n=1:=V;have aw:f.toList=xs:=by
  rw [O];rw [List.take_of_length_le (by rw [Array.length_toList,ac,Y];exact Nat.le_refl _)]
 rw [e2,← aw]
noncomputable def Lp:Code:=match(Tryz.f61.body).bind (JW 0) with | some (.loop c)=>c | _=> .skip
noncomputable def V9:Code:=match(Tryz.f61.body).bind (JW 2) with | some (.loop c)=>c | _=> .skip
set_option maxHeartbeats 1000000 in
theorem aY{F:Fam}{n:Nat}(aw:F.n=n)(bx:0<n)(bz:n<=1000){E:LH}{ap a1 al:An}{am c2 aq:Nat}{p:Ax}{O:AZ}(ay:Al Aw E ap am p)(az:Al (rL rI) E a1 c2 O.1)(a0:Al Aw E al aq O.2)(hlen:p.length=n){Y Z kf:Nat}(a2:At E Y 0 [.slice ap p.length am])(a3:At E Z 0 [sV a1 O.1 c2,sV al O.2 aq])(a4:At E kf 0 [.slice (some ⟨F.fd,0,none⟩) F.n F.n]){fu_:Nat}{xs:Nat->List Int}(a5:∀j,j<n->Lm fu_ O p j=some (xs j))(a6:∀j,j<n->∀E' a c,Al rI E' a c (xs j)->(xs j= []->a=none)->F.msg j (.slice a (xs j).length c) E'){j:Nat}(ac:j<n){ag H:LH}(hle:Le E ag)(a7:Aq ag H []){k:Li_}{cs:Lf_}
  (h:∀U,Le E U->Aq U H []->JL (AX Tryz.prog true) (Stop Tryz.prog F (F.EP j)) (base 61) Tryz.f61.ntmps [(2,Aj Z 0),(3,Aj Y 0),(6,.pointer (some F.uA)),(7,.pointer (some F.sA)),(8,Aj kf 0),(19,iV (p.length:Int)),(20,iV ((j+1:Nat):Int))] [] (.inLoop Lp::k) cs (Ak U H [])):
  JL (AX Tryz.prog true) (Stop Tryz.prog F (.Gy j)) (base 61) Tryz.f61.ntmps [(2,Aj Z 0),(3,Aj Y 0),(6,.pointer (some F.uA)),(7,.pointer (some F.sA)),(8,Aj kf 0),(19,iV (p.length:Int)),(20,iV ((j:Nat):Int))] [] (.code Lp:: .inLoop Lp::k) cs (Ak ag H []):=by
 refine C 2 V (Am (v:= .bool true) V (λρ h=>Yl.to (Yl.lss (h _ _ V) (h _ _ V)) (by rw [decide_eq_true (show((j:Nat):Int)<(p.length:Int) by omega)])) ?_);refine C 9 V (BQ a7 CH λrn a8=>?_);refine BJ 0 a8 Ay λa9=>?_;refine Cu 0 a9 V λU bb be bi=>ID (S':= []) (by simp) bi λbn=>?_;have K:=hle.trans bb;refine C 3 V (Yh Tryz.K7 V V V V V V ?_);refine C 2 V (Am (v:= .func (.func 94) #[] ([.pointer (some F.sA),Aj Y 0,Aj Z 0,Aj rn 0,.pointer (some F.uA),Aj kf 0]:Lv_).toArray) V (λρ h=>Kh (by simp) (by simp [h (.tmp 7) _ rfl,h (.tmp 3) _ rfl,h (.tmp 2) _ rfl,h (.tmp 9) _ rfl,h (.tmp 6) _ rfl,h (.tmp 8) _ rfl])) ?_);have av:=cd (F:=F) (j:=j) (a2.Ag K) (ay.Ag K) (a3.Ag K) (az.Ag K) (a0.Ag K) be (a4.Ag K) (a5 j ac) (by rw [aw];exact ac) (λE' a c _ bo bv=>a6 j ac E' a c bo bv);refine dY (fi:= #[]) V V V V V V V (by first | exact av | (simp only [List.append_toArray,List.nil_append,Array.append_empty,Array.empty_append];exact av)) ?_
 refine C 3 V ?_;have bw:Au (((j:Nat):Int)+1)=some (((j+1:Nat)):Int):=by unfold Au;rw [if_pos (by omega)];simp
 refine Bq bw V V V (C 2 V ?_);exact AB (h U K bn) V
theorem Xi{F:Fam}{n:Nat}(Y:F.n=n)(aw:0<n)(ay:n<=1000){E:LH}{ap a1 ag:An}{al c2 am:Nat}{p:Ax}{O:AZ}(az:Al Aw E ap al p)(a0:Al (rL rI) E a1 c2 O.1)(a2:Al Aw E ag am O.2)(hlen:p.length=n){Z ac kf:Nat}(a3:At E Z 0 [.slice ap p.length al])(a4:At E ac 0 [sV a1 O.1 c2,sV ag O.2 am])(a5:At E kf 0 [.slice (some ⟨F.fd,0,none⟩) F.n F.n]){fu_:Nat}{xs:Nat->List Int}(a6:∀j,j<n->Lm fu_ O p j=some (xs j))(a7:∀j,j<n->∀E' a c,Al rI E' a c (xs j)->(xs j= []->a=none)->F.msg j (.slice a (xs j).length c) E'){H:LH}{k:Li_}{cs:Lf_}
  (h:∀K,Le E K->Aq K H []->JL (AX Tryz.prog true) (Stop Tryz.prog F .DC) (base 61) Tryz.f61.ntmps [(2,Aj ac 0),(3,Aj Z 0),(6,.pointer (some F.uA)),(7,.pointer (some F.sA)),(8,Aj kf 0),(19,iV (p.length:Int)),(20,iV (p.length:Int))] [] (.code Lp:: .inLoop Lp::k) cs (Ak K H [])):
  ∀(m j:Nat),j+m=n->0<m->∀U,Le E U->Aq U H []->JL (AX Tryz.prog true) (Stop Tryz.prog F (.Gy j)) (base 61) Tryz.f61.ntmps [(2,Aj ac 0),(3,Aj Z 0),(6,.pointer (some F.uA)),(7,.pointer (some F.sA)),(8,Aj kf 0),(19,iV (p.length:Int)),(20,iV ((j:Nat):Int))] [] (.code Lp:: .inLoop Lp::k) cs (Ak U H []):=by
 intro m
 induction m with
 | zero=>intro j _ a8;cases a8
 | succ m a9=>
  intro j bi _ U hle bb;refine aY Y aw ay az a0 a2 hlen a3 a4 a5 a6 a7 (by omega) hle bb λK aq av=>JL.again ?_;by_cases hm:m=0
  ·subst hm;have be:j+1=F.n:=by rw [Y];omega
   have e:F.EP j= .DC:=by unfold Fam.EP;rw [if_pos be]
   rw [e];have e2:((j+1:Nat):Int)=(p.length:Int):=by rw [hlen];omega
   rw [e2];exact h K aq av
  ·have e:F.EP j= .Gy (j+1):=by unfold Fam.EP;rw [if_neg (by rw [Y];omega)]
   rw [e];exact a9 (j+1) (by omega) (by omega) K aq av
def Ps(fu_:Nat)(K:AZ)(p:Ax)(j:Nat):List Int:=(Lm fu_ K p j).getD []
def MP(n:Nat)(xs:Nat->List Int):(List Int)×Bool:=match(List.range n).find? (λj=> !(xs j).isEmpty) with | some j=>(xs j,true) | none=>([],false)
def f77(fu_:Nat)(K:AZ)(p:Ax):Option ((List Int)×Bool):= if p.length=0 then some ([],true) else if p.length<=1000/\(List.range p.length).all (λj=>(Lm fu_ K p j).isSome)=true then some (MP p.length (Ps fu_ K p)) else none
theorem X4{n:Nat}{xs:Nat->List Int}{i:Nat}(hi:i<n)(K:xs i≠ [])(O:∀k,k<i->xs k= []):MP n xs=(xs i,true):=by
 unfold MP;have:(List.range n).find? (λj=> !(xs j).isEmpty)=some i:=by
  rw [List.find?_range_eq_some];refine⟨by simp [K],by simpa using hi,λj U=>by simp [O j U]⟩
 rw [this]
theorem XM{n:Nat}{xs:Nat->List Int}(K:∀k,k<n->xs k= []):MP n xs=([],false):=by
 unfold MP;have:(List.range n).find? (λj=> !(xs j).isEmpty)=none:=by
  rw [List.find?_eq_none];intro j O;simp [K j (List.mem_range.1 O)]
 rw [this]
theorem Z0{E:LH}{a:An}{c:Nat}{xs:List Int}(h:Al rI E a c xs)(K:xs≠ []):a.isNone=false:=by
 rcases h.2 with⟨e,_⟩ | ⟨bk,off,e,_⟩
 ·exact absurd e K
 ·rw [e];rfl
set_option maxHeartbeats 1000000 in
theorem cJ{J:Judge Tryz.prog}{Q:Gs_}{Y:Frame}{cs:Lf_}{fd n:Nat}{f:Nat->Value}{xs:Nat->List Int}(ay:n<=1000){E H:LH}{k:Li_}(ag:Aq E H [[(fd,.cells (Array.ofFn λi:Fin n=>f i) 22 (0,0))]])(hm:∀k,k<n->∃a c,f k= .slice a (xs k).length c/\Al rI E a c (xs k)/\(xs k= []->a=none))
  (al:∀i a c L',i<n->xs i≠ []->(∀k,k<i->xs k= [])->Al rI E a c (xs i)->look L' 4=some (.slice a (xs i).length c)->look L' 5=some (.bool true)->∀k',JL J Q (base 61) Tryz.f61.ntmps L' [] (.code .ret::k') (Y::cs) (Ak E H [[(fd,.cells (Array.ofFn λi:Fin n=>f i) 22 (0,0))]]))
  (am:(∀k,k<n->xs k= [])->JL J Q (base 61) Tryz.f61.ntmps [] [] k (Y::cs) (Ak E H [[(fd,.cells (Array.ofFn λi:Fin n=>f i) 22 (0,0))]])):
  ∀m i,i+m=n->(∀k,k<i->xs k= [])->JL J Q (base 61) Tryz.f61.ntmps [(27,.slice (A0 fd) n n),(28,iV (n:Int)),(29,iV (i:Int))] [] (.code V9:: .inLoop V9:: .inBlock 2::k) (Y::cs) (Ak E H [[(fd,.cells (Array.ofFn λi:Fin n=>f i) 22 (0,0))]]):=by
 intro m
 induction m with
 | zero=>
  intro i hi K;refine C 2 V (Am (v:= .bool false) V (λρ h=>Yl.to (Yl.lss (h _ _ V) (h _ _ V)) (by rw [decide_eq_false (show ¬((i:Int)<(n:Int)) by omega)])) ?_);refine C 4 V (EJ [] V ?_);exact am λk az=>K k (by omega)
 | succ m ap=>
  intro i hi K;have O:i<n:=by omega
  obtain⟨a,c,aq,ac,av⟩:=hm i O;refine C 2 V (Am (v:= .bool true) V (λρ h=>Yl.to (Yl.lss (h _ _ V) (h _ _ V)) (by rw [decide_eq_true (show(i:Int)<(n:Int) by omega)])) ?_);refine C 8 V (Am (v:= Aj fd i) V (λρ h=>Yl.to (FK (xs:=List.replicate n ()) (m:=((i:Nat):Int)) (xv:=()) (List.length_replicate) (by simp [ix,O]) underlying25 FU (h _ _ V) (h _ _ V)) (by show Aj fd (i*1)=_;rw [Nat.mul_one])) ?_);refine Am (v:= .slice a (xs i).length c) V (λρ h=>Yl.load Jy (h _ _ V) (BV (j:=0) (off:=i) ag V (by simp [O,aq]))) (C 5 V ?_);refine Am (v:= .bool (!a.isNone)) V (λρ h=>XY underlying22 (h _ _ V) (h _ _ V)) (JL.done ?_);by_cases U:xs i= []
  ·have Z:(!a.isNone)=false:=by rw [av U];rfl
   rw [Z];refine C 4 V ?_;have aw:Au (((i:Nat):Int)+1)=some (((i+1:Nat)):Int):=by unfold Au;rw [if_pos (by omega)];simp
   refine Bq aw V V V ?_;refine C 2 V ?_;refine JL.again ?_;refine EH ?_ (ap (i+1) (by omega) (λk a0=>by
    by_cases e:k=i
    ·subst e;exact U
    ·exact K k (by omega)))
   exact⟨V,V,V,trivial⟩
  ·have Z:(!a.isNone)=true:=by rw [Z0 ac U];rfl
   rw [Z];exact C 7 V (al i a c _ O U K ac V V _)
set_option maxHeartbeats 2000000 in
theorem gb{E:LH}{a1:An}{c2:Nat}{a8:An}{a9:Nat}{ap:An}{bb:Nat}{O:AZ}{p:Ax}(cc:Al (rL rI) E a1 c2 O.1)(ce:Al Aw E a8 a9 O.2)(ci:Al Aw E ap bb p){fu_:Nat}{r:(List Int)×Bool}(U:f77 fu_ O p=some r):
  AK (Hc Tryz.prog) 61 [.agg #[sV a1 O.1 c2,sV a8 O.2 a9],sV ap p bb] E [] (λw E' B'=>∃(be:An) (bi:Nat),w= .tuple #[sV be r.1 bi,.bool r.2]/\B'= []/\Al rI E' be bi r.1):=by
 refine LX func61 V V λQ ex cs H co Y=>?_;unfold f77 at U;refine C 2 V (Dp co λcp ey ct cw cy=>?_);refine Dp cy λc0 eA bn am c1=>?_;refine ID (S':= []) (by simp) c1 λbo=>?_;have bv:=ct.Ad bn;refine C 6 V (Cy 0 am BH V V V ?_);refine JL.ln underlying96 V V V (C 2 V ?_);refine Gt (p:=(p.length:Int)=0) V (λc3=>?_) (λc3=>?_)
 ·rw [if_pos (by omega)] at U;have Z:=(Option.some.inj U).symm;subst Z;refine C 5 V (AS func61 V V ?_);exact Y _ _ _ _ bv V ⟨none,0,V,V,Al.nil⟩ bo
 rw [if_neg (by omega)] at U;split at U
 rotate_left
 ·cases U
 rename_i hb;obtain⟨bw,c4⟩:=hb;have Z:=(Option.some.inj U).symm;have ag:∀j,j<p.length->Lm fu_ O p j=some (Ps fu_ O p j):=λj az=>by
  have aq:=List.all_eq_true.1 c4 j (List.mem_range.2 az);obtain⟨x,a0⟩:=Option.isSome_iff_exists.1 aq;unfold Ps;rw [a0];rfl
 generalize eC:Ps fu_ O p=xs at ag Z;have bx:0<p.length:=by omega
 refine C 3 V (BQ bo (C8 type138) λmu c5=>?_);refine C 3 V (BQ c5 (C8 type144) λwg c6=>?_);refine JL.done (ID (S':= [[(mu,.cells #[.int .i32 0,.int .u32 0] 138 (0,0))],[(wg,.cells #[.int .u64 0,.int .u32 0] 144 (0,0))]]) (by simp [Value.cells]) c6 λc7=>?_);refine C 2 V (Cy 0 am BH V V V ?_);refine JL.ln underlying96 V V V ?_;have c8:IM (p.length:Int) (Value.slice none 0 0)=some (List.replicate p.length nS):=by unfold IM;rw [if_pos (by omega)];simp
 refine JS.make (pp:=rV) c8 V V V V V underlying25 FU (Dv type22) (by decide) Ml (by decide) ⟨V,V⟩ c7 λfd eN c9 bz=>?_;have dd:=OL.dX c9 V;subst dd;obtain⟨K,b0⟩:∃K,K=List.replicate p.length (Value.slice none 0 0):=⟨_,V⟩;have b1:(List.replicate p.length (Value.slice none 0 0)).length=p.length:=by simp
 rw [← b0] at bz b1 ⊢;rw [b1];refine BQ bz (C8 type25) λkf dn=>?_;refine BJ 3 dn Fo λea=>?_;refine Cu 3 ea V λac av b2 eb=>ID (S':= [[(mu,.cells #[.int .i32 0,.int .u32 0] 138 (0,0))],[(wg,.cells #[.int .u64 0,.int .u32 0] 144 (0,0))],[(fd,.cells K.toArray 22 (0,0))]]) (by simp) eb λal=>?_;have aw:=bv.Ad av;refine C 4 V (Cy 0 (am.Ag av) BH V V V ?_);refine JL.ln underlying96 V V V (C 3 V ?_);refine IC (EJ [(2,Aj cp 0),(3,Aj c0 0),(6,.pointer (some (⟨mu,0,none⟩:Addr))),(7,.pointer (some (⟨wg,0,none⟩:Addr))),(8,Aj kf 0),(19,iV (p.length:Int)),(20,iV ((0:Nat):Int))] V ?_);have b3:=Nd.iff.1 al;intro T ec;let F:Fam:=⟨wg,mu,fd,144,138,22,p.length,λkk v E=>kk<p.length/\∃a c,v= .slice a (xs kk).length c/\Al rI E a c (xs kk)/\(xs kk= []->a=none),λg s=>(Hc Tryz.prog).ok Q g s⟩;have ay:=b3.1;simp only [List.flatten_cons,List.flatten_nil,List.append_nil,List.cons_append,List.nil_append,List.map_cons,List.map_nil,List.nodup_cons,List.mem_cons,List.not_mem_nil,not_or,or_false,not_false_eq_true,and_true,List.nodup_nil] at ay;have ed:(Ak ac H [[(mu,.cells #[.int .i32 0,.int .u32 0] 138 (0,0))],[(wg,.cells #[.int .u64 0,.int .u32 0] 144 (0,0))],[(fd,.cells K.toArray 22 (0,0))]]).H fd=some (F.I2 λ_=> nS):=by
  rw [KA (j:=2) al rfl];have:(Array.ofFn λ_:Fin p.length=>Value.slice none 0 0)=K.toArray:=by
   rw [b0];apply Array.ext
   ·simp
   ·intro i aq b4;simp
  show some (Obj.cells K.toArray 22 (0,0))=some (Obj.cells (Array.ofFn λ_:Fin p.length=>Value.slice none 0 0) 22 (0,0));rw [this]
 refine ah F (f₀:=λ_=> .slice none 0 0) (show 1<=p.length by omega) (show p.length<134217728 by omega) ?_ ay.1.1 (λe=>ay.2 e.symm) (λe=>ay.1.2 e.symm) (KA (j:=1) al V) (KA (j:=0) al V) ed ?_ (λg s h=>h)
 ·rintro kk v e0 e1 ee ⟨aq,a,c,b4,a2,a3⟩;exact⟨aq,a,c,b4,a2.Ag ee,a3⟩
 have ef:=Xg al;show Way Tryz.prog true (Stop Tryz.prog F (.Gy 0)) _ (⟨(Ak ac H [[(mu,.cells #[.int .i32 0,.int .u32 0] 138 (0,0))],[(wg,.cells #[.int .u64 0,.int .u32 0] 144 (0,0))],[(fd,.cells K.toArray 22 (0,0))]]).E,Kl (Ak ac H [[(mu,.cells #[.int .i32 0,.int .u32 0] 138 (0,0))],[(wg,.cells #[.int .u64 0,.int .u32 0] 144 (0,0))],[(fd,.cells K.toArray 22 (0,0))]]).H wg mu fd,false⟩:St);rw [show(Ak ac H [[(mu,.cells #[.int .i32 0,.int .u32 0] 138 (0,0))],[(wg,.cells #[.int .u64 0,.int .u32 0] 144 (0,0))],[(fd,.cells K.toArray 22 (0,0))]]).E=ac from rfl,ef];have eg:Aq ac H []:=trivial;have ej:H fd=none:=(b3.2 (fd,.cells K.toArray 22 (0,0)) (by simp)).2;refine Xi (F:=F) (n:=p.length) V bx bw (ci.Ag aw) (cc.Ag aw) (ce.Ag aw) V (am.Ag av) (cw.Ag (bn.Ad av)) b2 ag (λj az E' a c ek el=>⟨az,a,c,V,ek,el⟩) (λem b5 e3=>?_) p.length 0 (by omega) bx ac AE eg T ec;refine C 2 V ?_;refine Am (v:= .bool false) V (λρ h=>Yl.to (Yl.lss (h _ _ V) (h _ _ V)) (by rw [decide_eq_false (show ¬((p.length:Int)<(p.length:Int)) by omega)])) ?_;refine C 6 V ?_;refine JL.wait Tryz.K7 (F:=F) (show p.length<2147483648 by omega) V V V V V (Q:=Q) (λg s h=>h) λa4 f b6 eo e4 ep=>?_;have a5:Aq a4 H [[(fd,F.I2 f)]]:=Nd.iff.2 ⟨by simp,λq ag=>by
  simp at ag;subst ag;exact⟨eo,ej⟩⟩
 have es:(⟨a4,F.Kq (Ak em H []).H f,false⟩:St)=Ak a4 H [[(fd,F.I2 f)]]:=by
  unfold Ak mk;congr 1
 rw [es];have ca:=(aw.Ad b5).Ad b6;refine C 4 V (Cy 0 (b2.Ag (b5.Ad b6)) Fy V V V ?_);refine JL.ln underlying25 V V V (C 3 V ?_);refine IC (EJ [(27,.slice (A0 fd) p.length p.length),(28,iV (p.length:Int)),(29,iV ((0:Nat):Int))] V ?_);refine cJ (n:=p.length) (f:=f) (xs:=xs) bw a5 (λk Y=>?_) (λi a c L' hi a0 a6 er a2 a3 k'=>?_) (λa6=>?_) p.length 0 (by omega) (λk Y=>absurd Y (Nat.not_lt_zero _))
 ·obtain⟨_,a,c,eu,e2,ew⟩:=ep k Y;exact⟨a,c,eu,e2,ew⟩
 ·rw [X4 hi a0 a6] at Z;subst Z;exact JL.ret (v:= .tuple #[.slice a (xs i).length c,.bool true]) V V (BE.list func61 V (vs:= [.slice a (xs i).length c,.bool true]) ⟨a2,a3,trivial⟩) (Sr a5 λa7=>Y _ _ _ _ ca V ⟨a,c,V,V,er⟩ a7)
 ·rw [XM a6] at Z;subst Z;refine C 5 V (AS func61 V V ?_);exact Sr a5 λa7=>Y _ _ _ _ ca V ⟨none,0,V,V,Al.nil⟩ a7
end Pal
namespace Pal
open Go Go.Conc Go.Proofs
open Go.Proofs.Tryz
def UY(fu_:Nat)(Z:AZ×Int)(O:A2)(K:Int):Option (Bn Int ((Ax×(List Int)×Int)⊕(Unit))):= if K<(O.length:Int) then((ix O K).bind λU=> (f77 fu_ Z.1 U).bind λY=> if Y.2=true then(some (.done (Sum.inl (U,Y.1,0)))) else((Au (K+1)).bind λac=> some (.more ac))) else(some (.done (Sum.inr ())))
def f27(fu_:Nat)(p0:AZ):Option (Ax×(List Int)×Int):= (f70 fu_ p0 ([])).bind λK=> if K.2≠0 then(some ([],[],K.2)) else((f71 fu_ K.1 0).bind λO=> (f76 fu_ O).bind λU=> Option.bind (iter (UY fu_ K U) fu_ 0) λY=> Sum.elim (λr=>some r) (λZ=> some ([],[],11)) Y)
theorem fP{E:LH}{a1:An}{c2:Nat}{al:An}{am:Nat}{p0:AZ}(ce:Al (rL rI) E a1 c2 p0.1)(ci:Al Aw E al am p0.2){fu_:Nat}{r:Ax×(List Int)×Int}(a8:f27 fu_ p0=some r):AK (Hc Tryz.prog) 24 [.agg #[sV a1 p0.1 c2,sV al p0.2 am]] E [] (λw E' B'=>∃(a9:An) (bb:Nat) (be:An) (bi:Nat),w= .tuple #[sV a9 r.1 bb,sV be r.2.1 bi,iV r.2.2]/\B'= []/\Al Aw E' a9 bb r.1/\Al rI E' be bi r.2.1):=by
 refine Bi func24 λQ fw cs H co a2=>?_;unfold f27 at a8;refine C 2 V (Dp co λcp fN Y ct cw=>?_);refine C 6 V (B4 ct Fc CV V V ?_);obtain⟨K,cy,c0⟩:=bs a8;refine BY (Kx (ce.Ag Y) (ci.Ag Y) Al.nil cy) V V J9 cw ?_;rintro _ gc _ a3 ⟨ap,aq,av,aw,rfl,rfl,bn,bo⟩ c1;refine C 3 V (BQ c1 Hu λbv c3=>?_);refine BJ 3 c3 Du λc4=>?_;refine Cu 3 c4 V λge O bw bx=>C 8 V (AU c0 (λc5 c6=>?_) (λc5 c7=>?_))
 ·refine C 7 V ?_;obtain rfl:=oi c6;exact AS func24 V V (a2 ((Y.Ad a3).Ad O) V ⟨none,0,none,0,V,V,Al.nil,Al.nil⟩ bx)
 ·refine C 3 V (B4 bw FI Du V V ?_);obtain⟨gg,c8,c9⟩:=bs c7;refine BY (Ru (bn.Ag O) (bo.Ag O) c8) V V PF bx ?_;rintro _ gh gl Z ⟨ay,az,_,rfl,rfl,dd⟩ dn;obtain⟨ac,ea,eb⟩:=bs c9;refine C 5 V (Ch 4 (dh dd ea) V V (A1 func63 V) dn V ?_);rintro _ ec ed ag ⟨rfl,ee,a4⟩ ef;refine EH (L':= [(23,.tuple #[]),(0,.agg #[.slice a1 p0.1.length c2,.slice al p0.2.length am]),(1,Aj cp 0),(2,.slice none 0 0),(3,.slice none 0 0),(4,iV 0),(13,.agg #[.slice a1 p0.1.length c2,.slice al p0.2.length am]),(14,.tuple #[.agg #[.slice ap K.1.1.length aq,.slice av K.1.2.length aw],iV K.2]),(12,.tuple #[.agg #[.slice ap K.1.1.length aq,.slice av K.1.2.length aw],iV K.2]),(15,.agg #[.slice ap K.1.1.length aq,.slice av K.1.2.length aw]),(16,iV K.2),(5,Aj bv 0),(6,iV K.2),(17,iV K.2),(18,.bool (decide (K.2≠0))),(20,.agg #[.slice ap K.1.1.length aq,.slice av K.1.2.length aw]),(21,.slice ay ac.length az),(7,.slice ay ac.length az),(22,.slice ay ac.length az)]) ⟨V,V,V,V,V,V,V,V,V,V,V,V,V,V,V,V,by rw [a4];rfl,by rw [a4];rfl,by rw [a4];rfl,trivial⟩ ?_;refine C 5 V (JL.ln underlying91 V V V ?_);obtain⟨bz,eg,b0⟩:=bs eb;refine C 2 V (Bt (λL s=>∃(b1:Unit) (b2:LH),bz=Sum.inr b1/\Jm ec H b2 [] [] L s) ?_ ?_)
  ·rintro _ _ ⟨b1,b2,rfl,rfl,rfl,ej,ek⟩;have el:=elim_inr b0;refine C 6 V ?_;obtain rfl:=oi el;exact AS func24 V V (a2 (((((Y.Ad a3).Ad O).Ad Z).Ad ag).Ad ej) V ⟨none,0,none,0,V,V,Al.nil,Al.nil⟩ ek)
  ·intro em;refine JL.block (Ee eg (λa5=> [ed]) (λa5=> [(5,Aj bv 0),(24,sV ay ac az),(25,iV (ac.length:Int)),(26,iV a5)]) AE ef ?_);rintro a5 eo U a6 b3 ⟨gt,a0⟩ ep;have b4:=a0;unfold UY at b4;refine C 5 V (AU b4 (λer eu=>?_) (λer ew=>?_))
   ·obtain⟨ex,ey,eA⟩:=bs eu;refine C 5 V (JN 0 (ee.Ag U) ey V V V V V V underlying91 Bl ?_);rintro gE gO f93 _ eC ⟨b5,b6,rfl,ca⟩ eN gV gW gX gY;refine Am (v:= sV b5 ex b6) V (λρ h=>Yl.load BH (h _ _ V) (BV (j:=0) a6 eC (eN 0 _ V))) (C 4 V ?_);refine B4 (bw.Ag ((Z.Ad ag).Ad U)) FI Du V V ?_;obtain⟨gZ,e0,e1⟩:=bs eA;refine C 1 V (BY (gb (bn.Ag (((O.Ad Z).Ad ag).Ad U)) (bo.Ag (((O.Ad Z).Ad ag).Ad U)) ca e0) V V (A1 func61 V) a6 ?_);rintro _ g0 _ a7 ⟨e3,e4,rfl,rfl,e5⟩ cc;refine C 10 V (Cx e1 (λe6 e7=>?_) (λe6 e8=>?_))
    ·refine C 8 V (JS.drop 0 cc V λff=>?_);obtain rfl:=oi e7;obtain rfl:=b3 _ a0;have fk:=elim_inl b0;obtain rfl:=oi fk;exact AS func24 V V (a2 ((((((Y.Ad a3).Ad O).Ad Z).Ad ag).Ad U).Ad a7) V ⟨b5,b6,e3,e4,V,V,(ca.Ag a7),e5⟩ ff)
    ·obtain⟨fl,fm,fo⟩:=bs e8;refine C 3 V (Bq fm V V V ?_);refine C 2 V ?_;obtain rfl:=oi fo;exact ep fl (U.Ad a7) cc V a0
   ·refine JL.exit V (JS.drop 0 a6 V λfs=>?_);obtain rfl:=oi ew;have fv:bz=(Sum.inr ()):=(b3 _ a0).symm;exact AB (em _ _ ⟨(),eo,fv,V,V,U,fs⟩) V
variable {J:Judge Tryz.prog}{E:LH}
def Vg(fu_:Nat)(p0:List Int)(K:Ax×Int):Option (Bn (Ax×Int) (Ax)):= (Au (K.2+2)).bind λO=> if O<(p0.length:Int) then((ix p0 K.2).bind λU=> (Au (K.2+1)).bind λY=> (ix p0 Y).bind λZ=> (Au (K.2+2)).bind λac=> (ix p0 ac).bind λag=> (Ep K.1 ([(U,Z,ag)]:Ax)).bind λal=> (Au (K.2+3)).bind λam=> some (.more (al,am))) else(some (.done K.1))
def f67(fu_:Nat)(p0:List Int):Option (Ax):= Option.bind (iter (Vg fu_ p0) fu_ ([],0)) λK=> some K
theorem Pg{a1:An}{c2:Nat}{p0:List Int}(aq:Al rI E a1 c2 p0){fu_:Nat}{r:Ax}(a2:f67 fu_ p0=some r):AK J 44 [sV a1 p0 c2] E [] (λw E' B'=>∃(a3:An) (a4:Nat) (g0:Seg),w= sV a3 r a4/\B'=g0/\OL 42 Aw E' a3 a4 g0 r):=by
 refine Bi func44 λQ eo cs H be bi=>?_;unfold f67 at a2;obtain⟨a5,bn,bo⟩:=bs a2;refine C 13 V (Bt (λL s=>∃(av:LH) (Y:An) (Z:Nat) (ac:Seg),Jn E H av [ac] [(3,sV Y a5 Z)] L s (OL 42 Aw av Y Z ac a5)) ?_ ?_)
 ·rintro _ _ ⟨av,Y,Z,ac,rfl,rfl,bv,bw,bx⟩;refine C 5 V ?_;obtain rfl:=oi bo;exact AS func44 V V (bi bv V ⟨Y,Z,ac,V,(by first | rfl | simp | (simp [Value.cells])),bx⟩ bw)
 ·intro bz;refine JL.block (Cw bn (λL s ag=>∃(al:LH) (am:An) (ap:Nat) (O:Seg),Jn E H al [O] [(0,sV a1 p0 c2),(3,sV am ag.1 ap),(4,iV ag.2)] L s (OL 42 Aw al am ap O ag.1)) ⟨E,none,0,[],V,V,AE,be,OL.nil⟩ ?_);rintro _ _ ag ⟨al,am,ap,O,rfl,rfl,U,a6,a7⟩ b0 ⟨ep,aw⟩ b1;have a8:=aw;unfold Vg at a8;obtain⟨er,b2,b3⟩:=bs a8;refine C 4 V (Bq b2 V V V ?_);refine C 1 V (JL.ln underlying22 V V V ?_);refine C 2 V (AU b3 (λb4 b5=>?_) (λb4 b6=>?_))
  ·refine C 3 V (Ff 17 λK=>?_);refine A6 K V [0,1,2] V ?_;obtain⟨ay,ca,cc⟩:=bs b5;refine Er 3 (aq.Ag U) ca K underlying22 Ay ?_;rintro eu ew _ rfl ce;refine Dw 4 K 0 ce A3 V V V V (A6 K V [5,6] V ?_);obtain⟨ex,ci,co⟩:=bs cc;refine AL 7 K V V (λρ h s' a9=>FY (h _ _ V) (h _ _ V) ci) ?_;obtain⟨az,cp,ct⟩:=bs co;refine Er 8 (aq.Ag U) cp K underlying22 Ay ?_;rintro ey eA _ rfl cw;refine Dw 9 K 0 cw A3 V V V V (A6 K V [10,11] V ?_);obtain⟨eC,cy,c0⟩:=bs ct;refine AL 12 K V V (λρ h s' a9=>FY (h _ _ V) (h _ _ V) cy) ?_;obtain⟨a0,c1,c3⟩:=bs c0;refine Er 13 (aq.Ag U) c1 K underlying22 Ay ?_;rintro eN e0 _ rfl c4;refine Dw 14 K 0 c4 A3 V V V V (AL (v:= .agg #[iV ay,iV az,iV a0]) 15 K V V (λρ h s' a9=>CZ [(0,1),(1,1),(2,1)] h BP underlying42 ⟨V,AM type3,V,AM type3,V,AM type3,trivial⟩ V V) ?_);refine JG.one (i:=16) V (by decide+kernel) (Take.Fh (pp:=Aw) [.agg #[iV ay,iV az,iV a0]] ([(ay,az,a0)]:Ax) a6 V V V underlying26 Bg BP (by decide) V V V ⟨⟨_,_,V,V,⟨_,_,V,V,V⟩⟩,trivial⟩ λe1 c5 c6 c7=>?_);refine Dl [17,18] (Bz (S':= [O,c5]) V c7 λc8=>?_);refine Cj 1 c6 c8 V λc9 bb dd dn=>?_;obtain⟨ea,eb,ec⟩:=bs c3;refine Ko (pp:=Aw) 0 eb V V V V V V V underlying26 underlying26 Bg (Dv type42) BP V (by decide) (by decide) (a7.Ag bb) dd dn V λed ee ef eg ej=>?_;obtain⟨ek,el,em⟩:=bs ec;refine C 5 V (Bq el V V V ?_);refine C 2 V ?_;obtain rfl:=oi em;exact AB (b1 _ _ (ea,ek) ⟨c9,ed,ee,ef,V,V,(U.Ad bb),ej,eg⟩ aw) V
  ·refine JL.exit V ?_;obtain rfl:=oi b6;obtain rfl:=b0 _ aw;exact AB (bz _ _ ⟨al,am,ap,O,V,V,U,a6,a7⟩) V
def f110(fu_:Nat)(p0:List Int)(K:List Int):Option (AZ):= (f67 fu_ ([0,1,5,1,2,5,2,3,2,0,3,1,3,1,1]:List Int)).bind λO=> (f67 fu_ K).bind λU=> (Ep O U).bind λY=> some (([p0,[],([3]:List Int),([1]:List Int)]:Bs),Y)
theorem QW{a1:An}{c2:Nat}{ay:An}{az:Nat}{p0:List Int}{al:List Int}(a9:Al rI E a1 c2 p0)(bb:Al rI E ay az al){fu_:Nat}{r:AZ}(a0:f110 fu_ p0 al=some r):AK J 42 [sV a1 p0 c2,sV ay al az] E [] (λw E' B'=>∃(a2:An) (a3:Nat) (a4:An) (a5:Nat),w= .agg #[sV a2 r.1 a3,sV a4 r.2 a5]/\B'= []/\Al (rL rI) E' a2 a3 r.1/\Al Aw E' a4 a5 r.2):=by
 refine Bi func42 λQ ep cs H be bi=>?_;unfold f110 at a0;refine C 2 V (BQ be Ka λY bn=>?_);refine C 4 V (Ge (pp:=rI) [iV 3] [3] V V V underlying22 Ay CH (by decide) V V V ⟨V,trivial⟩ bn λbo bv bw bx=>?_);refine Ge (pp:=rI) [iV 1] [1] V V V underlying22 Ay CH (by decide) V V V ⟨V,trivial⟩ bx λbz b0 b1 b2=>Bz (S':= [[],[(Y,.cells #[nS,nS] 28 (0,0))],bv,b0]) V b2 λb3=>Cj 2 bw b3 V λer ac b4 b5=>Cj 3 (b1.Ag ac) b5 V λeu ag b6 ca=>Ge (pp:=(rL rI)) [sV a1 p0 c2,nS,.slice (A0 bo) (([3]:List Int)).length 1,.slice (A0 bz) (([1]:List Int)).length 1] [p0,[],([3]:List Int),([1]:List Int)] V V V underlying25 FU Ml (by decide) V V V ⟨⟨_,_,V,(a9.Ag (ac.Ad ag))⟩,⟨_,_,V,Al.nil⟩,⟨_,_,V,(b4.Ag ag)⟩,⟨_,_,V,b6⟩,trivial⟩ ca λK am cc ce=>Bz (S':= [[],[(Y,.cells #[nS,nS] 28 (0,0))],[],[],am]) V ce λci=>Ge (pp:=rI) [iV 0,iV 1,iV 5,iV 1,iV 2,iV 5,iV 2,iV 3,iV 2,iV 0,iV 3,iV 1,iV 3,iV 1,iV 1] [0,1,5,1,2,5,2,3,2,0,3,1,3,1,1] V V V underlying22 Ay CH (by decide) V V V ⟨V,V,V,V,V,V,V,V,V,V,V,V,V,V,V,trivial⟩ ci λew ex co cp=>Cj 5 co cp V λey ap ct cw=>?_;obtain⟨eA,cy,c0⟩:=bs a0;refine BY (Pg ct cy) V V NI cw ?_;rintro _ eC c1 aq ⟨eN,e0,_,rfl,rfl,c3⟩ c4;refine Bz (S':= [[],[(Y,.cells #[nS,nS] 28 (0,0))],[],[],am,[],c1]) V c4 λc5=>?_;obtain⟨e1,c6,c7⟩:=bs c0;refine C 1 V (BY (Pg (bb.Ag (((ac.Ad ag).Ad ap).Ad aq)) c6) V V NI c5 ?_);rintro _ e3 e4 av ⟨e5,e6,_,rfl,rfl,c8⟩ c9;refine Cj 7 c8 c9 V λe7 aw dd dn=>?_;obtain⟨Z,ea,eb⟩:=bs c7;refine Ko (pp:=Aw) 6 ea V V V V V V V underlying26 underlying26 Bg (Dv type42) BP V (by decide) (by decide) (c3.Ag (av.Ad aw)) dd dn V λO U ec ed ee=>Bz (S':= [[],[(Y,.cells #[nS,nS] 28 (0,0))],[],[],am,[],ec,[]]) V ee λef=>Am (v:= .agg #[.slice (A0 K) (([p0,[],([3]:List Int),([1]:List Int)]:Bs)).length 4,sV O Z U]) V (λρ h=>CZ [(0,1),(1,1)] h Ka underlying28 ⟨V,AM type25,V,AM type26,trivial⟩ V V) (BJ 1 ef CV λeg=>?_);refine JL.done (Cj 4 (cc.Ag (((ap.Ad aq).Ad av).Ad aw)) eg V λe8 a6 ej ek=>?_);refine Cj 6 (ed.Ag a6) ek V λff a7 el em=>Bz (S':= [[],[(Y,.cells #[.slice (A0 K) (([p0,[],([3]:List Int),([1]:List Int)]:Bs)).length 4,sV O Z U] 28 (0,0))],[],[],[],[],[],[]]) V em λa8=>?_;obtain rfl:=oi eb;refine JL.ret (v:= .agg #[.slice (A0 K) (([p0,[],([3]:List Int),([1]:List Int)]:Bs)).length 4,sV O Z U]) V V (BE.list func42 V (vs:= [.agg #[.slice (A0 K) (([p0,[],([3]:List Int),([1]:List Int)]:Bs)).length 4,sV O Z U]]) ⟨⟨_,V,Ld.many (vs:= [.slice (A0 K) (([p0,[],([3]:List Int),([1]:List Int)]:Bs)).length 4,sV O Z U]) Fc CV (Hw (off:=0) 1 a8 V V)⟩,trivial⟩) (EF 1 a8 V λeo=>?_);exact bi (((((((ac.Ad ag).Ad ap).Ad aq).Ad av).Ad aw).Ad a6).Ad a7) V ⟨(A0 K),4,O,U,V,V,(ej.Ag a7),el⟩ eo
def f63(fu_:Nat):Option (AZ):= (f110 fu_ ([1,2,3]:List Int) ([])).bind λK=> some K
theorem O9{fu_:Nat}{r:AZ}(ac:f63 fu_=some r):AK J 40 [] E [] (λw E' B'=>∃(ag:An) (al:Nat) (am:An) (ap:Nat),w= .agg #[sV ag r.1 al,sV am r.2 ap]/\B'= []/\Al (rL rI) E' ag al r.1/\Al Aw E' am ap r.2):=by
 refine Bi func40 λQ be cs H av aw=>?_;unfold f63 at ac;refine C 2 V (BQ av Ka λr1 ay=>?_);refine C 3 V (Ge (pp:=rI) [iV 1,iV 2,iV 3] [1,2,3] V V V underlying22 Ay CH (by decide) V V V ⟨V,V,V,trivial⟩ ay λbi bn az a0=>?_);refine Cj 2 az a0 V λbo a1 a2 a3=>?_;obtain⟨K,a4,a5⟩:=bs ac;refine BY (QW a2 Al.nil a4) V V PH a3 ?_;rintro _ bv _ a6 ⟨O,U,Y,Z,rfl,rfl,a7,a8⟩ a9;refine BJ 1 a9 CV λaq=>?_;refine JL.done ?_;obtain rfl:=oi a5;refine JL.ret (v:= .agg #[sV O K.1 U,sV Y K.2 Z]) V V (BE.list func40 V (vs:= [.agg #[sV O K.1 U,sV Y K.2 Z]]) ⟨⟨_,V,Ld.many (vs:= [sV O K.1 U,sV Y K.2 Z]) Fc CV (Hw (off:=0) 1 aq V V)⟩,trivial⟩) (EF 1 aq V λbb=>?_);exact aw (a1.Ad a6) V ⟨O,U,Y,Z,V,V,a7,a8⟩ bb
def f64(fu_:Nat):Option (AZ):= (f110 fu_ ([]) ([])).bind λK=> some K
theorem fU{fu_:Nat}{r:AZ}(ac:f64 fu_=some r):AK J 50 [] E [] (λw E' B'=>∃(ag:An) (al:Nat) (am:An) (ap:Nat),w= .agg #[sV ag r.1 al,sV am r.2 ap]/\B'= []/\Al (rL rI) E' ag al r.1/\Al Aw E' am ap r.2):=by
 refine Bi func50 λQ a6 cs H av aw=>?_;unfold f64 at ac;refine C 2 V (BQ av Ka λr1 ay=>?_);obtain⟨K,az,a0⟩:=bs ac;refine C 3 V (BY (QW Al.nil Al.nil az) V V PH ay ?_);rintro _ a7 _ a1 ⟨O,U,Y,Z,rfl,rfl,a2,a3⟩ a4;refine BJ 1 a4 CV λaq=>?_;refine JL.done ?_;obtain rfl:=oi a0;refine JL.ret (v:= .agg #[sV O K.1 U,sV Y K.2 Z]) V V (BE.list func50 V (vs:= [.agg #[sV O K.1 U,sV Y K.2 Z]]) ⟨⟨_,V,Ld.many (vs:= [sV O K.1 U,sV Y K.2 Z]) Fc CV (Hw (off:=0) 1 aq V V)⟩,trivial⟩) (EF 1 aq V λa5=>?_);exact aw a1 V ⟨O,U,Y,Z,V,V,a2,a3⟩ a5
def f65(fu_:Nat):Option (AZ):= (f110 fu_ ([5,1]:List Int) ([])).bind λK=> some K
theorem fu{fu_:Nat}{r:AZ}(ac:f65 fu_=some r):AK J 49 [] E [] (λw E' B'=>∃(ag:An) (al:Nat) (am:An) (ap:Nat),w= .agg #[sV ag r.1 al,sV am r.2 ap]/\B'= []/\Al (rL rI) E' ag al r.1/\Al Aw E' am ap r.2):=by
 refine Bi func49 λQ be cs H av aw=>?_;unfold f65 at ac;refine C 2 V (BQ av Ka λr1 ay=>?_);refine C 3 V (Ge (pp:=rI) [iV 5,iV 1] [5,1] V V V underlying22 Ay CH (by decide) V V V ⟨V,V,trivial⟩ ay λbi bn az a0=>?_);refine Cj 2 az a0 V λbo a1 a2 a3=>?_;obtain⟨K,a4,a5⟩:=bs ac;refine BY (QW a2 Al.nil a4) V V PH a3 ?_;rintro _ bv _ a6 ⟨O,U,Y,Z,rfl,rfl,a7,a8⟩ a9;refine BJ 1 a9 CV λaq=>?_;refine JL.done ?_;obtain rfl:=oi a5;refine JL.ret (v:= .agg #[sV O K.1 U,sV Y K.2 Z]) V V (BE.list func49 V (vs:= [.agg #[sV O K.1 U,sV Y K.2 Z]]) ⟨⟨_,V,Ld.many (vs:= [sV O K.1 U,sV Y K.2 Z]) Fc CV (Hw (off:=0) 1 aq V V)⟩,trivial⟩) (EF 1 aq V λbb=>?_);exact aw (a1.Ad a6) V ⟨O,U,Y,Z,V,V,a7,a8⟩ bb
def f66(fu_:Nat):Option (Ax):= (f67 fu_ ([0,1,1,0,2,3,0,3,2]:List Int)).bind λK=> some K
theorem gf{fu_:Nat}{r:Ax}(K:f66 fu_=some r):AK J 46 [] E [] (λw E' B'=>∃(O:An) (U:Nat),w= sV O r U/\B'= []/\Al Aw E' O U r):=by
 refine Bi func46 λQ a5 cs H Y Z=>?_;unfold f66 at K;refine C 6 V (Ge (pp:=rI) [iV 0,iV 1,iV 1,iV 0,iV 2,iV 3,iV 0,iV 3,iV 2] [0,1,1,0,2,3,0,3,2] V V V underlying22 Ay CH (by decide) V V V ⟨V,V,V,V,V,V,V,V,V,trivial⟩ Y λr1 g2 ac ag=>?_);refine Cj 1 ac ag V λa6 al am ap=>?_;obtain⟨a7,aq,av⟩:=bs K;refine BY (Pg am aq) V V NI ap ?_;rintro _ a8 a9 aw ⟨ay,az,_,rfl,rfl,a0⟩ a1;refine C 2 V (Cj 2 a0 a1 V λbb a2 a3 a4=>?_);obtain rfl:=oi av;exact AS func46 V V (Z ((al.Ad aw).Ad a2) V ⟨ay,az,V,V,a3⟩ a4)
def Vw(fu_:Nat)(p0:List Int)(O:List Int)(K:Int):Option (Bn Int ((Bool)⊕(Unit))):= Option.bind (if K<(p0.length:Int) then(some (decide (K<(O.length:Int)))) else(some false)) λU=> if U=true then((ix p0 K).bind λY=> (ix O K).bind λZ=> if Y≠Z then(some (.done (Sum.inl false))) else((Au (K+1)).bind λac=> some (.more ac))) else(some (.done (Sum.inr ())))
def f29(fu_:Nat)(p0:List Int)(K:List Int):Option Bool:= Option.bind (iter (Vw fu_ p0 K) fu_ 0) λO=> Sum.elim (λr=>some r) (λU=> some (decide ((p0.length:Int)=(K.length:Int)))) O
theorem O4{a1:An}{c2:Nat}{U:An}{Y:Nat}{p0:List Int}{K:List Int}(a7:Al rI E a1 c2 p0)(a8:Al rI E U Y K){fu_:Nat}{r:Bool}(av:f29 fu_ p0 K=some r):AK J 14 [sV a1 p0 c2,sV U K Y] E [] (λw E' B'=>w= .bool r/\B'= []):=by
 refine Bi func14 λQ c5 cs H a9 aw=>?_;unfold f29 at av;obtain⟨ay,bb,az⟩:=bs av;refine C 9 V (Bt (λL s=>∃(a0:Unit) (a2:LH),ay=Sum.inr a0/\Jm E H a2 [] [(0,sV a1 p0 c2),(1,sV U K Y)] L s) ?_ ?_)
 ·rintro _ _ ⟨a0,a2,rfl,rfl,rfl,be,bi⟩;have bn:=elim_inr az;refine C 3 V (JL.ln underlying22 V V V ?_);refine C 1 V (JL.ln underlying22 V V V ?_);refine C 3 V ?_;obtain rfl:=oi bn;exact AS func14 V V (aw be V ⟨V,V⟩ bi)
 ·intro bo;refine JL.block (Ee bb (λag=> []) (λag=> [(0,sV a1 p0 c2),(1,sV U K Y),(5,iV ag)]) AE a9 ?_);rintro ag am Z a3 a4 ⟨c6,al⟩ bv;have a5:=al;unfold Vw at a5;refine C 5 V (JL.ln underlying22 V V V ?_);obtain⟨bw,bx,bz⟩:=bs a5;refine C 2 V (Hx [] (λL s=>∃(ap:LH),Jm am H ap [] [(0,sV a1 p0 c2),(1,sV U K Y),(5,iV ag),(15,.bool bw)] L s) ?_ ?_)
  ·rintro _ _ ⟨ap,rfl,rfl,ac,aq⟩;refine JL.done (Cx bz (λb0 b1=>?_) (λb0 b2=>?_))
   ·refine C 4 V (Ff 8 λO=>?_);refine A6 O V [0,1] V ?_;obtain⟨c7,b3,b4⟩:=bs b1;refine Er 2 (a7.Ag (Z.Ad ac)) b3 O underlying22 Ay ?_;rintro c8 c9 _ rfl b5;refine Dw 3 O 0 b5 A3 V V V V (A6 O V [4,5] V ?_);obtain⟨dd,b6,ca⟩:=bs b4;refine Er 6 (a8.Ag (Z.Ad ac)) b6 O underlying22 Ay ?_;rintro dn ea _ rfl cc;refine Dw 7 O 0 cc A3 V V V V (Dl [8] ?_);refine C 2 V (AU ca (λce ci=>?_) (λce co=>?_))
    ·refine C 4 V ?_;obtain rfl:=oi ci;obtain rfl:=a4 _ al;have cp:=elim_inl az;obtain rfl:=oi cp;exact AS func14 V V (aw (Z.Ad ac) V ⟨V,V⟩ aq)
    ·obtain⟨ct,cw,cy⟩:=bs co;refine C 4 V (Bq cw V V V ?_);refine C 2 V ?_;obtain rfl:=oi cy;exact bv ct (Z.Ad ac) aq V al
   ·refine JL.exit V ?_;obtain rfl:=oi b2;have c0:ay=(Sum.inr ()):=(a4 _ al).symm;exact AB (bo _ _ ⟨(),ap,c0,V,V,(Z.Ad ac),aq⟩) V
  ·intro a6;refine Je 10 bx (λc1 c3=>?_) (λc1 c4=>?_)
   ·refine C 2 V (JL.ln underlying22 V V V ?_);refine C 2 V ?_;obtain rfl:=oi c3;exact AB (a6 _ _ ⟨am,V,V,AE,a3⟩) V
   ·refine C 5 V ?_;obtain rfl:=oi c4;exact AB (a6 _ _ ⟨am,V,V,AE,a3⟩) V
def VB(fu_:Nat)(p0:Ax)(O:Ax)(K:Int):Option (Bn Int ((Bool)⊕(Unit))):= Option.bind (if K<(p0.length:Int) then(some (decide (K<(O.length:Int)))) else(some false)) λU=> if U=true then((ix p0 K).bind λY=> (ix O K).bind λZ=> if Y≠Z then(some (.done (Sum.inl false))) else((Au (K+1)).bind λac=> some (.more ac))) else(some (.done (Sum.inr ())))
def f26(fu_:Nat)(p0:Ax)(K:Ax):Option Bool:= Option.bind (iter (VB fu_ p0 K) fu_ 0) λO=> Sum.elim (λr=>some r) (λU=> some (decide ((p0.length:Int)=(K.length:Int)))) O
theorem VZ{a1:An}{c2:Nat}{U:An}{Y:Nat}{p0:Ax}{K:Ax}(a9:Al Aw E a1 c2 p0)(bb:Al Aw E U Y K){fu_:Nat}{r:Bool}(ay:f26 fu_ p0 K=some r):AK J 34 [sV a1 p0 c2,sV U K Y] E [] (λw E' B'=>w= .bool r/\B'= []):=by
 refine Bi func34 λQ c7 cs H be az=>?_;unfold f26 at ay;obtain⟨a0,bi,a2⟩:=bs ay;refine C 9 V (Bt (λL s=>∃(a3:Unit) (a4:LH),a0=Sum.inr a3/\Jm E H a4 [] [(0,sV a1 p0 c2),(1,sV U K Y)] L s) ?_ ?_)
 ·rintro _ _ ⟨a3,a4,rfl,rfl,rfl,bn,bo⟩;have bv:=elim_inr a2;refine C 3 V (JL.ln underlying26 V V V ?_);refine C 1 V (JL.ln underlying26 V V V ?_);refine C 3 V ?_;obtain rfl:=oi bv;exact AS func34 V V (az bn V ⟨V,V⟩ bo)
 ·intro bw;refine JL.block (Ee bi (λap=> []) (λap=> [(0,sV a1 p0 c2),(1,sV U K Y),(5,iV ap)]) AE be ?_);rintro ap av Z a5 a6 ⟨c8,aq⟩ bx;have a7:=aq;unfold VB at a7;refine C 5 V (JL.ln underlying26 V V V ?_);obtain⟨bz,b0,b1⟩:=bs a7;refine C 2 V (Hx [] (λL s=>∃(ac:LH),Jm av H ac [] [(0,sV a1 p0 c2),(1,sV U K Y),(5,iV ap),(15,.bool bz)] L s) ?_ ?_)
  ·rintro _ _ ⟨ac,rfl,rfl,ag,aw⟩;refine JL.done (Cx b1 (λb2 b3=>?_) (λb2 b4=>?_))
   ·refine C 4 V (Ff 8 λO=>?_);refine A6 O V [0,1] V ?_;obtain⟨al,b5,b6⟩:=bs b3;refine Er 2 (a9.Ag (Z.Ad ag)) b5 O underlying26 Bg ?_;rintro c9 dd _ ⟨_,_,rfl,rfl,⟨_,_,rfl,rfl,rfl⟩⟩ ca;refine Ks 3 O ca DO Bg V V V (A6 O V [4,5] V ?_);obtain⟨am,cc,ce⟩:=bs b6;refine Er 6 (bb.Ag (Z.Ad ag)) cc O underlying26 Bg ?_;rintro dn ea _ ⟨_,_,rfl,rfl,⟨_,_,rfl,rfl,rfl⟩⟩ ci;refine Ks 7 O ci DO Bg V V V (Dl [8] ?_);refine Am (v:= .bool (decide (al≠am))) V (λρ h=>QE (E:=ac) (E':=ac) (ws:= [iV al.1,iV al.2.1,iV al.2.2]) (ws':= [iV am.1,iV am.2.1,iV am.2.2]) (a:=al) (b:=am) fg (by decide) (by decide+kernel) ⟨_,_,V,V,⟨_,_,V,V,V⟩⟩ ⟨_,_,V,V,⟨_,_,V,V,V⟩⟩ (h _ _ V) (h _ _ V)) (JL.done ?_);refine AU ce (λco cp=>?_) (λco ct=>?_)
    ·refine C 4 V ?_;obtain rfl:=oi cp;obtain rfl:=a6 _ aq;have cw:=elim_inl a2;obtain rfl:=oi cw;exact AS func34 V V (az (Z.Ad ag) V ⟨V,V⟩ aw)
    ·obtain⟨cy,c0,c1⟩:=bs ct;refine C 4 V (Bq c0 V V V ?_);refine C 2 V ?_;obtain rfl:=oi c1;exact bx cy (Z.Ad ag) aw V aq
   ·refine JL.exit V ?_;obtain rfl:=oi b4;have c3:a0=(Sum.inr ()):=(a6 _ aq).symm;exact AB (bw _ _ ⟨(),ac,c3,V,V,(Z.Ad ag),aw⟩) V
  ·intro a8;refine Je 10 b0 (λc4 c5=>?_) (λc4 c6=>?_)
   ·refine C 2 V (JL.ln underlying26 V V V ?_);refine C 2 V ?_;obtain rfl:=oi c5;exact AB (a8 _ _ ⟨av,V,V,AE,a5⟩) V
   ·refine C 5 V ?_;obtain rfl:=oi c6;exact AB (a8 _ _ ⟨av,V,V,AE,a5⟩) V
def f18(fu_:Nat):Option Bool:= (f63 fu_).bind λag=> (f43 fu_ ag).bind λO=> (f63 fu_).bind λal=> (f33 fu_ al).bind λU=> (f63 fu_).bind λam=> (f22 fu_ am).bind λY=> (f63 fu_).bind λap=> (f24 fu_ ap).bind λZ=> (f64 fu_).bind λaq=> (f39 fu_ aq).bind λac=> (f65 fu_).bind λav=> (f27 fu_ av).bind λK=> Option.bind (if O.2=0 then(some (decide (U.2=0))) else(some false)) λaw=> Option.bind (if aw=true then(some (decide (Y.2=0))) else(some false)) λay=> Option.bind (if ay=true then(some (decide (Z.2=0))) else(some false)) λaz=> Option.bind (if az=true then(some (decide (ac.2=0))) else(some false)) λa0=> Option.bind (if a0=true then(some (decide (K.2.2=0))) else(some false)) λa1=> Option.bind (if a1=true then(some (decide (Z.1=16))) else(some false)) λa2=> Option.bind (if a2=true then((f29 fu_ O.1 ([(-6),1,3,2]:List Int)).bind λa3=> some a3) else(some false)) λa4=> Option.bind (if a4=true then((f29 fu_ U.1 ([1,2,3]:List Int)).bind λa5=> some a5) else(some false)) λa6=> Option.bind (if a6=true then((f66 fu_).bind λa7=> (f26 fu_ Y.1 a7).bind λa8=> some a8) else(some false)) λa9=> Option.bind (if a9=true then((f29 fu_ ac.1 ([0]:List Int)).bind λbb=> some bb) else(some false)) λbe=> Option.bind (if be=true then((f67 fu_ ([0,2,6,2,3,3,3,1,1]:List Int)).bind λbi=> (f26 fu_ K.1 bi).bind λbn=> some bn) else(some false)) λbo=> Option.bind (if bo=true then((f29 fu_ K.2.1 ([0,1,2]:List Int)).bind λbv=> some bv) else(some false)) λbw=> some bw
theorem fR{E:LH}{fu_:Nat}{r:Bool}(b2:f18 fu_=some r):AK (Hc Tryz.prog) 21 [] E [] (λw E' B'=>w= .bool r/\B'= []):=by
 refine Bi func21 λQ jJ cs H em eo=>?_;unfold f18 at b2;obtain⟨jK,ep,er⟩:=bs b2;refine C 6 V (BY (O9 ep) V V NJ em ?_);rintro _ jL _ eu ⟨jM,jN,jO,jP,rfl,rfl,ew,ex⟩ ey;obtain⟨a6,eA,eC⟩:=bs er;refine BY (gn ew ex eA) V V (A1 func12 V) ey ?_;rintro _ jQ _ eN ⟨a7,a8,rfl,rfl,e0⟩ e1;obtain⟨jR,e3,e4⟩:=bs eC;refine C 8 V (BY (O9 e3) V V NJ e1 ?_);rintro _ jS _ b3 ⟨jT,jU,jV,jW,rfl,rfl,e5,e6⟩ e7;refine Bz (S':= [[],[],[],[]]) V e7 λe8=>?_;obtain⟨av,ff,fk⟩:=bs e4;refine BY (fG e5 e6 ff) V V (A1 func45 V) e8 ?_;rintro _ jX _ b4 ⟨aw,ay,rfl,rfl,fl⟩ fm;obtain⟨jY,fo,fs⟩:=bs fk;refine C 8 V (BY (O9 fo) V V NJ fm ?_);rintro _ jZ _ bz ⟨j0,j1,j2,j3,rfl,rfl,fv,fw⟩ fN;obtain⟨ag,gc,ge⟩:=bs fs;refine BY (VF fv fw gc) V V (A1 func36 V) fN ?_;rintro _ j4 _ b0 ⟨ap,aq,rfl,rfl,gg⟩ gh;refine Bz (S':= [[],[],[],[],[],[],[]]) V gh λgl=>?_;obtain⟨j5,gt,gE⟩:=bs ge;refine C 8 V (BY (O9 gt) V V NJ gl ?_);rintro _ j6 _ bn ⟨j7,j8,j9,kb,rfl,rfl,gO,gV⟩ gW;obtain⟨az,gX,gY⟩:=bs gE;refine Cs (VS gO gV gX) V V (A1 func38 V) gW λkc bo gZ=>?_;obtain⟨ke,g0,g1⟩:=bs gY;refine C 8 V (BY (fU g0) V V (A1 func50 V) gZ ?_);rintro _ kf _ bv ⟨kg,kh,ki,kj,rfl,rfl,g3,g4⟩ g5;refine Bz (S':= [[],[],[],[],[],[],[],[],[],[]]) V g5 λg6=>?_;obtain⟨O,g7,g8⟩:=bs g1;refine BY (fL g3 g4 g7) V V (A1 func22 V) g6 ?_;rintro _ kl _ bw ⟨al,am,rfl,rfl,g9⟩ ha;obtain⟨km,hb,hc⟩:=bs g8;refine C 8 V (BY (fu hb) V V (A1 func49 V) ha ?_);rintro _ kn _ bb ⟨ko,kp,kq,kr,rfl,rfl,hd,he⟩ hf;obtain⟨K,hg,hj⟩:=bs hc;refine BY (fP hd he hg) V V (A1 func24 V) hf ?_;rintro _ ks _ be ⟨Z,ac,U,Y,rfl,rfl,hk,hl⟩ hm;refine Bz (S':= [[],[],[],[],[],[],[],[],[],[],[],[],[]]) V hm λb5=>?_;obtain⟨hn,ho,hp⟩:=bs hj;refine C 13 V (Fq 6 52 [] [(1,sV a7 a6.1 a8),(3,sV aw av.1 ay),(5,sV ap ag.1 aq),(6,iV ag.2),(7,iV az.1),(8,iV az.2),(9,sV al O.1 am),(10,iV O.2),(11,sV Z K.1 ac),(12,sV U K.2.1 Y),(13,iV K.2.2),(50,.bool hn)] (λkt a0 b6=>?_) (λca=>?_))
 ·obtain⟨hq,hr,hs⟩:=bs hp;refine C 1 V (Fq 10 48 [] [(1,sV a7 a6.1 a8),(3,sV aw av.1 ay),(5,sV ap ag.1 aq),(7,iV az.1),(8,iV az.2),(9,sV al O.1 am),(10,iV O.2),(11,sV Z K.1 ac),(12,sV U K.2.1 Y),(13,iV K.2.2),(54,.bool hq)] (λku a1 cc=>?_) (λce=>?_))
  ·obtain⟨ht,hu,hv⟩:=bs hs;refine C 1 V (Fq 14 44 [] [(1,sV a7 a6.1 a8),(3,sV aw av.1 ay),(5,sV ap ag.1 aq),(7,iV az.1),(9,sV al O.1 am),(10,iV O.2),(11,sV Z K.1 ac),(12,sV U K.2.1 Y),(13,iV K.2.2),(58,.bool ht)] (λkv a2 ci=>?_) (λco=>?_))
   ·obtain⟨hw,hx,hy⟩:=bs hv;refine C 1 V (Fq 18 40 [] [(1,sV a7 a6.1 a8),(3,sV aw av.1 ay),(5,sV ap ag.1 aq),(7,iV az.1),(9,sV al O.1 am),(11,sV Z K.1 ac),(12,sV U K.2.1 Y),(13,iV K.2.2),(62,.bool hw)] (λkx a3 cp=>?_) (λct=>?_))
    ·obtain⟨hz,hA,hB⟩:=bs hy;refine C 1 V (Fq 22 36 [] [(1,sV a7 a6.1 a8),(3,sV aw av.1 ay),(5,sV ap ag.1 aq),(7,iV az.1),(9,sV al O.1 am),(11,sV Z K.1 ac),(12,sV U K.2.1 Y),(66,.bool hz)] (λky a4 cw=>?_) (λcy=>?_))
     ·obtain⟨hC,hD,hE⟩:=bs hB;refine C 1 V (Fq 26 32 [] [(1,sV a7 a6.1 a8),(3,sV aw av.1 ay),(5,sV ap ag.1 aq),(9,sV al O.1 am),(11,sV Z K.1 ac),(12,sV U K.2.1 Y),(70,.bool hC)] (λkz a5 c0=>?_) (λc1=>?_))
      ·obtain⟨hF,hG,hH⟩:=bs hE;refine C 1 V (Fq 31 27 [] [(3,sV aw av.1 ay),(5,sV ap ag.1 aq),(9,sV al O.1 am),(11,sV Z K.1 ac),(12,sV U K.2.1 Y),(75,.bool hF)] (λkA a9 c2=>?_) (λc3=>?_))
       ·obtain⟨hI,hJ,hK⟩:=bs hH;refine C 1 V (Fq 36 22 [] [(5,sV ap ag.1 aq),(9,sV al O.1 am),(11,sV Z K.1 ac),(12,sV U K.2.1 Y),(80,.bool hI)] (λkB bi c4=>?_) (λc5=>?_))
        ·obtain⟨hL,hM,hN⟩:=bs hK;refine C 1 V (Fq 41 17 [] [(9,sV al O.1 am),(11,sV Z K.1 ac),(12,sV U K.2.1 Y),(85,.bool hL)] (λkC bx c6=>?_) (λc7=>?_))
         ·obtain⟨hO,hP,hQ⟩:=bs hN;refine C 1 V (Fq 46 12 [] [(11,sV Z K.1 ac),(12,sV U K.2.1 Y),(90,.bool hO)] (λkD b1 c8=>?_) (λc9=>?_))
          ·obtain⟨hR,hS,hT⟩:=bs hQ;refine C 1 V (Fq 52 6 [] [(12,sV U K.2.1 Y),(96,.bool hR)] (λkF dd dn=>?_) (λea=>?_))
           ·obtain⟨hU,hV,hW⟩:=bs hT;refine C 1 V (Fq 57 1 [] [(101,.bool hU)] (λkG hX hY=>?_) (λeb=>?_))
            ·refine C 2 V ?_;obtain rfl:=oi hW;exact AS func21 V V (eo (((((((((((((((((((((((eu.Ad eN).Ad b3).Ad b4).Ad bz).Ad b0).Ad bn).Ad bo).Ad bv).Ad bw).Ad bb).Ad be).Ad a0).Ad a1).Ad a2).Ad a3).Ad a4).Ad a5).Ad a9).Ad bi).Ad bx).Ad b1).Ad dd).Ad hX) V ⟨V,V⟩ hY)
            ·refine EA 97 hV (λhZ h0=>?_) (λhZ h1=>?_)
             ·refine C 1 V (Ge (pp:=rI) [iV 0,iV 1,iV 2] [0,1,2] V V V underlying22 Ay CH (by decide) V V V ⟨V,V,V,trivial⟩ dn λkI kJ h2 h3=>?_);refine Cj 0 h2 h3 V λkK ec h4 h5=>?_;obtain⟨kL,h6,h7⟩:=bs h0;refine Cs (O4 (hl.Ag (((((((((((a0.Ad a1).Ad a2).Ad a3).Ad a4).Ad a5).Ad a9).Ad bi).Ad bx).Ad b1).Ad dd).Ad ec)) h4 h6) V V NL h5 λkM h8 h9=>Bz (S':= [[],[]]) V h9 λia=>C 1 V ?_;obtain rfl:=oi h7;exact eb (ec.Ad h8) ia V
             ·refine C 4 V ?_;obtain rfl:=oi h1;exact eb AE dn V
           ·refine EA 91 hS (λic ie=>?_) (λic ig=>?_)
            ·refine C 1 V (Ge (pp:=rI) [iV 0,iV 2,iV 6,iV 2,iV 3,iV 3,iV 3,iV 1,iV 1] [0,2,6,2,3,3,3,1,1] V V V underlying22 Ay CH (by decide) V V V ⟨V,V,V,V,V,V,V,V,V,trivial⟩ c8 λkN kO ih ii=>?_);refine Cj 0 ih ii V λkP ed ij ik=>?_;obtain⟨kQ,il,io⟩:=bs ie;refine BY (Pg ij il) V V NI ik ?_;rintro _ kR iq ee ⟨kS,kT,_,rfl,rfl,ir⟩ iu;refine Bz (S':= [[],iq]) V iu λiv=>Cj 1 ir iv V λkU ef iw iy=>?_;obtain⟨kV,iz,iA⟩:=bs io;refine Cs (VZ (hk.Ag ((((((((((((a0.Ad a1).Ad a2).Ad a3).Ad a4).Ad a5).Ad a9).Ad bi).Ad bx).Ad b1).Ad ed).Ad ee).Ad ef)) iw iz) V V (A1 func34 V) iy λkW iB iC=>C 1 V ?_;obtain rfl:=oi iA;exact ea (((ed.Ad ee).Ad ef).Ad iB) iC V
            ·refine C 5 V ?_;obtain rfl:=oi ig;exact ea AE c8 V
          ·refine EA 86 hP (λiD iE=>?_) (λiD iF=>?_)
           ·refine C 1 V (Ge (pp:=rI) [iV 0] [0] V V V underlying22 Ay CH (by decide) V V V ⟨V,trivial⟩ c6 λkX kY iG iH=>?_);refine Cj 0 iG iH V λkZ eg iI iJ=>?_;obtain⟨k0,iK,iL⟩:=bs iE;refine Cs (O4 (g9.Ag (((((((((((bb.Ad be).Ad a0).Ad a1).Ad a2).Ad a3).Ad a4).Ad a5).Ad a9).Ad bi).Ad bx).Ad eg)) iI iK) V V NL iJ λk1 iM iN=>Bz (S':= [[],[]]) V iN λiO=>C 1 V ?_;obtain rfl:=oi iL;exact c9 (eg.Ad iM) iO V
           ·refine C 4 V ?_;obtain rfl:=oi iF;exact c9 AE c6 V
         ·refine EA 81 hM (λiP iQ=>?_) (λiP iR=>?_)
          ·obtain⟨k2,iS,iT⟩:=bs iQ;refine C 1 V (BY (gf iS) V V (A1 func46 V) c4 ?_);rintro _ k3 _ ej ⟨k4,k5,rfl,rfl,iU⟩ iW;obtain⟨k6,iX,iY⟩:=bs iT;refine Cs (VZ (gg.Ag ((((((((((((((bn.Ad bo).Ad bv).Ad bw).Ad bb).Ad be).Ad a0).Ad a1).Ad a2).Ad a3).Ad a4).Ad a5).Ad a9).Ad bi).Ad ej)) iU iX) V V (A1 func34 V) iW λk7 iZ i0=>C 1 V ?_;obtain rfl:=oi iY;exact c7 (ej.Ad iZ) i0 V
          ·refine C 4 V ?_;obtain rfl:=oi iR;exact c7 AE c4 V
        ·refine EA 76 hJ (λi1 i3=>?_) (λi1 i4=>?_)
         ·refine C 1 V (Ge (pp:=rI) [iV 1,iV 2,iV 3] [1,2,3] V V V underlying22 Ay CH (by decide) V V V ⟨V,V,V,trivial⟩ c2 λk8 k9 i5 i6=>?_);refine Cj 0 i5 i6 V λla ek i7 i8=>?_;obtain⟨lb,i9,ja⟩:=bs i3;refine Cs (O4 (fl.Ag (((((((((((((((bz.Ad b0).Ad bn).Ad bo).Ad bv).Ad bw).Ad bb).Ad be).Ad a0).Ad a1).Ad a2).Ad a3).Ad a4).Ad a5).Ad a9).Ad ek)) i7 i9) V V NL i8 λld jb jc=>Bz (S':= [[],[]]) V jc λjd=>C 1 V ?_;obtain rfl:=oi ja;exact c5 (ek.Ad jb) jd V
         ·refine C 4 V ?_;obtain rfl:=oi i4;exact c5 AE c2 V
       ·refine EA 71 hG (λje jf=>?_) (λje jg=>?_)
        ·refine C 1 V (Ge (pp:=rI) [iV (-6),iV 1,iV 3,iV 2] [(-6),1,3,2] V V V underlying22 Ay CH (by decide) V V V ⟨V,V,V,V,trivial⟩ c0 λlf lg jh ji=>?_);refine Cj 0 jh ji V λlh el jj jk=>?_;obtain⟨li,jl,jm⟩:=bs jf;refine Cs (O4 (e0.Ag ((((((((((((((((b3.Ad b4).Ad bz).Ad b0).Ad bn).Ad bo).Ad bv).Ad bw).Ad bb).Ad be).Ad a0).Ad a1).Ad a2).Ad a3).Ad a4).Ad a5).Ad el)) jj jl) V V NL jk λlj jo jp=>Bz (S':= [[],[]]) V jp λjq=>C 1 V ?_;obtain rfl:=oi jm;exact c3 (el.Ad jo) jq V
        ·refine C 4 V ?_;obtain rfl:=oi jg;exact c3 AE c0 V
      ·refine EA 67 hD (λjr js=>?_) (λjr jt=>?_)
       ·refine C 3 V ?_;obtain rfl:=oi js;exact c1 AE cw V
       ·refine C 3 V ?_;obtain rfl:=oi jt;exact c1 AE cw V
     ·refine EA 63 hA (λju jv=>?_) (λju jw=>?_)
      ·refine C 3 V ?_;obtain rfl:=oi jv;exact cy AE cp V
      ·refine C 3 V ?_;obtain rfl:=oi jw;exact cy AE cp V
    ·refine EA 59 hx (λjx jy=>?_) (λjx jz=>?_)
     ·refine C 3 V ?_;obtain rfl:=oi jy;exact ct AE ci V
     ·refine C 3 V ?_;obtain rfl:=oi jz;exact ct AE ci V
   ·refine EA 55 hu (λjA jB=>?_) (λjA jC=>?_)
    ·refine C 3 V ?_;obtain rfl:=oi jB;exact co AE cc V
    ·refine C 3 V ?_;obtain rfl:=oi jC;exact co AE cc V
  ·refine EA 51 hr (λjD jE=>?_) (λjD jF=>?_)
   ·refine C 3 V ?_;obtain rfl:=oi jE;exact ce AE b6 V
   ·refine C 3 V ?_;obtain rfl:=oi jF;exact ce AE b6 V
 ·refine Je 47 ho (λjG jH=>?_) (λjG jI=>?_)
  ·refine C 3 V ?_;obtain rfl:=oi jH;exact ca AE b5 V
  ·refine C 3 V ?_;obtain rfl:=oi jI;exact ca AE b5 V
def f20(fu_:Nat)(p0:List Int):Option ((B8)):= some (p0,0,2685821657736338717)
theorem fC{a1:An}{c2:Nat}{p0:List Int}(Z:Al rI E a1 c2 p0){fu_:Nat}{r:(B8)}(K:f20 fu_ p0=some r):AK J 10 [sV a1 p0 c2] E [] (λw E' B'=>∃(O:Nat) (U:An) (Y:Nat),w= Aj O 0/\B'= [(O,.cells #[sV U r.1 Y,iV r.2.1,.int .u64 ((r.2.2:Nat):Int)] 74 (0,0))]/\Al rI E' U Y r.1):=by
 refine Bi func10 λQ ap cs H ac ag=>?_;unfold f20 at K;refine C 7 V (Am (v:= .agg #[sV a1 p0 c2,iV 0,.int .u64 ((2685821657736338717:Nat):Int)]) V (λρ h=>CZ [(0,1),(1,1),(2,1)] h (C8 type74) underlying74 ⟨V,AM type22,V,AM type3,V,AM type72,trivial⟩ V V) ?_);refine JS.box (v:= .agg #[sV a1 p0 c2,iV 0,.int .u64 ((2685821657736338717:Nat):Int)]) V V V ac V λal am=>C 2 V ?_;obtain rfl:=oi K;exact AS func10 V V (ag AE V ⟨al,a1,c2,V,(by first | rfl | simp | (simp [Value.cells])),Z⟩ am)
def f92(fu_:Nat)(p0:Int)(K:Int)(p2:Int):Option Bool:= Option.bind (if K<=p0 then(some (decide (p0<=p2))) else(some false)) λO=> some O
def f88(fu_:Nat)(p0:Int)(K:Int×Int×Int)(p2:Int):Option Int:= (Au (p0 - 1)).bind λO=> (f92 fu_ K.1 0 O).bind λU=> Option.bind (if(!U)=true then(some true) else((Au (p0 - 1)).bind λY=> (f92 fu_ K.2.1 0 Y).bind λZ=> some (!Z))) λac=> if ac=true then(some 3) else(if K.1=K.2.1 then(some 8) else((f92 fu_ K.2.2 1 p2).bind λag=> if(!ag)=true then(some 1) else(some 0)))
def MQ(fu_:Nat)(p0:AZ)(O:Int)(K:Int):Option (Bn Int ((Int)⊕(Unit))):= (ix p0.1 O).bind λU=> if K<(U.length:Int) then((ix p0.1 O).bind λY=> (ix Y K).bind λZ=> (f92 fu_ Z 1 9).bind λac=> if(!ac)=true then(some (.done (Sum.inl 1))) else((Au (K+1)).bind λag=> some (.more ag))) else(some (.done (Sum.inr ())))
def MY(fu_:Nat)(p0:AZ)(K:Int):Option (Bn Int ((Int)⊕(Unit))):= if K<(p0.1.length:Int) then((ix p0.1 K).bind λO=> if 3<(O.length:Int) then(some (.done (Sum.inl 6))) else(Option.bind (iter (MQ fu_ p0 K) fu_ 0) λU=> Sum.elim (λr=>some (.done (Sum.inl r))) (λZ=> (Au (K+1)).bind λY=> some (.more Y)) U)) else(some (.done (Sum.inr ())))
def Q9(fu_:Nat)(p0:AZ)(K:Int):Option (Bn Int ((Int)⊕(Unit))):= if K<(p0.2.length:Int) then((ix p0.2 K).bind λU=> (f88 fu_ (p0.1.length:Int) U 9).bind λO=> if O≠0 then(some (.done (Sum.inl O))) else((Au (K+1)).bind λY=> some (.more Y))) else(some (.done (Sum.inr ())))
def f48(fu_:Nat)(p0:AZ):Option Int:= if(p0.1.length:Int)<2 then(some 7) else(if 5<(p0.1.length:Int) then(some 6) else(Option.bind (iter (MY fu_ p0) fu_ 0) λK=> Sum.elim (λr=>some r) (λU=> if 8<(p0.2.length:Int) then(some 6) else(Option.bind (iter (Q9 fu_ p0) fu_ 0) λO=> Sum.elim (λr=>some r) (λY=> some 0) O)) K))
def f83(fu_:Nat)(p0:B8):Option (Nat×(B8)):= (Au (p0.2.1+1)).bind λO=> Option.bind (if O<=(p0.1.length:Int) then((Au (O - 1)).bind λU=> (ix p0.1 U).bind λY=> some (((((Dc O)*11400714819323198485) % 2 ^ 64) ^^^ (((Dc Y)*14029467366897019727) % 2 ^ 64)) % 2 ^ 64)) else(some (((Dc O)*11400714819323198485) % 2 ^ 64))) λK=> some (((((((((((p0.2.2 ^^^ K) % 2 ^ 64)*18397679294719823053) % 2 ^ 64) ^^^ (((((p0.2.2 ^^^ K) % 2 ^ 64)*18397679294719823053) % 2 ^ 64)>>>33)) % 2 ^ 64)*14181476777654086739) % 2 ^ 64) ^^^ (((((((((p0.2.2 ^^^ K) % 2 ^ 64)*18397679294719823053) % 2 ^ 64) ^^^ (((((p0.2.2 ^^^ K) % 2 ^ 64)*18397679294719823053) % 2 ^ 64)>>>33)) % 2 ^ 64)*14181476777654086739) % 2 ^ 64)>>>29)) % 2 ^ 64)>>>11,(p0.1,O,(((((p0.2.2 ^^^ K) % 2 ^ 64)*18397679294719823053) % 2 ^ 64) ^^^ (((((p0.2.2 ^^^ K) % 2 ^ 64)*18397679294719823053) % 2 ^ 64)>>>33)) % 2 ^ 64))
theorem fp{bk:Nat}{a1:An}{c2:Nat}{p0:B8}(al:Al rI E a1 c2 p0.1){fu_:Nat}{r:Nat×(B8)}(am:f83 fu_ p0=some r):AK J 66 [Aj bk 0] E [(bk,.cells #[sV a1 p0.1 c2,iV p0.2.1,.int .u64 ((p0.2.2:Nat):Int)] 74 (0,0))] (λw E' B'=>∃(ap:An) (aq:Nat),w= .int .u64 ((r.1:Nat):Int)/\B'= [(bk,.cells #[sV ap r.2.1 aq,iV r.2.2.1,.int .u64 ((r.2.2.2:Nat):Int)] 74 (0,0))]/\Al rI E' ap aq r.2.1):=by
 refine Bi func66 λQ bv cs H av a2=>?_;unfold f83 at am;refine C 8 V (JL.fd underlying74 Ay V V V ?_);refine Am (v:=iV p0.2.1) V (λρ h=>Yl.load A3 (h _ _ V) (BV (j:=0) (off:=1) av V V)) ?_;obtain⟨Y,a3,a4⟩:=bs am;refine Bq a3 V V V (C 1 V ?_);refine JL.fd underlying74 Ay V V V (BJ 0 av Ay λU=>?_);refine C 5 V (JL.fd underlying74 Ay V V V ?_);refine Am (v:=iV Y) V (λρ h=>Yl.load A3 (h _ _ V) (BV (j:=0) (off:=1) U V V)) (Am (v:= .int .u64 ((Dc Y:Nat):Int)) V (λρ h=>Yl.Dc underlying3 underlying72 (h _ _ V)) ?_);refine Am (v:= .int .u64 ((((Dc Y)*11400714819323198485) % 2 ^ 64:Nat):Int)) V (λρ h=>Ox (h _ _ V) (h _ _ V)) (C 4 V ?_);refine Fs 9 [bk] ⟨⟨0,_,V⟩,trivial⟩ U λK=>A6 K V [0,1] V (JG.fd 2 K underlying74 Ay V V V V ?_);refine Lc 3 K 1 0 U A3 ?_;refine A6 K V [4,5] V (JG.fd 6 K underlying74 FU V V V V ?_);refine Lc 7 K 0 0 U Jy ?_;refine AL 8 K V V (λρ h s' Z=>Yl.len V underlying22 (h _ _ V)) (Dl [9] ?_);obtain⟨O,a5,a6⟩:=bs a4;refine C 2 V (EU [bX bk #[sV a1 p0.1 c2,iV Y,.int .u64 ((p0.2.2:Nat):Int)] 74] [(0,Aj bk 0),(3,.int .u64 ((O:Nat):Int))] (λbw aw ay=>?_) (λaz=>?_))
 ·refine C 5 V (JL.fd underlying74 Kc V V V ?_);refine Am (v:= .int .u64 ((p0.2.2:Nat):Int)) V (λρ h=>Yl.load ND (h _ _ V) (BV (j:=0) (off:=2) ay V V)) (C 1 V ?_);refine Am (v:= .int .u64 (((p0.2.2 ^^^ O) % 2 ^ 64:Nat):Int)) V (λρ h=>Oe (h _ _ V) (h _ _ V)) (Am (v:= .int .u64 (((((p0.2.2 ^^^ O) % 2 ^ 64)*18397679294719823053) % 2 ^ 64:Nat):Int)) V (λρ h=>Ox (h _ _ V) (h _ _ V)) ?_);refine C 1 V (JL.fd underlying74 Kc V V V ?_);refine BJ 0 ay Kc λac=>?_;refine C 2 V (Fs 11 [bk] ⟨⟨0,_,V⟩,trivial⟩ ac λK=>?_);refine A6 K V [0,1,2] V (JG.fd 3 K underlying74 Kc V V V V ?_);refine Lc 4 K 2 0 ac ND ?_;refine A6 K V [5,6] V (JG.fd 7 K underlying74 Kc V V V V ?_);refine Lc 8 K 2 0 ac ND ?_;refine AL (v:= .int .u64 ((((((p0.2.2 ^^^ O) % 2 ^ 64)*18397679294719823053) % 2 ^ 64)>>>33:Nat):Int)) 9 K V V (λρ h s' Z=>LL 33 (h _ _ V) (h _ _ V) (by decide)) (AL (v:= .int .u64 (((((((p0.2.2 ^^^ O) % 2 ^ 64)*18397679294719823053) % 2 ^ 64) ^^^ (((((p0.2.2 ^^^ O) % 2 ^ 64)*18397679294719823053) % 2 ^ 64)>>>33)) % 2 ^ 64:Nat):Int)) 10 K V V (λρ h s' Z=>Oe (h _ _ V) (h _ _ V)) ?_);refine Dl [11,12,13] (C 1 V ?_);refine JL.fd underlying74 Kc V V V (BJ 0 ac Kc λa0=>?_);refine C 5 V (JL.fd underlying74 Kc V V V ?_);refine Am (v:= .int .u64 (((((((p0.2.2 ^^^ O) % 2 ^ 64)*18397679294719823053) % 2 ^ 64) ^^^ (((((p0.2.2 ^^^ O) % 2 ^ 64)*18397679294719823053) % 2 ^ 64)>>>33)) % 2 ^ 64:Nat):Int)) V (λρ h=>Yl.load ND (h _ _ V) (BV (j:=0) (off:=2) a0 V V)) (Am (v:= .int .u64 (((((((((p0.2.2 ^^^ O) % 2 ^ 64)*18397679294719823053) % 2 ^ 64) ^^^ (((((p0.2.2 ^^^ O) % 2 ^ 64)*18397679294719823053) % 2 ^ 64)>>>33)) % 2 ^ 64)*14181476777654086739) % 2 ^ 64:Nat):Int)) V (λρ h=>Ox (h _ _ V) (h _ _ V)) ?_);refine C 6 V (Am (v:= .int .u64 ((((((((((p0.2.2 ^^^ O) % 2 ^ 64)*18397679294719823053) % 2 ^ 64) ^^^ (((((p0.2.2 ^^^ O) % 2 ^ 64)*18397679294719823053) % 2 ^ 64)>>>33)) % 2 ^ 64)*14181476777654086739) % 2 ^ 64)>>>29:Nat):Int)) V (λρ h=>LL 29 (h _ _ V) (h _ _ V) (by decide)) ?_);refine Am (v:= .int .u64 (((((((((((p0.2.2 ^^^ O) % 2 ^ 64)*18397679294719823053) % 2 ^ 64) ^^^ (((((p0.2.2 ^^^ O) % 2 ^ 64)*18397679294719823053) % 2 ^ 64)>>>33)) % 2 ^ 64)*14181476777654086739) % 2 ^ 64) ^^^ (((((((((p0.2.2 ^^^ O) % 2 ^ 64)*18397679294719823053) % 2 ^ 64) ^^^ (((((p0.2.2 ^^^ O) % 2 ^ 64)*18397679294719823053) % 2 ^ 64)>>>33)) % 2 ^ 64)*14181476777654086739) % 2 ^ 64)>>>29)) % 2 ^ 64:Nat):Int)) V (λρ h=>Oe (h _ _ V) (h _ _ V)) (Am (v:= .int .u64 ((((((((((((p0.2.2 ^^^ O) % 2 ^ 64)*18397679294719823053) % 2 ^ 64) ^^^ (((((p0.2.2 ^^^ O) % 2 ^ 64)*18397679294719823053) % 2 ^ 64)>>>33)) % 2 ^ 64)*14181476777654086739) % 2 ^ 64) ^^^ (((((((((p0.2.2 ^^^ O) % 2 ^ 64)*18397679294719823053) % 2 ^ 64) ^^^ (((((p0.2.2 ^^^ O) % 2 ^ 64)*18397679294719823053) % 2 ^ 64)>>>33)) % 2 ^ 64)*14181476777654086739) % 2 ^ 64)>>>29)) % 2 ^ 64)>>>11:Nat):Int)) V (λρ h=>LL 11 (h _ _ V) (h _ _ V) (by decide)) ?_);refine C 2 V ?_;obtain rfl:=oi a6;exact AS func66 V V (a2 aw V ⟨a1,c2,V,V,(al.Ag aw)⟩ a0)
 ·refine AU a5 (λa7 a8=>?_) (λa7 a9=>?_)
  ·refine Fs 14 [bk] ⟨⟨0,_,V⟩,trivial⟩ U λK=>A6 K V [0,1,2] V (JG.fd 3 K underlying74 FU V V V V ?_);refine Lc 4 K 0 0 U Jy ?_;refine A6 K V [5,6] V (JG.fd 7 K underlying74 Ay V V V V ?_);refine Lc 8 K 1 0 U A3 ?_;obtain⟨bx,bb,be⟩:=bs a8;refine AL 9 K V V (λρ h s' Z=>DJ (h _ _ V) (h _ _ V) bb) ?_;obtain⟨ag,bi,bn⟩:=bs be;refine Er 10 al bi K underlying22 Ay ?_;rintro bz b0 _ rfl bo;refine JG.lp 11 K 0 bo U ⟨⟨0,_,V⟩,trivial⟩ A3 ?_;refine AL (v:= .int .u64 ((Dc ag:Nat):Int)) 12 K V V (λρ h s' Z=>Yl.Dc underlying3 underlying72 (h _ _ V)) (AL (v:= .int .u64 ((((Dc ag)*14029467366897019727) % 2 ^ 64:Nat):Int)) 13 K V V (λρ h s' Z=>Ox (h _ _ V) (h _ _ V)) ?_);refine Dl [14,15] (Am (v:= .int .u64 ((((((Dc Y)*11400714819323198485) % 2 ^ 64) ^^^ (((Dc ag)*14029467366897019727) % 2 ^ 64)) % 2 ^ 64:Nat):Int)) V (λρ h=>Oe (h _ _ V) (h _ _ V)) ?_);refine C 2 V ?_;obtain rfl:=oi bn;exact az AE U V
  ·refine JL.skip ?_;obtain rfl:=oi a9;exact az AE U V
def f36(fu_:Nat)(p0:B8)(O:Int):Option (Int×(B8)):= (f83 fu_ p0).bind λK=> if O<1 then(some (0,K.2)) else((O2 K.1 ((Dc O+1) % 2 ^ 64)).bind λU=> some (Nm U,K.2))
theorem Kv{bk:Nat}{a1:An}{c2:Nat}{p0:B8}{K:Int}(av:Al rI E a1 c2 p0.1){fu_:Nat}{r:Int×(B8)}(O:f36 fu_ p0 K=some r):AK J 26 [Aj bk 0,iV K] E [(bk,.cells #[sV a1 p0.1 c2,iV p0.2.1,.int .u64 ((p0.2.2:Nat):Int)] 74 (0,0))] (λw E' B'=>∃(U:An) (Y:Nat),w=iV r.1/\B'= [(bk,.cells #[sV U r.2.1 Y,iV r.2.2.1,.int .u64 ((r.2.2.2:Nat):Int)] 74 (0,0))]/\Al rI E' U Y r.2.1):=by
 refine Bi func26 λQ a6 cs H aw Z=>?_;unfold f36 at O;obtain⟨a7,ay,az⟩:=bs O;refine C 7 V (Ch 0 (fp av ay) V V (A1 func66 V) aw V ?_);rintro _ a8 _ ac ⟨ag,al,rfl,rfl,am⟩ ap;refine C 8 V (AU az (λa0 a2=>?_) (λa0 a3=>?_))
 ·refine C 4 V ?_;obtain rfl:=oi a2;exact AS func26 V V (Z ac V ⟨ag,al,V,V,am⟩ ap)
 ·refine C 5 V (Am (v:= .int .u64 ((Dc K:Nat):Int)) V (λρ h=>Yl.Dc underlying3 underlying72 (h _ _ V)) ?_);refine Am (v:= .int .u64 (((Dc K+1) % 2 ^ 64:Nat):Int)) V (λρ h=>aK (h _ _ V) (h _ _ V)) ?_;obtain⟨aq,a4,a5⟩:=bs a3;refine Am (v:= .int .u64 ((aq:Nat):Int)) V (λρ h=>Zc (h _ _ V) (h _ _ V) a4) (Am (v:=iV (Nm aq)) V (λρ h=>dQ underlying72 underlying3 (h _ _ V)) ?_);refine C 2 V ?_;obtain rfl:=oi a5;exact AS func26 V V (Z ac V ⟨ag,al,V,V,am⟩ ap)
def f37(fu_:Nat)(p0:B8)(K:Int)(p2:Int):Option (Int×(B8)):= (Au (p2 - K)).bind λU=> (f36 fu_ p0 U).bind λO=> (Au (K+O.1)).bind λY=> some (Y,O.2)
theorem Rc{bk:Nat}{a1:An}{c2:Nat}{p0:B8}{K:Int}{p2:Int}(Z:Al rI E a1 c2 p0.1){fu_:Nat}{r:Int×(B8)}(O:f37 fu_ p0 K p2=some r):AK J 27 [Aj bk 0,iV K,iV p2] E [(bk,.cells #[sV a1 p0.1 c2,iV p0.2.1,.int .u64 ((p0.2.2:Nat):Int)] 74 (0,0))] (λw E' B'=>∃(U:An) (Y:Nat),w=iV r.1/\B'= [(bk,.cells #[sV U r.2.1 Y,iV r.2.2.1,.int .u64 ((r.2.2.2:Nat):Int)] 74 (0,0))]/\Al rI E' U Y r.2.1):=by
 refine Bi func27 λQ a4 cs H ac ag=>?_;unfold f37 at O;obtain⟨a5,al,am⟩:=bs O;refine C 10 V (Ck al V V V ?_);obtain⟨a6,ap,aq⟩:=bs am;refine Ch 0 (Kv Z ap) V V J8 ac V ?_;rintro _ a7 _ av ⟨aw,ay,rfl,rfl,az⟩ a0;obtain⟨a8,a2,a3⟩:=bs aq;refine Bq a2 V V V (C 2 V ?_);obtain rfl:=oi a3;exact AS func27 V V (ag av V ⟨aw,ay,V,V,az⟩ a0)
def f32(fu_:Nat)(p0:B8)(O:Int):Option (Bool×(B8)):= (Au (O - 1)).bind λU=> (f36 fu_ p0 U).bind λK=> some (decide (K.1=0),K.2)
theorem fF{bk:Nat}{a1:An}{c2:Nat}{p0:B8}{K:Int}(Z:Al rI E a1 c2 p0.1){fu_:Nat}{r:Bool×(B8)}(O:f32 fu_ p0 K=some r):AK J 52 [Aj bk 0,iV K] E [(bk,.cells #[sV a1 p0.1 c2,iV p0.2.1,.int .u64 ((p0.2.2:Nat):Int)] 74 (0,0))] (λw E' B'=>∃(U:An) (Y:Nat),w= .bool r.1/\B'= [(bk,.cells #[sV U r.2.1 Y,iV r.2.2.1,.int .u64 ((r.2.2.2:Nat):Int)] 74 (0,0))]/\Al rI E' U Y r.2.1):=by
 refine Bi func52 λQ a2 cs H ac ag=>?_;unfold f32 at O;obtain⟨a3,al,am⟩:=bs O;refine C 8 V (Ck al V V V ?_);obtain⟨a4,ap,aq⟩:=bs am;refine Ch 0 (Kv Z ap) V V J8 ac V ?_;rintro _ a5 _ av ⟨aw,ay,rfl,rfl,az⟩ a0;refine C 3 V ?_;obtain rfl:=oi aq;exact AS func52 V V (ag av V ⟨aw,ay,V,V,az⟩ a0)
def f81(fu_:Nat)(p0:B8)(K:List Int):Option (Int×(B8)):= (Au ((K.length:Int) - 1)).bind λU=> (f36 fu_ p0 U).bind λO=> (ix K O.1).bind λY=> some (Y,O.2)
theorem VT{bk:Nat}{a1:An}{c2:Nat}{O:An}{U:Nat}{p0:B8}{K:List Int}(al:Al rI E a1 c2 p0.1)(am:Al rI E O U K){fu_:Nat}{r:Int×(B8)}(Y:f81 fu_ p0 K=some r):AK J 53 [Aj bk 0,sV O K U] E [(bk,.cells #[sV a1 p0.1 c2,iV p0.2.1,.int .u64 ((p0.2.2:Nat):Int)] 74 (0,0))] (λw E' B'=>∃(Z:An) (ac:Nat),w=iV r.1/\B'= [(bk,.cells #[sV Z r.2.1 ac,iV r.2.2.1,.int .u64 ((r.2.2.2:Nat):Int)] 74 (0,0))]/\Al rI E' Z ac r.2.1):=by
 refine Bi func53 λQ a8 cs H ap aq=>?_;unfold f81 at Y;refine C 9 V (JL.ln underlying22 V V V ?_);obtain⟨a9,av,aw⟩:=bs Y;refine Ck av V V V ?_;obtain⟨bb,ay,az⟩:=bs aw;refine Ch 0 (Kv al ay) V V J8 ap V ?_;rintro _ be _ ag ⟨a0,a2,rfl,rfl,a3⟩ a4;obtain⟨bi,a5,a6⟩:=bs az;refine JS.ix (am.Ag ag) a5 underlying22 Ay ?_;rintro bn bo _ rfl a7;refine Cy 0 a7 A3 V V V (C 2 V ?_);obtain rfl:=oi a6;exact AS func53 V V (aq ag V ⟨a0,a2,V,V,a3⟩ a4)
def f40(fu_:Nat)(p0:B8)(K:Int):Option (Dq×(B8)):= (Au (K - 1)).bind λac=> (f36 fu_ p0 ac).bind λO=> (f37 fu_ O.2 1 9).bind λU=> (f81 fu_ U.2 ([1,2,2,3,U.1]:List Int)).bind λY=> (Au (K - 1)).bind λag=> (f37 fu_ Y.2 1 ag).bind λZ=> (Au (O.1+Z.1)).bind λal=> (Pq al K).bind λam=> some ((O.1,am,Y.1),Z.2)
theorem VJ{bk:Nat}{a1:An}{c2:Nat}{p0:B8}{ac:Int}(az:Al rI E a1 c2 p0.1){fu_:Nat}{r:Dq×(B8)}(ag:f40 fu_ p0 ac=some r):AK J 20 [Aj bk 0,iV ac] E [(bk,.cells #[sV a1 p0.1 c2,iV p0.2.1,.int .u64 ((p0.2.2:Nat):Int)] 74 (0,0))] (λw E' B'=>∃(al:An) (am:Nat),w= .agg #[iV r.1.1,iV r.1.2.1,iV r.1.2.2]/\B'= [(bk,.cells #[sV al r.2.1 am,iV r.2.2.1,.int .u64 ((r.2.2.2:Nat):Int)] 74 (0,0))]/\Al rI E' al am r.2.1):=by
 refine Bi func20 λQ dd cs H a0 a2=>?_;unfold f40 at ag;refine C 2 V (BQ a0 BP λdn a3=>?_);obtain⟨ea,a4,a5⟩:=bs ag;refine C 5 V (Ck a4 V V V ?_);obtain⟨O,a6,a7⟩:=bs a5;refine Ch 0 (Kv az a6) V V J8 a3 V ?_;rintro _ eb _ a8 ⟨ec,ed,rfl,rfl,a9⟩ bb;obtain⟨ap,be,bi⟩:=bs a7;refine C 2 V (Ch 0 (Rc a9 be) V V PG bb V ?_);rintro _ ee _ bn ⟨ef,eg,rfl,rfl,bo⟩ bv;refine Ge (pp:=rI) [iV 1,iV 2,iV 2,iV 3,iV ap.1] [1,2,2,3,ap.1] V V V underlying22 Ay CH (by decide) V V V ⟨V,V,V,V,V,trivial⟩ bv λej ek bw bx=>Cj 2 bw bx V λel aq bz b0=>?_;obtain⟨U,b1,b2⟩:=bs bi;refine Ch 0 (VT (bo.Ag aq) bz b1) V V (A1 func53 V) b0 V ?_;rintro _ em _ b3 ⟨eo,ep,rfl,rfl,b4⟩ b5;refine Am (v:= .agg #[iV O.1,iV 0,iV U.1]) V (λρ h=>CZ [(0,1),(1,1),(2,1)] h BP underlying42 ⟨V,AM type3,V,AM type3,V,AM type3,trivial⟩ V V) (BQ b5 BP λav b6=>?_);refine BJ 3 b6 Bg λZ=>?_;refine C 2 V (Fs 8 [av] ⟨⟨3,_,V⟩,trivial⟩ Z λK=>?_);refine JG.fd 0 K underlying42 Ay V V V V (Lc 1 K 0 3 Z A3 ?_);refine A6 K V [2,3] V ?_;obtain⟨ca,cc,ce⟩:=bs b2;refine AL 4 K V V (λρ h s' ci=>DJ (h _ _ V) (h _ _ V) cc) (Di 7 K V V ?_);obtain⟨er,co,cp⟩:=bs ce;refine Qe (i:=5) (vs:= [Aj bk 0,iV 1,iV ca]) 0 (by exact λx ct=>HE.mem (bks:= [av]) (by exact⟨⟨3,_,rfl⟩,trivial⟩) x (by simpa [AA] using ct)) (Rc b4 co) (by decide+kernel) V V V PG V Z V ?_;rintro _ eu _ cw ⟨cy,c0,rfl,rfl,c1⟩ c3;obtain⟨ew,c4,c5⟩:=bs cp;refine AL 6 K V V (λρ h s' ci=>FY (h _ _ V) (h _ _ V) c4) (Dl [8,9,10] ?_);obtain⟨Y,c6,c7⟩:=bs c5;refine Am (v:=iV Y) V (λρ h=>aX (h _ _ V) (h _ _ V) c6) (JL.fd underlying42 Ay V V V ?_);refine BJ 3 c3 Ay λaw=>?_;refine C 3 V (Am V (λρ h=>IE (vs:= [iV O.1,iV Y,iV U.1]) DO Bg (h _ _ V) (Hw (off:=0) 3 aw V V)) ?_);refine BJ 1 aw Bg λc8=>?_;refine JL.done (JS.drop 3 c8 V λay=>?_);obtain rfl:=oi c7;refine JL.ret (v:= .agg #[iV O.1,iV Y,iV U.1]) V V (BE.list func20 V (vs:= [.agg #[iV O.1,iV Y,iV U.1]]) ⟨⟨_,V,Ld.many (vs:= [iV O.1,iV Y,iV U.1]) DO Bg (Hw (off:=0) 1 ay V V)⟩,trivial⟩) (EF 1 ay V λc9=>?_);exact a2 ((((a8.Ad bn).Ad aq).Ad b3).Ad cw) V ⟨cy,c0,V,V,c1⟩ c9
end Pal
namespace Pal
open Go Go.Conc
variable {P:Program}{J:Judge P}{Q:Gs_}{b:Frame}{ds:Ld_}{ops:Ao_}{cs:Lf_}{fuel:Nat}{D:Nat->Bool}{listed:Array Bool}{L:Env}{s:St}{E E' H:LH}{S:List Seg}
variable {t u ty e:TypeId}{p:String}{af:Ae_}{g:On_}{v:Value}{i:Nat}{kd:IntKind}
section
variable {n:Nat}{k:Li_}{m:Nat}
variable {d:Option Tmp}{x y:Operand}
theorem Take.Vn{f:FuncId}{args:Array Operand}{ats:Array TypeId}{vs:Lv_}{seg:Seg}{R:Value->LH->Seg->Prop}(j:Nat)(O:Aq E H S)(ap:AK J f vs E seg R)
  (aq:ops[i]? =some ⟨d,.call ⟨.value (.func f),args,ats⟩,ty,p,af,g⟩) (hw:AP L ops ⟨d,.call ⟨.value (.func f),args,ats⟩,ty,p,af,g⟩=some true) (av:Bj n d=true) (hb:DL P f=true) (aw:evs L args.toList=some vs) (U:S[j]? =some seg)
  (ay:∀v E' seg',Le E E'->R v E' seg'->Aq E' H (S.set j seg')->AQ J Q b n ds ops k cs m Dy fuel (Bb listed i) (Av L d v) (Ak E' H (S.set j seg'))):
  Take J Q b n ds ops k cs m Dy fuel listed L (Ak E H S) i:=by
 have Y:S.flatten.Perm (seg++(S.set j []).flatten):=(Ey (seg':=seg) U).1.trans List.perm_append_comm;have Z:Nd E H (seg++(S.set j []).flatten):=Nd.perm O Y;have az:Ak E H S=mk E (Bh (S.set j []).flatten H) seg:=by
  rw [show Ak E H S=mk E H S.flatten from rfl,Fp O Y];unfold mk;rw [FV]
 have ac:=EO.Lq (ap (Bh (S.set j []).flatten H) (Nd.front Z)) (by rintro v s' ⟨E',B',_,_,_,rfl⟩;rfl);rw [← az] at ac;refine⟨_,aq,by simp [Eo],av,hw,λρ ag=>?_⟩;have a0:args.map ρ=vs.toArray:=by
  rw [← Gc ag aw];apply Array.ext';simp
 have a1:ρ (.func f)= .func (.func f) #[] #[]:=ag _ _ V;simp only [execOp,resolve,bind,Sem.bind,Deferred.ofValue,a1,pure,invoke];have e: #[]++args.map ρ++ #[]=vs.toArray:=by rw [a0];simp
 rw [e];refine I5 hb ?_;rw [LA];refine⟨_,ac,?_⟩;rintro v be ⟨⟨E',B',hle,a2,a3,rfl⟩,w,a4⟩;have e2:mk E' (Bh (S.set j []).flatten H) B'=mk E' H (B'++(S.set j []).flatten):=by unfold mk;rw [FV]
 have a5:Nd E H (S.set j []).flatten:=by
  have:=Z;rw [Nd.iff] at this ⊢;rw [List.map_append,List.nodup_append] at this;exact⟨this.1.2.1,λq a6=>this.2 q (List.mem_append_right _ a6)⟩
 have a7:Nd E' H (S.set j []).flatten:=a5.grow λx K=>by
  have a8:=a4.d x K;have a9:Bh B' (Bh (S.set j []).flatten H) x=none:=a8;exact(H0 a9).1
 have al:Nd E' H (B'++(S.set j []).flatten):=Nd.glue a3 a7;have am:(B'++(S.set j []).flatten).Perm (S.set j B').flatten:=List.perm_append_comm.trans (Ey U).2.symm;have bb:Aq E' H (S.set j B'):=Nd.perm al am;rw [e2,Fp al am];exact⟨V,λx o K=>hle _ _ K,ay v E' B' hle a2 bb⟩
end
open Go.Proofs Go.Proofs.Tryz
variable {J:Judge Tryz.prog}
def OG(fu_:Nat)(Y:Bool×(B8))(K:(List Int)×Int×Nat×(List Int)×Int):Option (Bn ((List Int)×Int×Nat×(List Int)×Int) ((List Int)×B8)):= if 0<K.2.2.2.2 then(Option.bind (if Y.1=true then((room K.2.2.2.1 1).bind λZ=> some (Z,K.1,K.2.1,K.2.2.1)) else((f81 fu_ (K.1,K.2.1,K.2.2.1) ([1,1,2,2,3,5]:List Int)).bind λO=> (room K.2.2.2.1 O.1).bind λac=> some (ac,O.2.1,O.2.2.1,O.2.2.2))) λU=> (Au (K.2.2.2.2 - 1)).bind λag=> some (.more (U.2.1,U.2.2.1,U.2.2.2,U.1,ag))) else(some (.done (K.2.2.2.1,K.1,K.2.1,K.2.2.1)))
def OD(fu_:Nat)(Y:Int×(B8))(Z:Bool×(B8))(K:Bs×(List Int)×Int×Nat×Int):Option (Bn (Bs×(List Int)×Int×Nat×Int) ((List Int)×Int×Nat×Bs)):= if K.2.2.2.2<Y.1 then((f36 fu_ (K.2.1,K.2.2.1,K.2.2.2.1) 3).bind λO=> Option.bind (iter (OG fu_ Z) fu_ (O.2.1,O.2.2.1,O.2.2.2,[],O.1)) λU=> (room K.1 U.1).bind λac=> (Au (K.2.2.2.2+1)).bind λag=> some (.more (ac,U.2.1,U.2.2.1,U.2.2.2,ag))) else(some (.done (K.2.1,K.2.2.1,K.2.2.2.1,K.1)))
def OJ(fu_:Nat)(U:Int×(B8))(K:Ax×(List Int)×Int×Nat×Int):Option (Bn (Ax×(List Int)×Int×Nat×Int) ((List Int)×Int×Nat×Ax)):= if 0<K.2.2.2.2 then((f40 fu_ (K.2.1,K.2.2.1,K.2.2.2.1) U.1).bind λO=> (Ep K.1 ([O.1]:Ax)).bind λY=> (Au (K.2.2.2.2 - 1)).bind λZ=> some (.more (Y,O.2.1,O.2.2.1,O.2.2.2,Z))) else(some (.done (K.2.1,K.2.2.1,K.2.2.2.1,K.1)))
def f31(fu_:Nat)(p0:B8)(ac:Int)(p2:Int):Option (AZ×(B8)):= (f37 fu_ p0 2 ac).bind λZ=> (f32 fu_ Z.2 3).bind λK=> Option.bind (iter (OD fu_ Z K) fu_ ([],K.2.1,K.2.2.1,K.2.2.2,0)) λO=> (f36 fu_ (O.1,O.2.1,O.2.2.1) p2).bind λU=> Option.bind (iter (OJ fu_ Z) fu_ ([],U.2.1,U.2.2.1,U.2.2.2,U.1)) λY=> some ((O.2.2.2,Y.2.2.2),(Y.1,Y.2.1,Y.2.2.1))
theorem fq{bk:Nat}{a1:An}{c2:Nat}{p0:B8}{e3:Int}{p2:Int}(hl:Al rI E a1 c2 p0.1){fu_:Nat}{r:AZ×(B8)}(e4:f31 fu_ p0 e3 p2=some r):AK J 11 [Aj bk 0,iV e3,iV p2] E [(bk,.cells #[sV a1 p0.1 c2,iV p0.2.1,.int .u64 ((p0.2.2:Nat):Int)] 74 (0,0))] (λw E' B'=>∃(e5:An) (e6:Nat) (e7:An) (e8:Nat) (ff:An) (fk:Nat),w= .agg #[sV e5 r.1.1 e6,sV e7 r.1.2 e8]/\B'= [(bk,.cells #[sV ff r.2.1 fk,iV r.2.2.1,.int .u64 ((r.2.2.2:Nat):Int)] 74 (0,0))]/\Al (rL rI) E' e5 e6 r.1.1/\Al Aw E' e7 e8 r.1.2/\Al rI E' ff fk r.2.1):=by
 refine Bi func11 λQ km cs H hm hn=>?_;unfold f31 at e4;refine C 2 V (BQ hm Ka λO ho=>?_);refine C 3 V (BQ ho Ka λU hp=>?_);obtain⟨az,hq,hr⟩:=bs e4;refine C 5 V (Ch 0 (Rc hl hq) V V PG hp V ?_);rintro _ kn _ hs ⟨ht,hu,rfl,rfl,hv⟩ hw;refine Bz (S':= [[(bk,.cells #[sV ht az.2.1 hu,iV az.2.2.1,.int .u64 ((az.2.2.2:Nat):Int)] 74 (0,0))],[(O,.cells #[nS,nS] 28 (0,0))],[(U,.cells #[nS,nS] 28 (0,0))]]) V hw λhx=>?_;obtain⟨b5,hy,hz⟩:=bs hr;refine C 5 V (Ch 0 (fF hv hy) V V (A1 func52 V) hx V ?_);rintro _ dn _ hA ⟨hB,hC,rfl,rfl,hD⟩ hE;obtain⟨Y,hF,hG⟩:=bs hz;refine C 7 V (Bt (λL s=>∃(b6:LH) (ea:An) (eb:Nat) (ac:An) (ag:Nat) (ay:Seg),Jn dn H b6 [bX bk #[sV ea Y.1 eb,iV Y.2.1,.int .u64 ((Y.2.2.1:Nat):Int)] 74,bX O #[nS,nS] 28,bX U #[sV ac Y.2.2.2 ag,nS] 28,ay] [(0,Aj bk 0),(2,iV p2),(6,Aj O 0),(7,Aj U 0),(8,iV az.1)] L s (Al rI b6 ea eb Y.1/\OL 22 (rL rI) b6 ac ag ay Y.2.2.2)) ?_ ?_)
 ·rintro _ _ ⟨b6,ea,eb,ac,ag,ay,rfl,rfl,hH,hI,hJ,hK⟩;obtain⟨ko,hL,hM⟩:=bs hG;refine C 5 V (Ch 0 (Kv hJ hL) V V J8 hI V ?_);rintro _ ec _ fl ⟨hN,hO,rfl,rfl,hP⟩ hQ;obtain⟨al,hR,hS⟩:=bs hM;refine C 2 V (Bt (λL s=>∃(ca:LH) (bv:An) (bw:Nat) (a2:An) (a3:Nat) (cc:Seg),Jn ec H ca [bX bk #[sV bv al.1 bw,iV al.2.1,.int .u64 ((al.2.2.1:Nat):Int)] 74,bX O #[nS,nS] 28,bX U #[sV ac Y.2.2.2 ag,sV a2 al.2.2.2 a3] 28,ay,cc] [(6,Aj O 0),(7,Aj U 0)] L s (Al rI ca bv bw al.1/\OL 42 Aw ca a2 a3 cc al.2.2.2)) ?_ ?_)
  ·rintro _ _ ⟨ca,bv,bw,a2,a3,cc,rfl,rfl,fm,fo,hT,hU⟩;refine C 2 V (Am V (λρ h=>IE (vs:= [sV ac Y.2.2.2 ag,sV a2 al.2.2.2 a3]) Fc CV (h _ _ V) (Hw (off:=0) 2 fo V V)) ?_);refine BJ 1 fo CV λhV=>?_;refine Bz (S':= [[(bk,.cells #[sV bv al.1 bw,iV al.2.1,.int .u64 ((al.2.2.1:Nat):Int)] 74 (0,0))],[(O,.cells #[sV ac Y.2.2.2 ag,sV a2 al.2.2.2 a3] 28 (0,0))],[(U,.cells #[sV ac Y.2.2.2 ag,sV a2 al.2.2.2 a3] 28 (0,0))],ay,cc]) V hV λhW=>JL.done (Cj 3 (hK.Ag (fl.Ad fm)) hW V λkp ed hX hY=>?_);refine Cj 4 (hU.Ag ed) hY V λkq ee hZ h0=>JS.drop 2 h0 V λfs=>?_;obtain rfl:=oi hS;refine JL.ret (v:= .agg #[sV ac Y.2.2.2 ag,sV a2 al.2.2.2 a3]) V V (BE.list func11 V (vs:= [.agg #[sV ac Y.2.2.2 ag,sV a2 al.2.2.2 a3]]) ⟨⟨_,V,Ld.many (vs:= [sV ac Y.2.2.2 ag,sV a2 al.2.2.2 a3]) Fc CV (Hw (off:=0) 1 fs V V)⟩,trivial⟩) (EF 1 fs V λh1=>?_);exact hn ((((((hs.Ad hA).Ad hH).Ad fl).Ad fm).Ad ed).Ad ee) V ⟨ac,ag,a2,a3,bv,bw,V,V,(hX.Ag ee),hZ,(hT.Ag (ed.Ad ee))⟩ h1
  ·intro h2;refine JL.block (Cw hR (λL s ap=>∃(bx:LH) (a4:An) (a5:Nat) (a7:Seg) (ce:An) (ci:Nat),Jn ec H bx [bX bk #[sV ce ap.2.1 ci,iV ap.2.2.1,.int .u64 ((ap.2.2.2.1:Nat):Int)] 74,bX O #[nS,nS] 28,bX U #[sV ac Y.2.2.2 ag,sV a4 ap.1 a5] 28,ay,a7] [(0,Aj bk 0),(6,Aj O 0),(7,Aj U 0),(8,iV az.1),(13,iV ap.2.2.2.2)] L s (OL 42 Aw bx a4 a5 a7 ap.1/\Al rI bx ce ci ap.2.1)) ⟨ec,none,0,[],hN,hO,V,V,AE,hQ,OL.nil,hP⟩ ?_);rintro _ _ ap ⟨bx,a4,a5,a7,ce,ci,rfl,rfl,co,cp,ct,ef⟩ h3 ⟨kr,bz⟩ eg;have fv:=bz;unfold OJ at fv;refine C 6 V (AU fv (λh4 h5=>?_) (λh4 h6=>?_))
   ·refine C 3 V (Ff 6 λfw=>?_);refine JG.fd 0 fw underlying28 Hv V V V V (A6 fw V [2,3] V ?_);obtain⟨K,fN,ej⟩:=bs h5;refine Gu (i:=1) (j:=4) V (by decide+kernel) ?_ ?_
    ·refine Take.y0 (v:= sV a4 ap.1 a5) V V V (λρ h=>Yl.load Jx (h _ _ V) (BV (j:=2) cp V V)) (JG.one (i:=4) V (by decide+kernel) ?_);refine Take.Vn (vs:= [Aj bk 0,iV az.1]) 0 cp (VJ ef fN) V V V (A1 func20 V) V V ?_;rintro _ ks _ gc ⟨ek,el,rfl,rfl,h7⟩ h8;refine JG.one (i:=5) V (by decide+kernel) (Take.Fh (pp:=Aw) [.agg #[iV K.1.1,iV K.1.2.1,iV K.1.2.2]] ([K.1]:Ax) h8 V V V underlying26 Bg BP (by decide) V V V ⟨⟨_,_,V,V,⟨_,_,V,V,V⟩⟩,trivial⟩ λkt h9 ia ic=>?_);refine Dl [6,7,8] (Bz (S':= [[(bk,.cells #[sV ek K.2.1 el,iV K.2.2.1,.int .u64 ((K.2.2.2:Nat):Int)] 74 (0,0))],[(O,.cells #[nS,nS] 28 (0,0))],[(U,.cells #[sV ac Y.2.2.2 ag,sV a4 ap.1 a5] 28 (0,0))],ay,a7,h9]) V ic λie=>?_);refine Cj 5 ia ie V λig em ih ii=>?_;obtain⟨ge,ij,ik⟩:=bs ej;refine Ko (pp:=Aw) 4 ij V V V V V V V underlying26 underlying26 Bg (Dv type42) BP V (by decide) (by decide) (ct.Ag (gc.Ad em)) ih ii V λgg gh gl il io=>JL.fd underlying28 Hv V V V (BJ 2 io Hv λiq=>?_);refine Bz (S':= [[(bk,.cells #[sV ek K.2.1 el,iV K.2.2.1,.int .u64 ((K.2.2.2:Nat):Int)] 74 (0,0))],[(O,.cells #[nS,nS] 28 (0,0))],[(U,.cells #[sV ac Y.2.2.2 ag,sV gg ge gh] 28 (0,0))],ay,gl,[]]) V iq λir=>?_;obtain⟨iu,iv,iw⟩:=bs ik;refine C 4 V (Ck iv V V V ?_);refine C 2 V ?_;obtain rfl:=oi iw;exact AB (eg _ _ (ge,K.2.1,K.2.2.1,K.2.2.2,iu) ⟨ig,gg,gh,gl,ek,el,V,V,((co.Ad gc).Ad em),ir,il,(h7.Ag em)⟩ bz) V
    ·refine Take.Vn (vs:= [Aj bk 0,iV az.1]) 0 cp (VJ ef fN) V V V (A1 func20 V) V V ?_;rintro _ ku _ cw ⟨be,bi,rfl,rfl,gt⟩ eo;refine Gu (i:=1) (j:=5) V (by decide+kernel) ?_ ?_
     ·refine Take.y0 (v:= sV a4 ap.1 a5) V V V (λρ h=>Yl.load Jx (h _ _ V) (BV (j:=2) eo V V)) (JG.one (i:=5) V (by decide+kernel) ?_);refine Take.Fh (pp:=Aw) [.agg #[iV K.1.1,iV K.1.2.1,iV K.1.2.2]] ([K.1]:Ax) eo V V V underlying26 Bg BP (by decide) V V V ⟨⟨_,_,V,V,⟨_,_,V,V,V⟩⟩,trivial⟩ λkv iy iz iA=>Dl [6,7,8] (Bz (S':= [[(bk,.cells #[sV be K.2.1 bi,iV K.2.2.1,.int .u64 ((K.2.2.2:Nat):Int)] 74 (0,0))],[(O,.cells #[nS,nS] 28 (0,0))],[(U,.cells #[sV ac Y.2.2.2 ag,sV a4 ap.1 a5] 28 (0,0))],ay,a7,iy]) V iA λiB=>?_);refine Cj 5 iz iB V λiC ep iD iE=>?_;obtain⟨gE,iF,iG⟩:=bs ej;refine Ko (pp:=Aw) 4 iF V V V V V V V underlying26 underlying26 Bg (Dv type42) BP V (by decide) (by decide) (ct.Ag (cw.Ad ep)) iD iE V λgO gV gW iH iI=>JL.fd underlying28 Hv V V V (BJ 2 iI Hv λiJ=>?_);refine Bz (S':= [[(bk,.cells #[sV be K.2.1 bi,iV K.2.2.1,.int .u64 ((K.2.2.2:Nat):Int)] 74 (0,0))],[(O,.cells #[nS,nS] 28 (0,0))],[(U,.cells #[sV ac Y.2.2.2 ag,sV gO gE gV] 28 (0,0))],ay,gW,[]]) V iJ λiK=>?_;obtain⟨iL,iM,iN⟩:=bs iG;refine C 4 V (Ck iM V V V ?_);refine C 2 V ?_;obtain rfl:=oi iN;exact AB (eg _ _ (gE,K.2.1,K.2.2.1,K.2.2.2,iL) ⟨iC,gO,gV,gW,be,bi,V,V,((co.Ad cw).Ad ep),iK,iH,(gt.Ag ep)⟩ bz) V
     ·refine Take.Fh (pp:=Aw) [.agg #[iV K.1.1,iV K.1.2.1,iV K.1.2.2]] ([K.1]:Ax) eo V V V underlying26 Bg BP (by decide) V V V ⟨⟨_,_,V,V,⟨_,_,V,V,V⟩⟩,trivial⟩ λkx iO iP gX=>JG.one (i:=1) V (by decide+kernel) (Take.y0 (v:= sV a4 ap.1 a5) V V V (λρ h=>Yl.load Jx (h _ _ V) (BV (j:=2) gX V V)) ?_);refine Dl [6,7,8] (Bz (S':= [[(bk,.cells #[sV be K.2.1 bi,iV K.2.2.1,.int .u64 ((K.2.2.2:Nat):Int)] 74 (0,0))],[(O,.cells #[nS,nS] 28 (0,0))],[(U,.cells #[sV ac Y.2.2.2 ag,sV a4 ap.1 a5] 28 (0,0))],ay,a7,iO]) V gX λiQ=>?_);refine Cj 5 iP iQ V λiR er iS iT=>?_;obtain⟨gY,iU,iW⟩:=bs ej;refine Ko (pp:=Aw) 4 iU V V V V V V V underlying26 underlying26 Bg (Dv type42) BP V (by decide) (by decide) (ct.Ag (cw.Ad er)) iS iT V λgZ g0 g1 iX iY=>JL.fd underlying28 Hv V V V (BJ 2 iY Hv λiZ=>?_);refine Bz (S':= [[(bk,.cells #[sV be K.2.1 bi,iV K.2.2.1,.int .u64 ((K.2.2.2:Nat):Int)] 74 (0,0))],[(O,.cells #[nS,nS] 28 (0,0))],[(U,.cells #[sV ac Y.2.2.2 ag,sV gZ gY g0] 28 (0,0))],ay,g1,[]]) V iZ λi0=>?_;obtain⟨i1,i3,i4⟩:=bs iW;refine C 4 V (Ck i3 V V V ?_);refine C 2 V ?_;obtain rfl:=oi i4;exact AB (eg _ _ (gY,K.2.1,K.2.2.1,K.2.2.2,i1) ⟨iR,gZ,g0,g1,be,bi,V,V,((co.Ad cw).Ad er),i0,iX,(gt.Ag er)⟩ bz) V
   ·refine JL.exit V ?_;obtain rfl:=oi h6;obtain rfl:=h3 _ bz;exact AB (h2 _ _ ⟨bx,ce,ci,a4,a5,a7,V,V,co,cp,ef,ct⟩) V
 ·intro i5;refine JL.block (Cw hF (λL s Z=>∃(b0:LH) (aq:An) (av:Nat) (a0:Seg) (cy:An) (c0:Nat),Jn dn H b0 [bX bk #[sV cy Z.2.1 c0,iV Z.2.2.1,.int .u64 ((Z.2.2.2.1:Nat):Int)] 74,bX O #[nS,nS] 28,bX U #[sV aq Z.1 av,nS] 28,a0] [(0,Aj bk 0),(2,iV p2),(6,Aj O 0),(7,Aj U 0),(8,iV az.1),(9,.bool b5.1),(10,iV Z.2.2.2.2)] L s (OL 22 (rL rI) b0 aq av a0 Z.1/\Al rI b0 cy c0 Z.2.1)) ⟨dn,none,0,[],hB,hC,V,V,AE,hE,OL.nil,hD⟩ ?_);rintro _ _ Z ⟨b0,aq,av,a0,cy,c0,rfl,rfl,g3,g4,g5,g6⟩ i6 ⟨ky,eu⟩ i7;have g7:=eu;unfold OD at g7;refine C 7 V (AU g7 (λi8 i9=>?_) (λi8 ja=>?_))
  ·obtain⟨kz,jb,jc⟩:=bs i9;refine C 11 V (Ch 0 (Kv g6 jb) V V J8 g4 V ?_);rintro _ ew _ g8 ⟨jd,je,rfl,rfl,jf⟩ jg;obtain⟨aw,jh,ji⟩:=bs jc;refine C 2 V (Bt (λL s=>∃(c1:LH) (c3:An) (c4:Nat) (ex:Seg) (b1:An) (b2:Nat),Jn ew H c1 [bX bk #[sV b1 aw.2.1 b2,iV aw.2.2.1,.int .u64 ((aw.2.2.2:Nat):Int)] 74,bX O #[nS,nS] 28,bX U #[sV aq Z.1 av,nS] 28,a0,ex] [(0,Aj bk 0),(2,iV p2),(6,Aj O 0),(7,Aj U 0),(8,iV az.1),(9,.bool b5.1),(10,iV Z.2.2.2.2),(11,sV c3 aw.1 c4)] L s (OL 3 rI c1 c3 c4 ex aw.1/\Al rI c1 b1 b2 aw.2.1)) ?_ ?_)
   ·rintro _ _ ⟨c1,c3,c4,ex,b1,b2,rfl,rfl,g9,ha,jj,jk⟩;refine JL.region (JL.fd underlying28 Fo V V V ?_);refine Am (v:= sV aq Z.1 av) V (λρ h=>Yl.load Fy (h _ _ V) (BV (j:=2) (off:=0) ha V V)) (C 1 V ?_);refine Cj 4 jj ha V λjl ey jm jo=>Bz (S':= [[(bk,.cells #[sV b1 aw.2.1 b2,iV aw.2.2.1,.int .u64 ((aw.2.2.2:Nat):Int)] 74 (0,0))],[(O,.cells #[nS,nS] 28 (0,0))],[(U,.cells #[sV aq Z.1 av,nS] 28 (0,0))],a0,[]]) V jo λjp=>?_;obtain⟨jq,jr,js⟩:=bs ji;refine JS.app (pp:=(rL rI)) (v:= sV c3 aw.1 c4) (a:=aq) (c:=av) 3 jr V V V V (λ_=>V) V (λ_=>V) V V V underlying25 underlying25 underlying25 FU (Dv type22) Ml V (by decide) (by decide) (by decide) (by decide) (g5.Ag ((g8.Ad g9).Ad ey)) ⟨_,_,V,jm⟩ jp V λkA jt ju jv jw jx=>JL.fd underlying28 Fo V V V (BJ 2 jx Fo λjy=>?_);obtain⟨jz,jA,jB⟩:=bs js;refine C 4 V (Bq jA V V V ?_);refine C 2 V ?_;obtain rfl:=oi jB;exact AB (i7 _ _ (jq,aw.2.1,aw.2.2.1,aw.2.2.2,jz) ⟨jl,jt,ju,jv,b1,b2,V,V,(((g3.Ad g8).Ad g9).Ad ey),jy,jw,(jk.Ag ey)⟩ eu) V
   ·intro jC;refine JL.block (Cw jh (λL s am=>∃(a8:LH) (a9:An) (bb:Nat) (bn:An) (bo:Nat) (b3:Seg),Jn ew H a8 [bX bk #[sV a9 am.1 bb,iV am.2.1,.int .u64 ((am.2.2.1:Nat):Int)] 74,bX O #[nS,nS] 28,bX U #[sV aq Z.1 av,nS] 28,a0,b3] [(0,Aj bk 0),(2,iV p2),(6,Aj O 0),(7,Aj U 0),(8,iV az.1),(9,.bool b5.1),(10,iV Z.2.2.2.2),(11,sV bn am.2.2.2.1 bo),(12,iV am.2.2.2.2)] L s (Al rI a8 a9 bb am.1/\OL 3 rI a8 bn bo b3 am.2.2.2.1)) ⟨ew,jd,je,none,0,[],V,V,AE,jg,jf,OL.nil⟩ ?_);rintro _ _ am ⟨a8,a9,bb,bn,bo,b3,rfl,rfl,hb,eA,eC,eN⟩ jD ⟨kB,e0⟩ jE;have hc:=e0;unfold OG at hc;refine C 6 V (AU hc (λjF jG=>?_) (λjF jH=>?_))
    ·obtain⟨a6,jI,jJ⟩:=bs jG;refine C 7 V (Bt (λL s=>∃(b4:LH) (c5:An) (c6:Nat) (c7:Seg) (c8:An) (c9:Nat),Jn a8 H b4 [bX bk #[sV c8 a6.2.1 c9,iV a6.2.2.1,.int .u64 ((a6.2.2.2:Nat):Int)] 74,bX O #[nS,nS] 28,bX U #[sV aq Z.1 av,nS] 28,a0,c7] [(0,Aj bk 0),(2,iV p2),(6,Aj O 0),(7,Aj U 0),(8,iV az.1),(9,.bool b5.1),(10,iV Z.2.2.2.2),(11,sV c5 a6.1 c6),(12,iV am.2.2.2.2)] L s (OL 3 rI b4 c5 c6 c7 a6.1/\Al rI b4 c8 c9 a6.2.1)) ?_ ?_)
     ·rintro _ _ ⟨b4,c5,c6,c7,c8,c9,rfl,rfl,jK,jL,jM,jN⟩;obtain⟨jO,jP,jQ⟩:=bs jJ;refine C 3 V (Ck jP V V V ?_);refine C 2 V ?_;obtain rfl:=oi jQ;exact AB (jE _ _ (a6.2.1,a6.2.2.1,a6.2.2.2,a6.1,jO) ⟨b4,c8,c9,c5,c6,c7,V,V,(hb.Ad jK),jL,jN,jM⟩ e0) V
     ·intro hd;refine Cx jI (λjR jS=>?_) (λjR jT=>?_)
      ·obtain⟨kC,jU,jV⟩:=bs jS;refine C 2 V (JS.app (pp:=rI) (v:=iV 1) (a:=bn) (c:=bo) 4 jU V V V V (λ_=>V) V (λ_=>V) V V V underlying22 underlying22 underlying22 Ay (Dv type3) CH V (by decide) (by decide) (by decide) (by decide) eN V eA V λkD jW jX he jY jZ=>?_);refine Bz (S':= [[(bk,.cells #[sV a9 am.1 bb,iV am.2.1,.int .u64 ((am.2.2.1:Nat):Int)] 74 (0,0))],[(O,.cells #[nS,nS] 28 (0,0))],[(U,.cells #[sV aq Z.1 av,nS] 28 (0,0))],a0,he]) V jZ λj0=>C 2 V ?_;obtain rfl:=oi jV;exact AB (hd _ _ ⟨a8,jW,jX,he,a9,bb,V,V,AE,j0,jY,eC⟩) V
      ·refine C 3 V (Ge (pp:=rI) [iV 1,iV 1,iV 2,iV 2,iV 3,iV 5] [1,1,2,2,3,5] V V V underlying22 Ay CH (by decide) V V V ⟨V,V,V,V,V,V,trivial⟩ eA λkF j1 j2 j3=>?_);refine Bz (S':= [[(bk,.cells #[sV a9 am.1 bb,iV am.2.1,.int .u64 ((am.2.2.1:Nat):Int)] 74 (0,0))],[(O,.cells #[nS,nS] 28 (0,0))],[(U,.cells #[sV aq Z.1 av,nS] 28 (0,0))],a0,b3,j1]) V j3 λj4=>Cj 5 j2 j4 V λkG e1 j5 j6=>?_;obtain⟨dd,j7,j8⟩:=bs jT;refine Ch 0 (VT (eC.Ag e1) j5 j7) V V (A1 func53 V) j6 V ?_;rintro _ j9 _ hf ⟨hg,hj,rfl,rfl,kb⟩ kc;obtain⟨kI,ke,kf⟩:=bs j8;refine JS.app (pp:=rI) (v:=iV dd.1) (a:=bn) (c:=bo) 4 ke V V V V (λ_=>V) V (λ_=>V) V V V underlying22 underlying22 underlying22 Ay (Dv type3) CH V (by decide) (by decide) (by decide) (by decide) (eN.Ag (e1.Ad hf)) V kc V λkJ kg kh hk ki kj=>Bz (S':= [[(bk,.cells #[sV hg dd.2.1 hj,iV dd.2.2.1,.int .u64 ((dd.2.2.2:Nat):Int)] 74 (0,0))],[(O,.cells #[nS,nS] 28 (0,0))],[(U,.cells #[sV aq Z.1 av,nS] 28 (0,0))],a0,hk,[]]) V kj λkl=>C 2 V ?_;obtain rfl:=oi kf;exact AB (hd _ _ ⟨j9,kg,kh,hk,hg,hj,V,V,(e1.Ad hf),kl,ki,kb⟩) V
    ·refine JL.exit V ?_;obtain rfl:=oi jH;obtain rfl:=jD _ e0;exact AB (jC _ _ ⟨a8,bn,bo,b3,a9,bb,V,V,hb,eA,eN,eC⟩) V
  ·refine JL.exit V ?_;obtain rfl:=oi ja;obtain rfl:=i6 _ eu;exact AB (i5 _ _ ⟨b0,cy,c0,aq,av,a0,V,V,g3,g4,g6,g5⟩) V
variable {J:Judge Tryz.prog}
variable {J:Judge Tryz.prog}
variable {J:Judge Tryz.prog}
def OX(fu_:Nat)(p0:AZ)(K:(List Int)×Int):Option (Bn ((List Int)×Int) ((List Int))):= if K.2<(p0.2.length:Int) then((ix p0.2 K.2).bind λO=> (ix K.1 O.1).bind λal=> (ix K.1 O.1).bind λU=> (Au (U - O.2.2)).bind λY=> (ix K.1 O.2.1).bind λZ=> (Au (Z+O.2.2)).bind λac=> (Au (K.2+1)).bind λag=> some (.more (((K.1.set (Int.toNat O.1) Y).set (Int.toNat O.2.1) ac),ag))) else(some (.done K.1))
def f55(fu_:Nat)(p0:AZ):Option ((List Int)):= (IM (p0.1.length:Int) (0:Int)).bind λK=> Option.bind (iter (OX fu_ p0) fu_ (K,0)) λO=> some O
end Pal
namespace Pal
open Go Go.Conc
def Mf(t:TypeId)(v:Value):Option Int->Prop
 | none=>v= .nilIface
 | some c=>v= .iface t (.agg #[iV c])
variable {P:Program}{s:St}{ρ:Operand->Value}{z:Operand}{t u ty e:TypeId}{p:String}{af:Ae_}{g:On_}{v v':Value}
section
variable {x y:Operand}{d:Option Tmp}
theorem Xu{ms:Array (String×TypeId)}{K:TypeId}{o:Option Int}{n:Nat}(O:P.underlying t=some (.interface ms))(he:Mf K v o){Q:Bool->St->Prop}{X:Halt->St->Prop}(k:Q o.isNone s):lp P (Op.equalIn (n+1) t v .nilIface) s Q X:=by
 unfold Op.equalIn;refine As _ _ (Cq O ?_);cases o with
 | none=>obtain rfl:v= .nilIface:=he;exact k
 | some q=>obtain rfl:v= .iface K (.agg #[iV q]):=he;exact k
theorem SF{ms:Array (String×TypeId)}{K:TypeId}{o:Option Int}(O:P.underlying t=some (.interface ms))(he:Mf K v o)(U:ρ x=v)(Y:ρ (.const .nilIface)= .nilIface):Yl P ⟨d,.binOp .eql t x (.const .nilIface) u,ty,p,af,g⟩ ρ s (.bool o.isNone):=by
 refine Fz (sm:=do eqGuard .eql t x (.const .nilIface) (ρ x) (ρ (.const .nilIface));binOp .eql t (ρ x) (ρ (.const .nilIface))) V ?_
 rw [U,Y];have Z:lp P (eqGuard .eql t x (.const .nilIface) v .nilIface) s (λ_ s'=>s'=s) (λ_ _=>False):=by
  cases o with
  | none=>obtain rfl:v= .nilIface:=he;simp [eqGuard,lp,pure]
  | some q=>obtain rfl:v= .iface K (.agg #[iV q]):=he;simp [eqGuard,lp,pure]
 refine As _ _ (Ej _ Z ?_ (λ_ _ h=>h));rintro _ _ rfl;have hb:binOp .eql t v .nilIface=(do pure (.bool (← Op.equal t v .nilIface))):=by
  cases o with
  | none=>obtain rfl:v= .nilIface:=he;rfl
  | some q=>obtain rfl:v= .iface K (.agg #[iV q]):=he;rfl
 rw [hb];refine As (x:=Op.equal t v .nilIface) _ ?_;unfold Op.equal Op.maxDepth;refine Xu O he ?_;refine⟨?_,V⟩
 rfl
end
end Pal
set_option autoImplicit false
open Go
namespace Pal
theorem Al.Wg{P:Program}{E:LH}{α:Type}{pp:Rp α}{a:Option Addr}{c:Nat}{xs:List α}{xv:α}{K:Int}(U:Al pp E a c xs)(O:ix xs K=some xv):
  ∃bk o ws,pp.r E ws xv/\At E bk o ws/\∀{s:St} {ρ:Operand->Value} {x y:Operand} {d:Option Tmp} {t ty e:TypeId} {p:String} {af:Ae_} {g:On_} {kd:IntKind},
   P.underlying t=some (.slice e)->Bo P e=some pp.n->ρ x= .slice a xs.length c->ρ y= .int kd K->Yl P ⟨d,.indexAddr t x y,ty,p,af,g⟩ ρ s (.pointer (some ⟨bk,o,none⟩)):=by
 obtain⟨K,rfl,O⟩:=Gd O;have Y:K<xs.length:=(List.getElem?_eq_some_iff.1 O).1;obtain⟨av,⟨rfl,_⟩ | ⟨bk,off,rfl,Z⟩⟩:=U
 ·simp at Y
 obtain⟨ws,ac,ag⟩:=Z K xv O;refine⟨bk,off+K*pp.n,ws,ac,ag,λ{s ρ x y d t ty e p af g kd} al am ap aq=>?_⟩;have:=Mx (P:=P) (s:=s) (d:=d) (ty:=ty) (p:=p) (af:=af) (g:=g) al am ap aq ⟨by omega,by omega⟩;rw [Ed rfl] at this;simpa using this
open Go Go.Conc Go.Proofs
variable {E:LH}
variable {J:Judge Tryz.prog}
def Nf(fu_:Nat)(p0:Nat)(K:Int)(p2:Int):Option (Nat):=
 (f106 fu_ K p2).bind λO=>
 (O3 p0 O).bind λU=>
 some U
theorem dR{p0:Nat}{K:Int}{p2:Int}{fu_:Nat}{r:Nat}(O:Nf fu_ p0 K p2=some r):AK J 91 [.int .u32 ((p0:Nat):Int),iV K,iV p2] E [] (λw E' B'=>w= .int .u32 ((r:Nat):Int)/\B'= []):=by
 refine Bi Tryz.func91 λQ av cs H U Y=>?_;unfold Nf at O;obtain⟨aw,Z,ac⟩:=bs O;refine C 9 V (Cs (Ve Z) V V (A1 Tryz.func88 V) U λay ag al=>?_);obtain⟨am,ap,aq⟩:=bs ac;refine Am (v:= .int .u32 ((am:Nat):Int)) V (λρ h=>ZG (h _ _ V) (h _ _ V) ap) (C 2 V ?_);obtain rfl:=oi aq;exact AS Tryz.func91 V V (Y ag V ⟨V,V⟩ al)
def Ov(fu_:Nat)(p0:AZ)(U:Ax)(K:(List Int)×Nat×Int):Option (Bn ((List Int)×Nat×Int) (((Option Int))⊕((List Int)))):=
 if K.2.2<((U).length:Int) then(
  (ix U (K.2.2)).bind λO=>
  (f86 fu_ O ((p0.1).length:Int) 72).bind λY=>
  if Y≠0 then(
   some (.done (Sum.inl (some (Y))))
  ) else(
   (f136 fu_ K.2.1 O.1 O.2.1).bind λZ=>
   if Z=true then(
    some (.done (Sum.inl (some (4))))
   ) else(
    (Nf fu_ K.2.1 O.1 O.2.1).bind λac=>
    (f204 fu_ K.1 O).bind λag=>
    (Au (K.2.2+1)).bind λal=>
    some (.more (ag,ac,al))
   )
  )
 ) else(
  some (.done (Sum.inr K.1))
 )
def Nh(fu_:Nat)(p0:AZ)(K:Ax):Option ((Option Int)):=
 if 8<((K).length:Int) then(
  some (some (6))
 ) else(
  (f84 fu_ p0).bind λO=>
  Option.bind (iter (Ov fu_ p0 K) fu_ (O,0,0)) λU=>
  Sum.elim (λr=>some r) (λY=>
  if Y≠(List.replicate 5 (0:Int)) then(
   some (some (9))
  ) else(
   some none
  )
  ) U
 )
theorem et{a1:An}{c2:Nat}{b2:An}{b3:Nat}{be:An}{bi:Nat}{p0:AZ}{aw:Ax}(c0:Al (rL rI) E a1 c2 (p0.1))(c1:Al Aw E b2 b3 (p0.2))(c3:Al Aw E be bi (aw)){fu_:Nat}{r:(Option Int)}(b4:Nh fu_ p0 aw=some r):AK J 59 [.agg #[.slice a1 (p0.1).length c2,.slice b2 (p0.2).length b3],.slice be (aw).length bi] E [] (λw E' B'=>∃(b5:Value),w=b5/\B'= []/\Mf 128 b5 (r)):=by
 refine Bi Tryz.func59 λQ gV cs H c4 ay=>?_;unfold Nh at b4;refine C 2 V (Dp c4 λc5 gW U b6 ca=>?_);refine C 6 V (JL.ln Tryz.underlying26 V V V ?_);refine C 2 V (AU b4 (λc6 c7=>?_) (λc6 c8=>?_))
 ·refine C 2 V (Am (v:= .agg #[iV 6]) V (λρ h=>CZ [(0,1)] h Ly Tryz.underlying128 ⟨V,AM Tryz.type30,trivial⟩ V V) ?_);refine Am (v:= .iface 128 (.agg #[iV 6])) V (λρ h=>JD Tryz.underlying128 (λ_ h=>by cases h) (h _ _ V)) (C 2 V ?_);obtain rfl:=oi c7;exact AS Tryz.func59 V V (ay U V ⟨.iface 128 (.agg #[iV 6]),V,V,V⟩ ca)
 ·refine C 7 V (B4 b6 FI Du V V ?_);obtain⟨gX,c9,dd⟩:=bs c8;refine BY (M5 (c0.Ag U) (c1.Ag U) c9) V V Mk ca ?_;rintro _ az _ al ⟨bn,rfl,rfl,a0⟩ dn;refine BQ dn HY λa2 ea=>?_;refine Gb (v:= .agg bn.toArray) (l:= []) (ws:=(List.replicate 5 (iV 0):Lv_)) (us:=bn) (o:=0) 3 V V V ea V V V (by rw [BI (kk:=5) (pp:=rI) a0];exact AM Tryz.type82) ((rA 5 rI).one a0) V (by rw [BI (kk:=5) (pp:=rI) a0,BI (kk:=5) (pp:=rI) (ES (E:=az) (pp:=rI) rfl)];omega) λcc=>?_;rw [H4 (by rw [BI (kk:=5) (pp:=rI) a0,BI (kk:=5) (pp:=rI) (ES (E:=az) (pp:=rI) rfl)])] at cc ⊢;refine C 5 V (JL.ln Tryz.underlying26 V V V ?_);obtain⟨ce,eb,bo⟩:=bs dd;refine C 2 V (Bt (λL s=>∃(a3:(List Int)) (am:LH) (a4:Lv_),ce=Sum.inr a3/\Jn az H am [[(a2,.cells (([]:Lv_)++a4).toArray 82 (0,0))]] [(6,.pointer (some ⟨a2,0,none⟩))] L s ((rA 5 rI).r am a4 (a3))) ?_ ?_)
  ·rintro _ _ ⟨a3,am,a4,rfl,rfl,rfl,ci,bv,co⟩;have ec:=elim_inr bo;refine C 3 V (Am (v:= .agg a4.toArray) V (λρ h=>Gs (kk:=5) (pp:=rI) co GM G6 (h _ _ V) (GQ (l:= []) 0 bv V)) ?_);refine Am (v:= .agg (List.replicate 5 (iV 0):Lv_).toArray) V (λρ h=>N5 Tryz.underlying82 HY Ay V) (Am (v:= .bool (decide (a3≠(List.replicate 5 (0:Int))))) V (λρ h=>QE (E:=am) (E':=am) (ws:=a4) (ws':=(List.replicate 5 (iV 0):Lv_)) (a:=a3) (b:=(List.replicate 5 (0:Int))) Q3 (by decide) (by decide+kernel) co (ES (E:=am) (pp:=rI) V) (h _ _ V) (h _ _ V)) ?_);refine JL.done (AU ec (λed ee=>?_) (λed ef=>?_))
   ·refine C 2 V (Am (v:= .agg #[iV 9]) V (λρ h=>CZ [(0,1)] h Ly Tryz.underlying128 ⟨V,AM Tryz.type30,trivial⟩ V V) ?_);refine Am (v:= .iface 128 (.agg #[iV 9])) V (λρ h=>JD Tryz.underlying128 (λ_ h=>by cases h) (h _ _ V)) (C 2 V ?_);refine JS.drop 0 bv V λeg=>?_;obtain rfl:=oi ee;exact AS Tryz.func59 V V (ay ((U.trans al).trans ci) V ⟨.iface 128 (.agg #[iV 9]),V,V,V⟩ eg)
   ·refine C 5 V (JS.drop 0 bv V λej=>?_);obtain rfl:=oi ef;exact AS Tryz.func59 V V (ay ((U.trans al).trans ci) V ⟨.nilIface,V,V,V⟩ ej)
  ·intro ek;refine JL.block (Cw eb (λL s Z=>∃(a9:LH) (ap:Lv_),Jn az H a9 [[(a2,.cells (([]:Lv_)++ap).toArray 82 (0,0))]] [(2,.pointer (some ⟨c5,0,none⟩)),(5,.int .u32 ((Z.2.1:Nat):Int)),(6,.pointer (some ⟨a2,0,none⟩)),(17,.slice be (aw).length bi),(18,iV ((aw).length:Int)),(19,iV Z.2.2)] L s ((rA 5 rI).r a9 ap (Z.1))) ⟨az,bn,V,V,(Le.refl _),cc,a0⟩ ?_);rintro _ _ Z ⟨a9,ap,rfl,rfl,aq,cp,a5⟩ bw ⟨gY,a6⟩ el;have ct:=a6;unfold Ov at ct;refine C 5 V (AU ct (λem eo=>?_) (λem ep=>?_))
   ·obtain⟨a7,er,eu⟩:=bs eo;refine C 5 V (JS.ix (c3.Ag ((U.trans al).trans aq)) er Tryz.underlying26 Bg ?_);rintro gZ g0 _ ⟨_,_,rfl,rfl,⟨_,_,rfl,rfl,rfl⟩⟩ ew;refine B4 ew DO Bg V V (BQ cp BP λg1 ex=>?_);refine BJ 1 ex Bg λey=>?_;refine Cu 1 ey V λg3 Y av eA=>C 4 V (B4 av DO Bg V V ?_);refine JL.fd Tryz.underlying78 CV V V V (B5 0 (b6.Ag ((al.trans aq).trans Y)) Tryz.underlying28 Fo Fy ?_);refine JL.ln Tryz.underlying25 V V V ?_;obtain⟨bx,eC,eN⟩:=bs eu;refine Cs (VN eC) V V (A1 Tryz.func84 V) eA λg4 K cw=>C 7 V (AU eN (λe0 e1=>?_) (λe0 e3=>?_))
    ·refine C 3 V (Am (v:= .agg #[iV bx]) V (λρ h=>CZ [(0,1)] h Ly Tryz.underlying128 ⟨V,AM Tryz.type30,trivial⟩ V V) ?_);refine Am (v:= .iface 128 (.agg #[iV bx])) V (λρ h=>JD Tryz.underlying128 (λ_ h=>by cases h) (h _ _ V)) (C 2 V ?_);refine JS.drop 0 cw V λe4=>?_;obtain rfl:=oi e1;obtain rfl:=bw _ a6;have e5:=elim_inl bo;obtain rfl:=oi e5;exact AS Tryz.func59 V V (ay ((((U.trans al).trans aq).trans Y).trans K) V ⟨.iface 128 (.agg #[iV bx]),V,V,V⟩ e4)
    ·refine C 5 V (B5 0 (av.Ag K) Tryz.underlying42 Ay A3 ?_);refine B5 1 (av.Ag K) Tryz.underlying42 Ay A3 ?_;obtain⟨g5,e6,e7⟩:=bs e3;refine Cs (Vf e6) V V (A1 Tryz.func90 V) cw λg6 O ac=>JL.done (Cx e7 (λe8 ff=>?_) (λe8 fk=>?_))
     ·refine C 2 V (Am (v:= .agg #[iV 4]) V (λρ h=>CZ [(0,1)] h Ly Tryz.underlying128 ⟨V,AM Tryz.type30,trivial⟩ V V) ?_);refine Am (v:= .iface 128 (.agg #[iV 4])) V (λρ h=>JD Tryz.underlying128 (λ_ h=>by cases h) (h _ _ V)) (C 2 V ?_);refine JS.drop 0 ac V λfl=>?_;obtain rfl:=oi ff;obtain rfl:=bw _ a6;have fm:=elim_inl bo;obtain rfl:=oi fm;exact AS Tryz.func59 V V (ay (((((U.trans al).trans aq).trans Y).trans K).trans O) V ⟨.iface 128 (.agg #[iV 4]),V,V,V⟩ fl)
     ·refine JL.skip (Fs 8 [a2] ⟨⟨0,_,V⟩,trivial⟩ ac λag=>?_);refine Di 0 ag V V (JG.fd 1 ag Tryz.underlying42 Ay V V V V ?_);refine JG.lp 2 ag 0 (av.Ag (K.trans O)) ac ⟨⟨0,_,V⟩,trivial⟩ A3 ?_;refine JG.fd 3 ag Tryz.underlying42 Ay V V V V (JG.lp 4 ag 1 (av.Ag (K.trans O)) ac ⟨⟨0,_,V⟩,trivial⟩ A3 ?_);refine AL (v:= .agg ap.toArray) 6 ag V V (λρ h s' bz=>Gs (kk:=5) (pp:=rI) (Rp.Ag _ ((Y.trans K).trans O) a5) GM G6 (h _ _ V) (Tj (l:= []) 0 ac V (by simp [AA]) bz)) (AL 7 ag V V (λρ h s' bz=>IE (vs:= [iV a7.1,iV a7.2.1,iV a7.2.2]) DO Bg (h _ _ V) (At.OF (av.Ag (K.trans O)) (V0 ac bz ⟨⟨0,_,V⟩,trivial⟩))) ?_);obtain⟨fo,fs,fv⟩:=bs fk;refine YR (i:=5) ⟨⟨0,_,V⟩,trivial⟩ (vs:= [.int .u32 ((Z.2.1:Nat):Int),iV a7.1,iV a7.2.1]) (dR fs) (by decide+kernel) V V V (A1 Tryz.func91 V) V ac ?_;rintro _ g7 _ bb ⟨rfl,rfl⟩ fw;refine Dl [8,9,10] ?_;obtain⟨fN,gc,ge⟩:=bs fv;refine BY (Ie (Rp.Ag _ (((Y.trans K).trans O).trans bb) a5) gc) V V HW fw ?_;rintro _ gg _ b0 ⟨b1,rfl,rfl,a8⟩ gh;refine C 1 V (Gb (v:= .agg b1.toArray) (l:= []) (ws:=ap) (us:=b1) (o:=0) 0 V V V gh V V V (by rw [BI (kk:=5) (pp:=rI) a8];exact AM Tryz.type82) ((rA 5 rI).one a8) V (by rw [BI (kk:=5) (pp:=rI) a8,BI (kk:=5) (pp:=rI) (Rp.Ag _ ((((Y.trans K).trans O).trans bb).trans b0) a5)];omega) λcy=>?_);rw [H4 (by rw [BI (kk:=5) (pp:=rI) a8,BI (kk:=5) (pp:=rI) (Rp.Ag _ ((((Y.trans K).trans O).trans bb).trans b0) a5)])] at cy ⊢;obtain⟨gl,gt,gE⟩:=bs ge;refine C 3 V (Bq gt V V V ?_);refine C 2 V ?_;obtain rfl:=oi gE;exact AB (el _ _ (fN,fo,gl) ⟨gg,b1,V,V,(((((aq.trans Y).trans K).trans O).trans bb).trans b0),cy,a8⟩ a6) V
   ·refine JL.exit V ?_;obtain rfl:=oi ep;have gO:ce=(Sum.inr Z.1):=(bw _ a6).symm;exact AB (ek _ _ ⟨Z.1,a9,ap,gO,V,V,aq,cp,a5⟩) V
def Rz(fu_:Nat):Option (Bool):=
 some false
theorem dx{O:Value}{fu_:Nat}{r:Bool}(K:Rz fu_=some r):AK J 89 [.nilIface,O] E [] (λw E' B'=>w= .bool r/\B'= []):=by
 refine Bi Tryz.func89 λQ Z cs H U Y=>?_;unfold Rz at K;refine C 8 V ?_;refine Am (v:= .bool true) V (λρ h=>SF Tryz.underlying88 (show Mf 0 .nilIface none from V) (h _ _ V) (h _ _ V)) (C 6 V ?_);obtain rfl:=oi K;exact AS Tryz.func89 V V (Y (Le.refl _) V ⟨V,V⟩ U)
def Pt(fu_:Nat):Option (Int):=
 (Rz fu_).bind λK=>
 if K=true then(
  some 0
 ) else(
  some 0
 )
theorem cI{fu_:Nat}{r:Int}(O:Pt fu_=some r):AK J 58 [.nilIface] E [] (λw E' B'=>w=iV r/\B'= []):=by
 refine Bi Tryz.func58 λQ ay cs H Z U=>?_;unfold Pt at O;refine C 6 V (BQ Z Ly λr1 ac=>?_);refine C 5 V (Am (v:=(.iface 130 (.pointer (some ⟨r1,0,none⟩)))) V (λρ h=>JD Tryz.underlying130 (λ_ h=>by cases h) (h _ _ V)) ?_);obtain⟨az,ag,al⟩:=bs O;refine Cs (dx ag) V V (A1 Tryz.func89 V) ac λa0 Y K=>JL.done (Cx al (λam ap=>?_) (λam aq=>?_))
 ·refine C 2 V (JL.fd Tryz.underlying128 (AM Tryz.type30) V V V ?_);refine Am (v:=iV 0) V (λρ h=>Yl.load (Cm Tryz.underlying30) (h _ _ V) (BV (j:=1) (off:=0) K V V)) (C 2 V ?_);refine JS.drop 1 K V λav=>?_;obtain rfl:=oi ap;exact AS Tryz.func58 V V (U Y V ⟨V,V⟩ av)
 ·refine C 5 V (JS.drop 1 K V λaw=>?_);obtain rfl:=oi aq;exact AS Tryz.func58 V V (U Y V ⟨V,V⟩ aw)
open Go.Extern
def Q1(b:Frame)(n:Nat):Nat->Li_->Env->Li_×Env
 | 0,k,L=>(k,L)
 | m+1,k,L=>match Pf b n L k with
  | some (k',L')=>Q1 b n m k' L'
  | none=>(k,L)
theorem zm{P:Program}{J:Judge P}{Q:Gs_}{b:Frame}{n:Nat}{ds:Ld_}{cs:Lf_}{s:St}:∀(m:Nat) {L L':Env} {k k':Li_},Q1 b n m k L=(k',L')->JL J Q b n L' ds k' cs s->JL J Q b n L ds k cs s
 | 0,L,L',k,k',h,K=>by cases h;exact K
 | m+1,L,L',k,k',h,K=>by
  unfold Q1 at h
  split at h
  ·rename_i e;exact Vb e (zm m h K)
  ·cases h;exact K
theorem Tt{E H:LH}{S:List Seg}{r:Nat}{o:Obj}(K:Aq E H S)(O:(Ak E H S).E r=none)(U:(Ak E H S).H r=none):Aq E H (S++ [[(r,o)]])/\(Ak E H S).upd r o=Ak E H (S++ [[(r,o)]]):=by
 obtain⟨a,b⟩:=Kk O U o K;obtain⟨c,d⟩:=FJ a;exact⟨d,b.trans c⟩
theorem eP{s:St}{X:Halt->St->Prop}{Q:Value->St->Prop}{o:Operand}(p:Addr):lp Tryz.prog (do eqGuard .eql 20 o (.const .nilIface) (.iface 130 (.pointer (some p))) .nilIface;binOp .eql 20 (.iface 130 (.pointer (some p))) .nilIface) s Q X=Q (.bool false) s:=by kernel_rfl
theorem YL{s:St}{ρ:Operand->Value}{d:Option Tmp}{x:Operand}{u ty:TypeId}{p:String}{af:Ae_}{g:On_}{a:Addr}(K:ρ x= .iface 130 (.pointer (some a)))(O:ρ (.const .nilIface)= .nilIface):Yl Tryz.prog ⟨d,.binOp .eql 20 x (.const .nilIface) u,ty,p,af,g⟩ ρ s (.bool false):=by
 refine Fz (sm:=do eqGuard .eql 20 x (.const .nilIface) (ρ x) (ρ (.const .nilIface));binOp .eql 20 (ρ x) (ρ (.const .nilIface))) V ?_
 rw [K,O];exact(eP a).mpr ⟨V,V⟩
theorem Wk(z:Sem Value)(f:TypeId->Addr->Nat->Nat->Sem Value)(v:Value):ReflectliteValue.method z f #[v]=Sem.bind (ReflectliteValue.parts v) (λx=>match x with | none=>z | some (t,a,K)=>f t a K (K % 32)):=rfl
theorem YC{s:St}{X:Halt->St->Prop}{Q:Value->St->Prop}(a p:Addr)(K:s.cell? a=some (.pointer (some p)))(h:Q (.bool false) s):lp Tryz.prog (ReflectliteValue.method (ReflectliteValue.valueError "reflectlite.Value.IsNil" 0) ReflectliteValue.isNil #[.agg #[Fw 130,.pointer (some a),.int .u64 150]]) s Q X:=by
 rw [Wk];refine As (x:=ReflectliteValue.parts _) _ ((SL a).mpr ?_);show lp Tryz.prog (Sem.bind (loadVar 130 a) _) s Q X;exact As (x:=loadVar 130 a) _ ((Tq a).mpr ⟨V,_,K,h⟩)
theorem Yf{s:St}{X:Halt->St->Prop}{Q:Value->St->Prop}(a p:Addr)(K:s.cell? a=some (.pointer (some p)))(h:Q (.agg #[Fw 128,.pointer (some p),.int .u64 409]) s):lp Tryz.prog (ReflectliteValue.method (ReflectliteValue.valueError "reflectlite.Value.Elem" 0) ReflectliteValue.elem #[.agg #[Fw 130,.pointer (some a),.int .u64 150]]) s Q X:=by
 rw [Wk];refine As (x:=ReflectliteValue.parts _) _ ((SL a).mpr ?_);show lp Tryz.prog (Sem.bind (loadVar 130 a) _) s Q X;refine As (x:=loadVar 130 a) _ ((Tq a).mpr ⟨V,_,K,?_⟩);refine As (x:=Rtype.elem? 130) _ (bG.mpr ?_);exact(ck p).mpr h
theorem gM(v x:Value):ReflectliteValue.set #[v,x]=(do
  let (some (dst,a,K),some (src,b,_)):=(← ReflectliteValue.parts v,← ReflectliteValue.parts x)
   | unsupported (.noEntry "extern/(internal/reflectlite.Value).Set.zeroValue")
  if K / ReflectliteValue.flagAddr % 2==0 then unsupported (.noEntry "extern/(internal/reflectlite.Value).Set.unaddressable")
  let val ← loadVar src b
  if ← Rtype.directlyAssignable dst src then storeVar dst a val
  else if ← Rtype.implements dst src then
   if(← Rtype.kind src)==20 then
    match val with
    | .nilIface=>unsupported (.noEntry "extern/reflectlite: a nil value of one interface type handed on as a value of another")
    | _=>storeVar dst a val
   else storeVar dst a (.iface src val)
  else panicString ("reflectlite.Set: value of type " ++(← Rtype.spelt src)++ " is not assignable to type " ++(← Rtype.spelt dst))
  pure (.tuple #[])):=rfl
theorem bM{E H:LH}{S:List Seg}{X:Halt->St->Prop}{Q:Value->St->Prop}{bk r:Nat}{u:Value}{c:Int}(j:Nat)(U:Aq E H S)(K:S[j]? =some [(bk,.cells #[u] 128 (0,0))])(Y:At E r 0 [iV c])(h:Aq E H (S.set j [(bk,.cells #[iV c] 128 (0,0))])->Q (.tuple #[]) (Ak E H (S.set j [(bk,.cells #[iV c] 128 (0,0))]))):
  lp Tryz.prog (ReflectliteValue.set #[.agg #[Fw 128,.pointer (some ⟨bk,0,none⟩),.int .u64 409],.agg #[Fw 128,.pointer (some ⟨r,0,none⟩),.int .u64 153]]) (Ak E H S) Q X:=by
 rw [gM];refine As (x:=ReflectliteValue.parts _) _ ((Xz _).mpr ?_);refine As (x:=ReflectliteValue.parts _) _ ((XQ _).mpr ?_);refine As (x:=loadVar 128 _) _ ((YN _).mpr ⟨V,_,At.JV (j:=0) Y V,?_⟩);refine As (x:=Rtype.directlyAssignable 128 128) _ (bK.mpr ?_);refine As (x:=storeVar 128 _ _) _ ?_;obtain⟨Z,ac⟩:=Ha U K;rw [Z];refine PU (pl:=(S.set j []).flatten.length) (AM Tryz.type128) (by simp [Value.cells,CP]) ac (c:= #[u]) (e:=128) (by simp) (by simp [Value.cells]) λO=>?_;have ag:((S.set j []).flatten++ [(bk,Obj.cells #[u] 128 (0,0))]).set (S.set j []).flatten.length (bk,.cells (Bd #[u] 0 (Value.agg #[iV c]).cells.toList) 128 (0,0))=(S.set j []).flatten++ [(bk,.cells #[iV c] 128 (0,0))]:=I7 _ _ _ _;rw [ag] at O ⊢;obtain⟨al,am⟩:=Jb (seg':= [(bk,.cells #[iV c] 128 (0,0))]) K O;rw [al];exact h am
variable {J:Judge Tryz.prog}
theorem fj{c:Int}{bk r:Nat}{u:Value}(O:At E r 0 [.pointer (some ⟨bk,0,none⟩)]):AK J 119 [.iface 128 (.agg #[iV c]),.iface 130 (.pointer (some ⟨bk,0,none⟩)),.agg #[Fw 130,.pointer (some ⟨r,0,none⟩),.int .u64 150],J0 128] E [(bk,.cells #[u] 128 (0,0))] (λv E' B'=>v= .bool true/\B'= [(bk,.cells #[iV c] 128 (0,0))]):=by
 refine LX Tryz.func119 V V λQ a0 cs H U Y=>zm 60 V (JS.box (v:= .agg #[Fw 130,.pointer (some ⟨r,0,none⟩),.int .u64 150]) V V V U V λr2 Z=>?_);refine Cu 1 Z V λa1 K ac ag=>zm 60 V (IC ?_);refine zm 60 V (K9 dp V V V V ?_);refine(Xx _).mpr ?_;refine zm 60 V (M7 cO (fM _) V V V V V ?_);refine ZV.mpr (zm 60 V ?_);refine B4 ac NB Mn V V (K9 eZ V V V V ?_);refine Yf ⟨r,0,none⟩ ⟨bk,0,none⟩ (At.JV (j:=0) (O.Ag K) V) (zm 60 V ?_);refine K9 Vj V V V V ?_;refine(WZ c).mpr ⟨V,λr3 al am=>?_⟩;obtain⟨ap,aq⟩:=Tt (o:= .cells #[iV c] 128 (0,0)) ag al am;rw [aq];refine Cu 2 ap V λa2 av aw ay=>K9 eT V V V V (bM 0 ay V aw λaz=>?_);refine zm 60 V (AS Tryz.func119 V V ?_);exact Y _ _ _ _ (K.trans av) V ⟨V,V⟩ az
theorem dK{c:Int}{bk:Nat}{u:Value}(Z:At E 0 0 [J0 88]):AK J 89 [.iface 128 (.agg #[iV c]),.iface 130 (.pointer (some ⟨bk,0,none⟩))] E [(bk,.cells #[u] 128 (0,0))] (λv E' B'=>v= .bool true/\B'= [(bk,.cells #[iV c] 128 (0,0))]):=by
 refine LX Tryz.func89 V V λQ a2 cs H ac ag=>zm 60 V ?_;refine Am (v:= .bool false) V (λρ h=>SF Tryz.underlying88 (show Mf 128 (.iface 128 (.agg #[iV c])) (some c) from V) (h _ _ V) (h _ _ V)) (zm 60 V ?_);refine Am V (λρ h=>YL (h _ _ V) (h _ _ V)) (zm 60 V ?_);refine K9 Vj V V V V ?_;refine(W4 _).mpr ⟨V,λr al am=>?_⟩;obtain⟨ap,aq⟩:=Tt (o:= .cells #[.pointer (some ⟨bk,0,none⟩)] 130 (0,0)) ac al am;rw [aq];refine JS.alloc V V V ap (C8 Tryz.type177) λr2 av=>V1 (v:= .agg #[Fw 130,.pointer (some ⟨r,0,none⟩),.int .u64 150]) (off:=0) 2 av Mn V V V V λaw=>zm 60 V (Cu 1 aw V λa3 U Y ay=>?_);refine Cu 2 ay V λa4 K O az=>B4 O NB Mn V V (K9 cf V V V V ?_);refine(ZL _).mpr ?_;refine zm 60 V (M7 Vh (U8 _) V V V V V ?_);refine Zy.mpr (zm 60 V ?_);refine B4 (O) NB Mn V V (K9 cZ V V V V ?_);refine YC ⟨r,0,none⟩ ⟨bk,0,none⟩ (At.JV (j:=0) (Y.Ag K) V) (zm 60 V ?_);refine M7 dw (cE _) V V V V V (YT.mpr ?_);refine zm 60 V (M7 Vh (U8 _) V V V V V ?_);refine YY.mpr (zm 60 V ?_);refine Cy 0 (Z.Ag (U.trans K)) (Cm Tryz.underlying180) V V V (M7 dU (dO _) V V V V V ?_);refine ZI.mpr (zm 60 V ?_);refine Am (v:= .bool (!true)) V (λρ h=>Yl.not (h _ _ V)) (zm 60 V ?_);refine B4 (O) NB Mn V V (zm 60 V ?_);refine Ch 0 (fj (Y.Ag K)) V V (A1 Tryz.func119 V) az V ?_;rintro _ a5 _ a0 ⟨rfl,rfl⟩ a1;refine zm 60 V (AS Tryz.func89 V V ?_);exact ag _ _ _ _ ((U.trans K).trans a0) V ⟨V,V⟩ a1
theorem YI{c:Int}(K:At E 0 0 [J0 88]):AK J 58 [.iface 128 (.agg #[iV c])] E [] (λv E' B'=>v=iV c/\B'= []):=by
 refine LX Tryz.func58 V V λQ ap cs H O U=>zm 60 V (JS.alloc V V V O Ly λr1 Y=>?_);refine zm 60 V (Am V (λρ h=>JD Tryz.underlying130 (λms e=>by cases e) (h _ _ V)) ?_);refine Ch 1 (dK (u:=iV 0) K) V V (A1 Tryz.func89 V) Y V ?_;rintro _ aq _ Z ⟨rfl,rfl⟩ ac;refine Cu 1 ac V λav ag al am=>zm 60 V (JL.fd Tryz.underlying128 (AM Tryz.type30) V V V ?_);refine Cy 0 al (Cm Tryz.underlying30) V V V (zm 60 V ?_);exact AS Tryz.func58 V V (U _ _ _ _ (Z.trans ag) V ⟨V,V⟩ am)
abbrev GE(E:LH):Prop:=At E 0 0 [J0 88]
def V2(fuel:Nat)(p0:Option Int):Option Int:=match p0 with
 | none=>Pt fuel
 | some q=>some q
theorem bQ{v:Value}{p0:Option Int}(O:GE E)(h:Mf 128 v p0){fuel:Nat}{r:Int}(K:V2 fuel p0=some r):AK J 58 [v] E [] (λw E' B'=>w=iV r/\B'= []):=by
 match p0,h with
 | none,h=>obtain rfl:v= .nilIface:=h;exact cI K
 | some c,h=>
  obtain rfl:v= .iface 128 (.agg #[iV c]):=h;cases K;exact YI O
end Pal
namespace Pal
open Go Go.Conc Go.Proofs Go.ChangeShapes Go.WideShapes Go.ChangeAt Go.RowKit
open Go.Proofs.YtmeophcclkejkaaGreatDoor
theorem Tryz.own:ownKnob Tryz.prog.godebug=none:=by kernel_rfl
theorem Tryz.laidOut:laidOutB Tryz.prog=true:=by kernel_rfl
theorem Tryz.cm:Tryz.prog.cellsOf 3=1:=by kernel_rfl
theorem WY{R:Value->St->Prop}{W w':World}{v:Value}(h:After Tryz.prog R W (GG W) v w'):(∃s,R v s)/\Below W.heap.size W {w' with os:=W.os}/\Go.ConcM.OsLater W.os w'.os:=by
 obtain⟨s,Y,Z,ac,ag,al,am⟩:=h;have hb:∀k,k<W.heap.size->w'.heap[k]? =W.heap[k]? :=λk O=>by
  have K:(GG W).E k=some W.heap[k]:=Array.getElem?_eq_getElem O;have U:=Z.e k _ (ac k _ K);rw [U,Array.getElem?_eq_getElem O]
 refine⟨⟨s,Y⟩,⟨V,ag,am,?_,hb⟩,al⟩;show W.heap.size<=w'.heap.size;rcases Nat.eq_zero_or_pos W.heap.size with ap | ap
 ·omega
 ·have K:=hb (W.heap.size - 1) (by omega);have aq:W.heap[W.heap.size - 1]? =some W.heap[W.heap.size - 1]:=Array.getElem?_eq_getElem (by omega);rw [aq] at K;have U:=(Array.getElem?_eq_some_iff.1 K).1;omega
theorem S6(a:Addr):a.add 0=a:=by unfold Addr.add;rw [if_pos rfl]
variable {H:Type}{enc:TypeId×Value->H}{W:World}{fuel:Nat}{cs:Lv_}
section
variable {x:DataW H×List MemPlace}
theorem YP{b off:Nat}{v:Value}(h:W.cell? ⟨b,off,none⟩=some v):At (GG W).E b off [v]:=by
 unfold World.cell? at h;split at h
 ·rename_i c e f hW;simp only [Option.isSome_none,Bool.false_eq_true,if_false] at h;refine⟨c,e,f,hW,λj w K=>?_⟩
  match j,K with
  | 0,K=>simp at K;subst K;simpa using h
  | j+1,K=>simp at K
 ·cases h
theorem X7{b off:Nat}(O:0<cs.length)(h:∀j,j<cs.length->W.cell? ⟨b,off+j,none⟩=cs[j]?):At (GG W).E b off cs:=by
 have U:=h 0 O;rw [List.getElem?_eq_getElem O] at U;obtain⟨f,e,fr,Y,_⟩:=YP U;have hW:W.heap[b]? =some (.cells f e fr):=Y;refine⟨f,e,fr,Y,λj w Z=>?_⟩;have ac:=(List.getElem?_eq_some_iff.1 Z).1;have K:=h j ac;rw [Z] at K;unfold World.cell? at K;simp only [hW] at K;simpa using K
theorem bV{α:Type}{p:Rp α}{t e:TypeId}(a1:Tryz.prog.underlying t=some (.slice e))(a2:Tryz.prog.cellsOf e=p.n)(a3:0<p.n)
  (a4:∀n cs x,DataW.trod enc Tryz.prog W 0 (λ_=>true) true n e cs=some x->∃v,p.r (GG W).E cs v)
  (a5:DataW.trod enc Tryz.prog W 0 (λ_=>true) true fuel t cs=some x):∃(a:Option Addr) (c:Nat) (aq:List α),cs= [.slice a aq.length c]/\Al p (GG W).E a c aq:=by
 rcases DataW.trod_slice a1 a5 with⟨ac,a6⟩ | ⟨a,len,cap,elems,rest,n,_,ac,a6,_,a7,_,hlen,av,aw,_⟩
 ·exact⟨none,0,[],ac,Al.nil⟩
 ·rw [a2] at av aw;rcases Nat.eq_zero_or_pos cap with ay | ay
  ·have:len=0:=by omega
   subst this;subst ay;exact⟨some a,0,[],ac,Nat.le_refl _,.inl ⟨V,λ_ _=> .inr V⟩⟩
  ·have az:∀i,i<len->∃vs y,vs.length=p.n/\(∀j,j<p.n->W.cell? ((a.add (i*p.n)).add j)=vs[j]?)/\DataW.trod enc Tryz.prog W 0 (λ_=>true) true n e vs=some y:=λi hi=>by
    have K:=av i hi;rw [List.getElem?_eq_getElem (by omega)] at K;obtain⟨vs,al,Y⟩:=Option.bind_eq_some_iff.1 K;obtain⟨_,O,am⟩:=World.cells?_some al;exact⟨vs,_,O,am,Y⟩
   have ap:a.spot=none:=by
    have key:∀vs:Lv_,vs.length=p.n->(∀j,j<p.n->W.cell? ((a.add (0*p.n)).add j)=vs[j]?)->a.spot=none:=λvs ag U=>by
     have:=U 0 a3;rw [List.getElem?_eq_getElem (by omega),S6,Nat.zero_mul,S6] at this;exact World.cell?_spot this
    rcases Nat.eq_zero_or_pos len with K | K
    ·obtain⟨al,Y⟩:=aw V;have O:=Y 0 (by omega);rw [List.getElem?_eq_getElem (by omega)] at O;obtain⟨vs,am,_⟩:=Option.bind_eq_some_iff.1 O;obtain⟨_,ag,U⟩:=World.cells?_some am;rw [K] at U;exact key vs ag U
    ·obtain⟨vs,y,ag,U,_⟩:=az 0 K;exact key vs ag U
   have a0:∀i:Fin len,∃z:α,∃vs,p.r (GG W).E vs z/\At (GG W).E a.block (a.off+i*p.n) vs:=λi=>by
    obtain⟨vs,y,al,Y,O⟩:=az i i.2;obtain⟨z,Z⟩:=a4 _ _ _ O;refine⟨z,vs,Z,X7 (by omega) λj a8=>?_⟩;have:=Y j (by omega);rw [Ed ap,Ed rfl] at this;exact this
   refine⟨some a,cap,List.ofFn λi=>Classical.choose (a0 i),by simpa using ac,by simpa using a7,.inr ⟨a.block,a.off,?_,λi z Z=>?_⟩⟩
   ·obtain⟨b,o,s⟩:=a;simp only at ap;subst ap;rfl
   ·have hi:i<len:=by have:=(List.getElem?_eq_some_iff.1 Z).1;simpa using this
    simp [hi] at Z;have:=Classical.choose_spec (a0 ⟨i,hi⟩);rw [Z] at this;exact this
theorem ZW(h:DataW.trod enc Tryz.prog W 0 (λ_=>true) true fuel 3 cs=some x):∃z:Int,cs= [iV z]:=by
 obtain⟨n1,K,_⟩:=DataW.trod_int Tryz.underlying3 h;exact⟨n1,K⟩
theorem YM(O:DataW.trod enc Tryz.prog W 0 (λ_=>true) true fuel 22 cs=some x):∃(a:Option Addr) (c:Nat) (K:List Int),cs= [.slice a K.length c]/\Al rI (GG W).E a c K:=
 bV (p:=rI) Tryz.underlying22 Tryz.cm Nat.one_pos (λn cs x h=>by
  obtain⟨z,rfl⟩:=ZW h
  exact⟨z,rfl⟩) O
theorem ZK{v:Value}{O:Nat}{d:DataW H}{p:List MemPlace}(U:Value.okWide Tryz.prog W .any O 22 v)(hd:DataW.Trod enc Tryz.prog W 0 (λ_=>true) true 22 v d p):
  ∃(a:Option Addr) (c:Nat) (K:List Int),v= .slice a K.length c/\Al rI (GG W).E a c K:=by
 obtain⟨Z,len,cap,rfl⟩:=okWide_slice Tryz.underlying22 U;obtain⟨fuel,Y⟩:=hd;obtain⟨a,c,K,e,g⟩:=YM Y;simp [Value.cells] at e;obtain⟨rfl,rfl,rfl⟩:=e;exact⟨_,_,_,V,g⟩
end
noncomputable def S8(os:Os):World:=
 let w0:=World.holding Tryz.prog os ⟨#[],#[],[]⟩
 {w0 with heap:=w0.heap.modify 0 fun
   | .cells _ t frozen=> .cells #[.iface 222 (.agg #[.pointer (some ⟨1,88,none⟩)])] t frozen
   | o=>o}
theorem WH(os:Os)(args:Av_):laidMetH Tryz.prog [("errors.errorType",Rows.laid_errors_errorType)] ((S8 os).forCall (λ_ _=>0) ⟨#[],args,[]⟩).memory:=
 laidMetH_of_parts (laidMet_nil _ _) (by kernel_rfl)
theorem Tryz.au:Tryz.prog.globalNamed "errors.errorType" =some 0:=by kernel_rfl
theorem Tryz.dN:(Tryz.prog.cutTypes.find? (·.1== "internal/reflectlite.rtype")).map (·.2)=some 222:=by kernel_rfl
theorem Tryz.ZQ:Tryz.prog.globals.size=1:=by kernel_rfl
theorem Tryz.dj:(List.range Tryz.prog.types.size).all (λt=> !Tryz.prog.rowNamed t [101,114,114,111,114] || t==88)=true:=by kernel_rfl
theorem aD{W:World}(h:laidMetH Tryz.prog [("errors.errorType",Rows.laid_errors_errorType)] W.memory):GE (GG W).E:=by
 have U:=h.2 _ (List.mem_cons_self ..);obtain⟨name,u,ty,Y,Z,ac,ag,K⟩:=U;have al:name= [101,114,114,111,114]:=(Option.some.inj Y).symm;have e2:u=222:=Option.some.inj (Z.symm.trans Tryz.dN);subst al;subst e2;have am:ty=88:=by
  have:=List.all_eq_true.1 Tryz.dj ty (List.mem_range.2 ac);rw [ag] at this;simpa using this
 subst am;unfold World.var? at K;rw [Tryz.au] at K;simp only [Option.bind_some] at K;split at K
 ·rename_i c e f hW;simp only [Option.some.injEq] at K;subst K;refine⟨_,e,f,hW,λj w O=>?_⟩;have ap:typeHandle Tryz.prog 88= .pointer (some ⟨1,88,none⟩):=by unfold typeHandle;rw [Tryz.ZQ]
  rw [ap]
  match j,O with
  | 0,O=>simp at O;subst O;rfl
  | j+1,O=>simp at O
 ·cases K
theorem WO{H:Type}{enc:TypeId×Value->H}{C:Checked}{os:Os}{f:FuncId}{fn:Func}{s:ChangeSpec}{conds:List PathCond}{apart:Bool}{X:World->Av_->Prop}(w0:World)(args:Av_)(fuel:Nat)(O:w0.os=os)
  (U:(w0.forCall (λ_ _=>0) ⟨#[],args,[]⟩).variablesB C.prog=true)
  (Y:((w0.forCall (λ_ _=>0) ⟨#[],args,[]⟩).heap.toList.drop C.prog.globals.size).take ((begin C.prog (λ_ _=>0) default).world.heap.size - C.prog.globals.size)=
   (begin C.prog (λ_ _=>0) default).world.heap.toList.drop C.prog.globals.size)
  (K:Input.okWideB C.prog (w0.forCall (λ_ _=>0) ⟨#[],args,[]⟩) f ⟨#[],args,[]⟩=true)
  (Z:s.preB enc C.prog fn conds apart (w0.forCall (λ_ _=>0) ⟨#[],args,[]⟩).memory args fuel=true)
  (ac:s.sizedB enc C.prog fn apart (w0.forCall (λ_ _=>0) ⟨#[],args,[]⟩).memory args fuel=true)
  (ag:X (w0.forCall (λ_ _=>0) ⟨#[],args,[]⟩).memory args):
  ∃(w:World) (tape:Tape) (i:Input),w.os=os/\(w.forCall tape i).Shaped C.prog/\i.vars= []/\Input.okWide C.prog (w.forCall tape i) .any w.heap.size f i/\
   ((s.pre enc C.prog fn conds apart (w.forCall tape i).memory i.args/\X (w.forCall tape i).memory i.args)/\sizedMet enc C.prog fn (OpenSpec.ofChange s) apart (w.forCall tape i).memory i.args)/\({calm:=true}:Assume).holds C.prog (Go.lone (Frame.enter C.prog f i.args .normal) [] (w.forCall tape i)):=
 ⟨w0,λ_ _=>0,⟨#[],args,[]⟩,O,World.shaped_of_B U Y,(Input.okWide_of_okWideB (base:=0) K).1,(Input.okWide_of_okWideB K).2,⟨⟨ChangeSpec.pre_of_preB Z,ag⟩,sizedMet_of_sizedB ac⟩,by
  simp only [Assume.holds]
  exact⟨by simp,λ_ _ _ _=>rfl,by simp,by simp,by simp⟩⟩
end Pal
set_option autoImplicit false
open Go
namespace Pal
theorem Fi.gH{P:Program}{J:Judge P}{E:LH}{f:FuncId}{first vs:Lv_}{B:Seg}{R:Value->LH->Seg->Prop}(hb:DL P f=true)(h:AK J f (first++vs) E B R):Fi J (.func (.func f) first.toArray #[]) vs E B R:=λH K Q c cs O=>by
 simp only [Deferred.ofValue,bind,Sem.bind,pure,invoke]
 have e:first.toArray++vs.toArray++ #[]=(first++vs).toArray:=by simp
 rw [e];exact I5 hb (h H K Q c cs O)
open Go Go.Conc Go.Proofs Go.Proofs.Tryz
variable {E:LH}
variable {J:Judge Tryz.prog}
def OO(fu_:Nat)(p0:List Int)(K:Int×Int):Option (Bn (Int×Int) Int):= if K.2<(p0.length:Int) then((ix p0 K.2).bind λO=> (Au (K.2+1)).bind λU=> some (.more (max K.1 O,U))) else(some (.done K.1))
def f98(fu_:Nat)(p0:List Int):Option Int:= if(p0.length:Int)<1 then(none) else((ix p0 (0)).bind λK=> Option.bind (iter (OO fu_ p0) fu_ (K,1)) λO=> some O)
theorem VW{a1:An}{c2:Nat}{p0:List Int}(Y:Al rI E a1 c2 p0){fu_:Nat}{r:Int}(Z:f98 fu_ p0=some r):AK J 81 [sV a1 p0 c2] E [] (λw E' B'=>w=iV r/\B'= []):=by
 refine Bi func81 λQ bz cs H am ap=>?_;unfold f98 at Z;refine C 8 V (JL.ln underlying22 V V V ?_);refine C 2 V (AU Z (λc4 aq=>?_) (λc4 av=>?_))
 ·refine JL.region ?_;cases aq
 ·obtain⟨b0,aw,ay⟩:=bs av;refine C 4 V (JS.ix Y aw underlying22 Ay ?_);rintro b1 b2 _ rfl az;refine Cy 0 az A3 V V V ?_;obtain⟨a0,a2,a3⟩:=bs ay;refine C 7 V (EU [] [(3,iV a0)] (λb3 a4 a5=>?_) (λa6=>?_))
  ·refine C 5 V ?_;obtain rfl:=oi a3;exact AS func81 V V (ap a4 V ⟨V,V⟩ a5)
  ·refine JL.block (Ee a2 (λK=> []) (λK=> [(0,sV a1 p0 c2),(3,iV K.1),(4,iV K.2)]) AE am ?_);rintro K b4 O ac a7 ⟨b5,U⟩ a8;have ag:=U;unfold OO at ag;refine C 5 V (JL.ln underlying22 V V V ?_);refine C 2 V (AU ag (λa9 bb=>?_) (λa9 be=>?_))
   ·obtain⟨al,bi,bn⟩:=bs bb;refine C 7 V (JS.ix (Y.Ag O) bi underlying22 Ay ?_);rintro b6 ca _ rfl bo;refine Cy 0 bo A3 V V V (Am (v:=iV (max K.1 al)) V (λρ h=>Yl.max2 (h _ _ V) (h _ _ V)) ?_);obtain⟨bv,bw,bx⟩:=bs bn;refine C 5 V (Bq bw V V V ?_);refine C 2 V ?_;obtain rfl:=oi bx;exact a8 (max K.1 al,bv) O ac V U
   ·refine JL.exit V ?_;obtain rfl:=oi be;obtain rfl:=a7 _ U;exact a6 O ac V
def f97(fu_:Nat)(p0:List Int)(K:List Int):Option Bool:= (f98 fu_ p0).bind λO=> (f98 fu_ K).bind λU=> some (decide (U<O))
theorem fy{a1:An}{c2:Nat}{O:An}{U:Nat}{p0:List Int}{K:List Int}(ac:Al rI E a1 c2 p0)(ag:Al rI E O U K){fu_:Nat}{r:Bool}(Y:f97 fu_ p0 K=some r):AK J 80 [sV a1 p0 c2,sV O K U] E [] (λw E' B'=>w= .bool r/\B'= []):=by
 refine Bi func80 λQ a2 cs H al am=>?_;unfold f97 at Y;obtain⟨a3,ap,aq⟩:=bs Y;refine C 7 V (Cs (VW ac ap) V V (A1 func81 V) al λa4 Z av=>?_);obtain⟨a5,aw,ay⟩:=bs aq;refine C 1 V (Cs (VW (ag.Ag Z) aw) V V (A1 func81 V) av λa6 az a0=>?_);refine C 3 V ?_;obtain rfl:=oi ay;exact AS func80 V V (am (Z.Ad az) V ⟨V,V⟩ a0)
def f96(fu_:Nat)(p0:(List Int)×Bool)(K:List Int):Option (((List Int)×Bool)):= Option.bind (if(!p0.2)=true then(some true) else((f97 fu_ K p0.1).bind λO=> some O)) λU=> Option.bind (if U=true then(some (K,true)) else(some p0)) λY=> some Y
theorem fc{bk:Nat}{a1:An}{c2:Nat}{K:An}{O:Nat}{p0:(List Int)×Bool}{U:List Int}(aq:Al rI E a1 c2 p0.1)(av:Al rI E K O U){fu_:Nat}{r:((List Int)×Bool)}(aw:f96 fu_ p0 U=some r):AK J 79 [Aj bk 0,sV K U O,(fV 80)] E [(bk,.cells #[sV a1 p0.1 c2,.bool p0.2] 116 (0,0))] (λw E' B'=>∃(ay:An) (az:Nat),w= .tuple #[]/\B'= [(bk,.cells #[sV ay r.1 az,.bool r.2] 116 (0,0))]/\Al rI E' ay az r.1):=by
 refine Bi func79 λQ ca cs H Z a4=>?_;unfold f96 at aw;refine C 4 V (JL.fd underlying116 Kd V V V ?_);refine Am (v:= .bool p0.2) V (λρ h=>Yl.load NF (h _ _ V) (BV (j:=0) (off:=1) Z V V)) (Am (v:= .bool (!p0.2)) V (λρ h=>Yl.not (h _ _ V)) ?_);obtain⟨a5,a6,a7⟩:=bs aw;refine C 1 V (Hx [] (λL s=>∃(Y:LH),Jm E H Y [bX bk #[sV a1 p0.1 c2,.bool p0.2] 116] [(0,Aj bk 0),(1,sV K U O),(19,.bool a5)] L s) ?_ ?_)
 ·rintro _ _ ⟨Y,rfl,rfl,al,a0⟩;obtain⟨am,a8,a9⟩:=bs a7;refine JL.done (Bt (λL s=>∃(ap:LH) (ac:An) (ag:Nat),Jn Y H ap [bX bk #[sV ac am.1 ag,.bool am.2] 116] [] L s (Al rI ap ac ag am.1)) ?_ ?_)
  ·rintro _ _ ⟨ap,ac,ag,rfl,rfl,bb,be,bi⟩;obtain rfl:=oi a9;exact JL.fin (v:= .tuple #[]) V V (BE.list func79 V (vs:= []) trivial) (a4 (al.Ad bb) V ⟨ac,ag,V,V,bi⟩ be)
  ·intro a2;refine Cx a8 (λbn bo=>?_) (λbn bv=>?_)
   ·refine C 5 V (JL.fd underlying116 FU V V V ?_);refine BJ 0 a0 FU λbw=>?_;refine C 1 V (JL.fd underlying116 Kd V V V ?_);refine BJ 0 bw Kd λbx=>?_;refine JL.done ?_;obtain rfl:=oi bo;exact AB (a2 _ _ ⟨Y,K,O,V,V,AE,bx,(av.Ag al)⟩) V
   ·refine JL.skip ?_;obtain rfl:=oi bv;exact AB (a2 _ _ ⟨Y,a1,c2,V,V,AE,a0,(aq.Ag al)⟩) V
 ·intro a3;refine EA 11 a6 (λbz b0=>?_) (λbz b1=>?_)
  ·refine C 8 V ?_;obtain rfl:=oi b0;exact AB (a3 _ _ ⟨E,V,V,AE,Z⟩) V
  ·refine C 4 V (JL.fd underlying116 FU V V V ?_);refine Am (v:= sV a1 p0.1 c2) V (λρ h=>Yl.load Jy (h _ _ V) (BV (j:=0) (off:=0) Z V V)) ?_;obtain⟨cc,b2,b3⟩:=bs b1;refine K1 (vs:= [sV K U O,sV a1 p0.1 c2]) (fy av aq b2) V V V V (A1 func80 V) V Z ?_;rintro _ b4 _ b5 ⟨rfl,rfl⟩ b6;refine C 1 V ?_;obtain rfl:=oi b3;exact AB (a3 _ _ ⟨b4,V,V,b5,b6⟩) V
variable {J:Judge Tryz.prog}
def OM(fu_:Nat)(p0:List Int)(O:List Int)(p2:Int)(Z:AZ)(U:List Int)(rec:(List Int)->(List Int)->Int->AZ->((List Int)×Bool)->(List Int)->Option (((List Int)×Bool)))(ac:Int)(K:(List Int)×Bool×Int):Option (Bn ((List Int)×Bool×Int) ((List Int)×Bool)):= if K.2.2<ac then((ix O K.2.2).bind λag=> (ix U ((p0.length:Int))).bind λal=> (Au (ag+al)).bind λam=> (ix O K.2.2).bind λaw=> (Au (K.2.2+1)).bind λap=> (Ep p0 ([K.2.2]:List Int)).bind λaq=> (rec aq (O.set (Int.toNat K.2.2) am) (max p2 ap) Z (K.1,K.2.1) U).bind λY=> (Au (K.2.2+1)).bind λav=> some (.more (Y.1,Y.2,av))) else(some (.done (K.1,K.2.1)))
def La(rec:(List Int)->(List Int)->Int->AZ->((List Int)×Bool)->(List Int)->Option (((List Int)×Bool)))(fu_:Nat)(p0:List Int)(O:List Int)(p2:Int)(U:AZ)(K:(List Int)×Bool)(Y:List Int):Option (((List Int)×Bool)):= if(p0.length:Int)=(U.1.length:Int) then(Option.bind (if O=(List.replicate 5 (0:Int)) then((f96 fu_ K p0).bind λZ=> some Z) else(some K)) λac=> some ac) else((Au (p2+1)).bind λag=> Option.bind (iter (OM fu_ p0 O p2 U Y rec ag) fu_ (K.1,K.2,0)) λal=> some al)
theorem aS{J:Judge Tryz.prog}{rec:(List Int)->(List Int)->Int->AZ->((List Int)×Bool)->(List Int)->Option (((List Int)×Bool))}(ex:∀{E:LH} {a1:An} {c2:Nat} {w4:Lv_} {a2:Nat} {a3:Nat} {bo:An} {bv:Nat} {bw:An} {bx:Nat} {al:Nat} {bb:An} {be:Nat} {a4:Nat} {a5:Nat} {a6:Nat} {a7:Nat} {av:Nat} {aw:Nat} {bz:Lv_} {ay:Nat} {az:Nat} {p0:List Int} {a8:List Int} {p2:Int} {am:AZ} {a0:(List Int)×Bool} {b0:List Int} (b1:Al rI E a1 c2 p0) (Z:(rA 5 rI).r E w4 a8) (cw:At E a2 a3 [sV bo am.1 bv,sV bw am.2 bx]) (ec:Al (rL rI) E bo bv am.1) (ed:Al Aw E bw bx am.2) (b5:Al rI E bb be a0.1) (cy:At E a4 a5 [.func (.func 79) ([Aj al 0]:Lv_).toArray #[]]) (c0:At E a6 a7 [(fV 80)]) (c1:At E av aw (([]:Lv_)++bz)) (b6:(rA 5 rI).r E bz b0) (c3:At E ay az [.func (.func 82) #[] ([Aj a2 a3,Aj a4 a5,Aj a6 a7,Aj av aw,Aj ay az]:Lv_).toArray]) {r:((List Int)×Bool)} (c4:rec p0 a8 p2 am a0 b0=some r),AK J 82 [sV a1 p0 c2,.agg w4.toArray,iV p2,Aj a2 a3,Aj a4 a5,Aj a6 a7,Aj av aw,Aj ay az] E [(al,.cells #[sV bb a0.1 be,.bool a0.2] 116 (0,0))] (λw E' B'=>∃(b2:An) (b3:Nat),w= .tuple #[]/\B'= [(al,.cells #[sV b2 r.1 b3,.bool r.2] 116 (0,0))]/\Al rI E' b2 b3 r.1)){E:LH}{a1:An}{c2:Nat}{w4:Lv_}{a2:Nat}{a3:Nat}{bo:An}{bv:Nat}{bw:An}{bx:Nat}{al:Nat}{bb:An}{be:Nat}{a4:Nat}{a5:Nat}{a6:Nat}{a7:Nat}{av:Nat}{aw:Nat}{bz:Lv_}{ay:Nat}{az:Nat}{p0:List Int}{a8:List Int}{p2:Int}{am:AZ}{a0:(List Int)×Bool}{b0:List Int}(b1:Al rI E a1 c2 p0)(Z:(rA 5 rI).r E w4 a8)(cw:At E a2 a3 [sV bo am.1 bv,sV bw am.2 bx])(ec:Al (rL rI) E bo bv am.1)(ed:Al Aw E bw bx am.2)(b5:Al rI E bb be a0.1)(cy:At E a4 a5 [.func (.func 79) ([Aj al 0]:Lv_).toArray #[]])(c0:At E a6 a7 [(fV 80)])(c1:At E av aw (([]:Lv_)++bz))(b6:(rA 5 rI).r E bz b0)(c3:At E ay az [.func (.func 82) #[] ([Aj a2 a3,Aj a4 a5,Aj a6 a7,Aj av aw,Aj ay az]:Lv_).toArray]){fu_:Nat}{r:((List Int)×Bool)}(c4:La rec fu_ p0 a8 p2 am a0 b0=some r):AK J 82 [sV a1 p0 c2,.agg w4.toArray,iV p2,Aj a2 a3,Aj a4 a5,Aj a6 a7,Aj av aw,Aj ay az] E [(al,.cells #[sV bb a0.1 be,.bool a0.2] 116 (0,0))] (λw E' B'=>∃(b2:An) (b3:Nat),w= .tuple #[]/\B'= [(al,.cells #[sV b2 r.1 b3,.bool r.2] 116 (0,0))]/\Al rI E' b2 b3 r.1):=by
 refine Bi func82 λQ hE cs H ey ee=>?_;unfold La at c4;refine C 2 V (Dp ey λeA a9 K ef c5=>?_);refine C 5 V (JL.ln underlying22 V V V ?_);refine B5 0 (cw.Ag K) underlying28 Fo Fy ?_;refine JL.ln underlying25 V V V (C 2 V ?_);refine AU c4 (λeC eN=>?_) (λeC e0=>?_)
 ·refine C 3 V (Am (v:= .agg w4.toArray) V (λρ h=>Gs (Rp.Ag _ K Z) GM G6 (h _ _ V) (At.MO (At.tail (l:= []) ef))) ?_);refine Am (v:= .agg (List.replicate 5 (iV 0):Lv_).toArray) V (λρ h=>N5 underlying82 HY Ay V) (Am (v:= .bool (decide (a8=(List.replicate 5 (0:Int))))) V (λρ h=>aa (E:=a9) (E':=a9) (ws:=w4) (ws':=(List.replicate 5 (iV 0):Lv_)) (a:=a8) (b:=(List.replicate 5 (0:Int))) Q3 (by decide) (by decide+kernel) (Rp.Ag _ K Z) (ES (E:=a9) (pp:=rI) V) (h _ _ V) (h _ _ V)) ?_);obtain⟨c6,e1,e3⟩:=bs eN;refine JL.done (Bt (λL s=>∃(c7:LH) (ca:An) (cc:Nat),Jn a9 H c7 [bX al #[sV ca c6.1 cc,.bool c6.2] 116] [] L s (Al rI c7 ca cc c6.1)) ?_ ?_)
  ·rintro _ _ ⟨c7,ca,cc,rfl,rfl,e4,e5,e6⟩;obtain rfl:=oi e3;exact AS func82 V V (ee (K.Ad e4) V ⟨ca,cc,V,(by first | rfl | simp),e6⟩ e5)
  ·intro eg;refine AU e1 (λe7 e8=>?_) (λe7 ff=>?_)
   ·refine JL.region (Cy 0 (cy.Ag K) (Cm underlying117) V V V ?_);refine C 1 V (Cy 0 (c0.Ag K) (Cm underlying34) V V V ?_);obtain⟨hF,fk,fl⟩:=bs e8;refine JJ (vs:= [sV a1 p0 c2,(fV 80)]) 0 (Fi.gH (first:= [Aj al 0]) (A1 func79 V) (fc (b5.Ag K) (b1.Ag K) fk)) V V V V V c5 V ?_
    rintro _ fm _ fo ⟨fs,fv,rfl,rfl,fw⟩ fN;refine JL.done ?_;obtain rfl:=oi fl;exact AB (eg _ _ ⟨fm,fs,fv,V,V,fo,fN,fw⟩) V
   ·refine JL.skip ?_;obtain rfl:=oi ff;exact AB (eg _ _ ⟨a9,bb,be,V,V,AE,c5,(b5.Ag K)⟩) V
 ·obtain⟨gc,ge,gg⟩:=bs e0;refine C 4 V (Bq ge V V V ?_);obtain⟨c8,gh,gl⟩:=bs gg;refine C 2 V (Bt (λL s=>∃(c9:LH) (ce:An) (ci:Nat),Jn a9 H c9 [bX al #[sV ce c8.1 ci,.bool c8.2] 116] [] L s (Al rI c9 ce ci c8.1)) ?_ ?_)
  ·rintro _ _ ⟨c9,ce,ci,rfl,rfl,gt,gE,gO⟩;obtain rfl:=oi gl;exact JL.fin (v:= .tuple #[]) V V (BE.list func82 V (vs:= []) trivial) (ee (K.Ad gt) V ⟨ce,ci,V,(by first | rfl | simp),gO⟩ gE)
  ·intro gV;refine JL.block (Cw gh (λL s ac=>∃(bi:LH) (co:An) (cp:Nat),Jn a9 H bi [bX al #[sV co ac.1 cp,.bool ac.2.1] 116] [(0,sV a1 p0 c2),(2,iV p2),(6,Aj av aw),(7,Aj ay az),(9,Aj eA 0),(27,iV gc),(28,iV ac.2.2)] L s (Al rI bi co cp ac.1)) ⟨a9,bb,be,V,V,AE,c5,(b5.Ag K)⟩ ?_);rintro _ _ ac ⟨bi,co,cp,rfl,rfl,O,ej,ek⟩ gW ⟨hG,dd⟩ gX;have el:=dd;unfold OM at el;refine C 5 V (AU el (λgY gZ=>?_) (λgY g0=>?_))
   ·refine C 10 V (Am (v:= .agg w4.toArray) V (λρ h=>Gs (Rp.Ag _ (K.Ad O) Z) GM G6 (h _ _ V) (At.MO (At.tail (l:= []) (ef.Ag O)))) ?_);refine BQ ej HY λdn g1=>?_;refine Gb (v:= .agg w4.toArray) (l:= []) (ws:=(List.replicate 5 (iV 0):Lv_)) (us:=w4) (o:=0) 1 V V V g1 V V V (by rw [BI (kk:=5) (pp:=rI) (Rp.Ag _ (K.Ad O) Z)];exact AM type82) ((rA 5 rI).one (Rp.Ag _ (K.Ad O) Z)) V (by rw [BI (kk:=5) (pp:=rI) (Rp.Ag _ (K.Ad O) Z),BI (kk:=5) (pp:=rI) (ES (E:=bi) (pp:=rI) rfl)];omega) λb4=>?_;rw [H4 (by rw [BI (kk:=5) (pp:=rI) (Rp.Ag _ (K.Ad O) Z),BI (kk:=5) (pp:=rI) (ES (E:=bi) (pp:=rI) rfl)])] at b4 ⊢;refine C 2 V (Fs 7 [dn] ⟨⟨1,_,V⟩,trivial⟩ b4 λU=>?_);refine Di 0 U V V ?_;obtain⟨g3,em,g4⟩:=bs gZ;obtain⟨_,rfl,_,_,g5⟩:=G8 (kk:=5) (pp:=rI) (Rp.Ag _ (K.Ad O) Z) em;refine AL (v:= .pointer (some ⟨dn,0+Int.toNat (ac.2.2)*1,none⟩)) 1 U V V (λρ h s' ap=>H6 (kk:=5) (pp:=rI) (Rp.Ag _ (K.Ad O) Z) em underlying82 Ay (h _ _ V) (h _ _ V)) (AL (v:=iV g3) 2 U V V (λρ h s' ap=>Yl.load A3 (h _ _ V) (My (l:= []) 1 b4 V (by simp [AA]) ap (g5 0 _ V))) ?_);refine Di 3 U V V (AL 4 U V V (λρ h s' ap=>Yl.len V underlying22 (h _ _ V)) ?_);obtain⟨hH,eo,g6⟩:=bs g4;obtain⟨_,rfl,g7,_,_⟩:=VX (kk:=5) (pp:=rI) (Rp.Ag _ (K.Ad O) b6) (At.tail (l:= []) (c1.Ag (K.Ad O))) eo;refine AL (v:= .pointer (some ⟨av,(aw+0+Int.toNat ((p0.length:Int))*1),none⟩)) 5 U V V (λρ h s' ap=>H6 (kk:=5) (pp:=rI) (Rp.Ag _ (K.Ad O) b6) eo underlying82 Ay (h _ _ V) (h _ _ V)) (JG.lp 6 U 0 g7 b4 ⟨⟨1,_,V⟩,trivial⟩ A3 ?_);refine Dl [7,8,9] ?_;obtain⟨bn,g8,g9⟩:=bs g6;refine Bq g8 V V V ?_;obtain⟨hI,ea,ha⟩:=bs g9;obtain⟨_,rfl,_,_,hJ⟩:=G8 (kk:=5) (pp:=rI) (Rp.Ag _ (K.Ad O) Z) ea;refine Am (v:= .pointer (some ⟨dn,0+Int.toNat (ac.2.2)*1,none⟩)) V (λρ h=>H6 (kk:=5) (pp:=rI) (Rp.Ag _ (K.Ad O) Z) ea underlying82 Ay (h _ _ V) (h _ _ V)) ?_;have ct:=MT (us:= [iV bn]) (y:=bn) (Rp.Ag _ (K.Ad O) Z) ea V;refine Gb (v:=iV bn) (l:= []) (ws:=w4) (us:= [iV bn]) (o:=Int.toNat (ac.2.2)*1) 1 V V V b4 V V V Ay (by simp [Value.cells,CP]) V ct.2 λep=>?_;replace ct:=ct.1;generalize hb:Il w4 (Int.toNat (ac.2.2)*1) [iV bn]=eb at ep ⊢;have er:(rA 5 rI).r bi eb (a8.set (Int.toNat ac.2.2) bn):=by rw [← hb];exact ct
    refine JL.done (Cu 1 ep V λhK Y hc hd=>?_);refine Ff 15 λU=>Dw 0 U 0 (c3.Ag ((K.Ad O).Ad Y)) (Cm underlying118) V V V V (A6 U V [1,2] V ?_);refine AL 3 U V V (λρ h s' ap=>Yl.len V underlying22 (h _ _ V)) (Di 4 U V V ?_);refine AL 5 U V V (λρ h s' ap=>Yl.len V underlying22 (h _ _ V)) (AL (v:= .slice a1 p0.length p0.length) 6 U V V (λρ h s' ap=>PW (Al.spot (b1.Ag ((K.Ad O).Ad Y))) (And.left (b1.Ag ((K.Ad O).Ad Y))) underlying22 Ay (h _ _ V) (h _ _ V) (h _ _ V)) ?_);refine Di 7 U V V (AL (v:= .agg eb.toArray) 10 U V V (λρ h s' ap=>Gs (Rp.Ag _ Y er) GM G6 (h _ _ V) (At.OF (At.tail (l:= []) hc) ap)) ?_);refine A6 U V [11,12] V ?_;obtain⟨eu,he,hf⟩:=bs ha;refine AL 13 U V V (λρ h s' ap=>FY (h _ _ V) (h _ _ V) he) (AL (v:=iV (max p2 eu)) 14 U V V (λρ h s' ap=>Yl.max2 (h _ _ V) (h _ _ V)) ?_);obtain⟨hg,hj,hk⟩:=bs hf;refine JG.one (i:=8) V (by decide+kernel) (Take.Fh (pp:=rI) [iV ac.2.2] ([ac.2.2]:List Int) hd V V V underlying22 Ay CH (by decide) V V V ⟨V,trivial⟩ λhL hM hl hm=>?_);refine Ga 2 hl hm V λhN ag hn ho=>JG.one (i:=9) V (by decide+kernel) (Take.Qg (q:=rI) hj V V V V V V V underlying22 underlying22 Ay (Dv type3) CH V (by decide) (by decide) (b1.Ag (((K.Ad O).Ad Y).Ad ag)) hn ho λhO hp hq aq hr hs=>?_);refine Dl [15] ?_;obtain⟨ew,ht,hu⟩:=bs hk;refine JJ (vs:= [sV hp hg hq,.agg eb.toArray,iV (max p2 eu)]) 0 (Fi.ofFn (caps:= [Aj a2 a3,Aj a4 a5,Aj a6 a7,Aj av aw,Aj ay az]) (A1 func82 V) (ex hr (Rp.Ag _ ((Y.Ad ag).Ad aq) er) (cw.Ag ((((K.Ad O).Ad Y).Ad ag).Ad aq)) (ec.Ag ((((K.Ad O).Ad Y).Ad ag).Ad aq)) (ed.Ag ((((K.Ad O).Ad Y).Ad ag).Ad aq)) (ek.Ag ((Y.Ad ag).Ad aq)) (cy.Ag ((((K.Ad O).Ad Y).Ad ag).Ad aq)) (c0.Ag ((((K.Ad O).Ad Y).Ad ag).Ad aq)) (c1.Ag ((((K.Ad O).Ad Y).Ad ag).Ad aq)) (Rp.Ag _ ((((K.Ad O).Ad Y).Ad ag).Ad aq) b6) (c3.Ag ((((K.Ad O).Ad Y).Ad ag).Ad aq)) ht)) V V V V V hs V ?_;rintro _ hv _ hw ⟨hx,hy,rfl,rfl,hz⟩ hA;obtain⟨hB,hC,hD⟩:=bs hu;refine C 3 V (Bq hC V V V ?_);refine C 2 V ?_;obtain rfl:=oi hD;exact AB (gX _ _ (ew.1,ew.2,hB) ⟨hv,hx,hy,V,V,((((O.Ad Y).Ad ag).Ad aq).Ad hw),hA,hz⟩ dd) V
   ·refine JL.exit V ?_;obtain rfl:=oi g0;obtain rfl:=gW _ dd;exact AB (gV _ _ ⟨bi,co,cp,V,V,O,ej,ek⟩) V
def L4:Nat->Nat->(List Int)->(List Int)->Int->AZ->((List Int)×Bool)->(List Int)->Option (((List Int)×Bool))
 | 0,_=>λ_ _ _ _ _ _=>none
 | n+1,fu_=>λp0 K p2 O U Y=>La (L4 n fu_) fu_ p0 K p2 O U Y
theorem aJ{J:Judge Tryz.prog}{n fu_:Nat}:∀{E:LH} {a1:An} {c2:Nat} {w4:Lv_} {U:Nat} {Y:Nat} {az:An} {a0:Nat} {a2:An} {a3:Nat} {Z:Nat} {a4:An} {a5:Nat} {ac:Nat} {ag:Nat} {al:Nat} {am:Nat} {ap:Nat} {aq:Nat} {a6:Lv_} {av:Nat} {aw:Nat} {p0:List Int} {a7:List Int} {p2:Int} {K:AZ} {O:(List Int)×Bool} {a8:List Int} (a9:Al rI E a1 c2 p0) (bb:(rA 5 rI).r E w4 a7) (be:At E U Y [sV az K.1 a0,sV a2 K.2 a3]) (bi:Al (rL rI) E az a0 K.1) (bn:Al Aw E a2 a3 K.2) (bo:Al rI E a4 a5 O.1) (bv:At E ac ag [.func (.func 79) ([Aj Z 0]:Lv_).toArray #[]]) (bw:At E al am [(fV 80)]) (bx:At E ap aq (([]:Lv_)++a6)) (bz:(rA 5 rI).r E a6 a8) (b0:At E av aw [.func (.func 82) #[] ([Aj U Y,Aj ac ag,Aj al am,Aj ap aq,Aj av aw]:Lv_).toArray]) {r:((List Int)×Bool)} (ay:L4 n fu_ p0 a7 p2 K O a8=some r),AK J 82 [sV a1 p0 c2,.agg w4.toArray,iV p2,Aj U Y,Aj ac ag,Aj al am,Aj ap aq,Aj av aw] E [(Z,.cells #[sV a4 O.1 a5,.bool O.2] 116 (0,0))] (λw E' B'=>∃(b1:An) (b2:Nat),w= .tuple #[]/\B'= [(Z,.cells #[sV b1 r.1 b2,.bool r.2] 116 (0,0))]/\Al rI E' b1 b2 r.1):=by
 induction n with
 | zero=>intros;rename_i ay;cases ay
 | succ n b3=>intro E a1 c2 w4 U Y az a0 a2 a3 Z a4 a5 ac ag al am ap aq a6 av aw p0 a7 p2 K O a8 a9 bb be bi bn bo bv bw bx bz b0 r ay;exact aS b3 a9 bb be bi bn bo bv bw bx bz b0 ay
def f99(fu_:Nat)(p0:List Int)(K:List Int)(p2:Int)(O:AZ)(U:(List Int)×Bool)(Y:List Int):Option (((List Int)×Bool)):=L4 fu_ fu_ p0 K p2 O U Y
theorem gm{a1:An}{c2:Nat}{w4:Lv_}{U:Nat}{Y:Nat}{ay:An}{az:Nat}{a0:An}{a2:Nat}{Z:Nat}{a3:An}{a4:Nat}{ac:Nat}{ag:Nat}{al:Nat}{am:Nat}{ap:Nat}{aq:Nat}{a5:Lv_}{av:Nat}{aw:Nat}{p0:List Int}{a6:List Int}{p2:Int}{K:AZ}{O:(List Int)×Bool}{a7:List Int}(bb:Al rI E a1 c2 p0)(be:(rA 5 rI).r E w4 a6)(bi:At E U Y [sV ay K.1 az,sV a0 K.2 a2])(bn:Al (rL rI) E ay az K.1)(bo:Al Aw E a0 a2 K.2)(bv:Al rI E a3 a4 O.1)(bw:At E ac ag [.func (.func 79) ([Aj Z 0]:Lv_).toArray #[]])(bx:At E al am [(fV 80)])(bz:At E ap aq (([]:Lv_)++a5))(b0:(rA 5 rI).r E a5 a7)(b1:At E av aw [.func (.func 82) #[] ([Aj U Y,Aj ac ag,Aj al am,Aj ap aq,Aj av aw]:Lv_).toArray]){fu_:Nat}{r:((List Int)×Bool)}(b2:f99 fu_ p0 a6 p2 K O a7=some r):AK J 82 [sV a1 p0 c2,.agg w4.toArray,iV p2,Aj U Y,Aj ac ag,Aj al am,Aj ap aq,Aj av aw] E [(Z,.cells #[sV a3 O.1 a4,.bool O.2] 116 (0,0))] (λw E' B'=>∃(a8:An) (a9:Nat),w= .tuple #[]/\B'= [(Z,.cells #[sV a8 r.1 a9,.bool r.2] 116 (0,0))]/\Al rI E' a8 a9 r.1):=aJ bb be bi bn bo bv bw bx bz b0 b1 b2
def f52(fu_:Nat)(p0:AZ):Option ((List Int)×Int):= (f70 fu_ p0 ([])).bind λK=> if K.2≠0 then(some ([],K.2)) else((f84 fu_ K.1).bind λO=> (f99 fu_ ([]) (List.replicate 5 (0:Int)) 0 p0 ([],false) O).bind λU=> some (U.1,0))
theorem fQ{a1:An}{c2:Nat}{a2:An}{a3:Nat}{p0:AZ}(a4:Al (rL rI) E a1 c2 p0.1)(a5:Al Aw E a2 a3 p0.2){fu_:Nat}{r:(List Int)×Int}(a6:f52 fu_ p0=some r):AK J 37 [.agg #[sV a1 p0.1 c2,sV a2 p0.2 a3]] E [] (λw E' B'=>∃(a7:An) (a8:Nat),w= .tuple #[sV a7 r.1 a8,iV r.2]/\B'= []/\Al rI E' a7 a8 r.1):=by
 refine Bi func37 λQ eC cs H b0 a9=>?_;unfold f52 at a6;refine C 2 V (Dp b0 λbb eN Y be b1=>?_);refine C 5 V (B4 be Fc CV V V ?_);obtain⟨e0,b2,b3⟩:=bs a6;refine BY (Kx (a4.Ag Y) (a5.Ag Y) Al.nil b2) V V J9 b1 ?_;rintro _ e1 _ al ⟨e3,e4,e5,e6,rfl,rfl,b4,b5⟩ b6;refine C 3 V (BQ b6 Hu λca cc=>?_);refine Bz (S':= [[],[],[],[(ca,.cells #[nS,nS] 78 (0,0))]]) V cc λce=>BJ 3 ce Du λci=>?_;refine Cu 3 ci V λe7 O co bi=>C 8 V (AU b3 (λcp ct=>?_) (λcp cw=>?_))
 ·refine C 6 V ?_;obtain rfl:=oi ct;exact AS func37 V V (a9 ((Y.Ad al).Ad O) V ⟨none,0,V,(by first | rfl | simp),Al.nil⟩ bi)
 ·refine C 3 V (B4 co FI Du V V ?_);obtain⟨e8,cy,c0⟩:=bs cw;refine BY (M5 (b4.Ag O) (b5.Ag O) cy) V V Mk bi ?_;rintro _ bn _ av ⟨am,rfl,rfl,ap⟩ c1;refine BQ c1 HY λZ c3=>?_;refine Bz (S':= [[],[],[],[],[],[(Z,.cells (([]:Lv_)++(List.replicate 5 (iV 0):Lv_)).toArray 82 (0,0))]]) V c3 λc4=>Gb (v:= .agg am.toArray) (l:= []) (ws:=(List.replicate 5 (iV 0):Lv_)) (us:=am) (o:=0) 5 V V V c4 V V V (by rw [BI (kk:=5) (pp:=rI) ap];exact AM type82) ((rA 5 rI).one ap) V (by rw [BI (kk:=5) (pp:=rI) ap,BI (kk:=5) (pp:=rI) (ES (E:=bn) (pp:=rI) rfl)];omega) λbo=>?_;rw [H4 (by rw [BI (kk:=5) (pp:=rI) ap,BI (kk:=5) (pp:=rI) (ES (E:=bn) (pp:=rI) rfl)])] at bo ⊢;refine Bz (S':= [[],[],[],[],[],[(Z,.cells (([]:Lv_)++am).toArray 82 (0,0))]]) V bo λc5=>C 3 V (BQ c5 (C8 type116) λac c6=>?_);refine C 3 V (Am (v:= .func (.func 79) ([Aj ac 0]:Lv_).toArray #[]) V (λρ h=>Kh (by simp [h (.tmp 7) _ rfl]) (by simp)) ?_);refine BQ c6 (C8 type117) λaw c7=>?_;refine Bz (S':= [[],[],[],[],[],[(Z,.cells (([]:Lv_)++am).toArray 82 (0,0))],[(ac,.cells #[nS,.bool false] 116 (0,0))],[(aw,.cells #[.nilFunc] 117 (0,0))]]) V c7 λc8=>BJ 7 c8 (AM type117) λc9=>?_;refine Cu 7 c9 V λff aq dd dn=>C 3 V (BQ dn (C8 type34) λbv ea=>?_);refine BJ 8 ea (AM type34) λeb=>?_;refine Cu 8 eb V λfk ag ec ed=>Bz (S':= [[],[],[],[],[],[(Z,.cells (([]:Lv_)++am).toArray 82 (0,0))],[(ac,.cells #[nS,.bool false] 116 (0,0))],[],[]]) V ed λee=>C 3 V (BQ ee (C8 type118) λbw ef=>?_);refine C 2 V (Cu 5 ef V λfl U eg ej=>?_);refine JL.region (Am (v:= .func (.func 82) #[] ([Aj bb 0,Aj aw 0,Aj bv 0,Aj Z 0,Aj bw 0]:Lv_).toArray) V (λρ h=>Kh (by simp) (by simp [h (.tmp 1) _ rfl,h (.tmp 8) _ rfl,h (.tmp 9) _ rfl,h (.tmp 6) _ rfl,h (.tmp 10) _ rfl])) ?_);refine BJ 9 ej (AM type118) λek=>?_;refine Cu 9 ek V λel K bx em=>Bz (S':= [[],[],[],[],[],[],[(ac,.cells #[nS,.bool false] 116 (0,0))],[],[],[]]) V em λeo=>C 3 V (Cy 0 bx (Cm underlying118) V V V ?_);refine Am (v:= .agg (List.replicate 5 (iV 0):Lv_).toArray) V (λρ h=>N5 underlying82 HY Ay V) ?_;obtain⟨ay,ep,er⟩:=bs c0;refine Bz (S':= [[],[],[],[],[],[],[(ac,.cells #[nS,.bool false] 116 (0,0))],[],[],[]]) V eo λeu=>JJ (vs:= [nS,.agg (List.replicate 5 (iV 0):Lv_).toArray,iV 0]) 6 (Fi.ofFn (caps:= [Aj bb 0,Aj aw 0,Aj bv 0,Aj Z 0,Aj bw 0]) (A1 func82 V) (gm Al.nil (ES (E:=el) (pp:=rI) V) (be.Ag ((((((al.Ad O).Ad av).Ad aq).Ad ag).Ad U).Ad K)) (a4.Ag (((((((Y.Ad al).Ad O).Ad av).Ad aq).Ad ag).Ad U).Ad K)) (a5.Ag (((((((Y.Ad al).Ad O).Ad av).Ad aq).Ad ag).Ad U).Ad K)) Al.nil (dd.Ag ((ag.Ad U).Ad K)) (ec.Ag (U.Ad K)) (eg.Ag K) (Rp.Ag _ (((aq.Ad ag).Ad U).Ad K) ap) bx ep)) V V V V V eu V ?_;rintro _ fm _ ew ⟨az,a0,rfl,rfl,ex⟩ ey;refine Bz (S':= [[],[],[],[],[],[],[(ac,.cells #[sV az ay.1 a0,.bool ay.2] 116 (0,0))],[],[],[]]) V ey λbz=>C 3 V (JL.fd underlying116 FU V V V ?_);refine Am (v:= sV az ay.1 a0) V (λρ h=>Yl.load Jy (h _ _ V) (BV (j:=6) (off:=0) bz V V)) (C 3 V ?_);refine JS.drop 6 bz V λeA=>?_;obtain rfl:=oi er;exact AS func37 V V (a9 ((((((((Y.Ad al).Ad O).Ad av).Ad aq).Ad ag).Ad U).Ad K).Ad ew) V ⟨az,a0,V,(by first | rfl | simp),ex⟩ eA)
variable {J:Judge Tryz.prog}
end Pal
namespace Pal
open Go Go.Conc
variable {P:Program}{Q:Gs_}{b:Frame}{ds:Ld_}{ops:Ao_}{cs:Lf_}{fuel:Nat}{D:Nat->Bool}{listed:Array Bool}{L:Env}{s:St}{E E' H:LH}{S:List Seg}
variable {t u ty e:TypeId}{p:String}{af:Ae_}{g:On_}{v:Value}{i:Nat}{kd:IntKind}
section
variable {J:Judge P}{n:Nat}{k:Li_}{m:Nat}
variable {d:Option Tmp}{x y:Operand}
end
open Go.Proofs Go.Proofs.Tryz
variable {J:Judge Tryz.prog}
end Pal
namespace Pal
open Go Go.Conc
variable {P:Program}{t u ty e:TypeId}{p:String}{af:Ae_}{g:On_}{s:St}{ρ:Operand->Value}
section
variable {d:Option Tmp}{x:Operand}
end
open Go.Proofs Go.Proofs.Tryz
variable {E:LH}
variable {J:Judge Tryz.prog}
variable {J:Judge Tryz.prog}
def Ow(fu_:Nat)(p0:List Int)(K:Int×Int):Option (Bn (Int×Int) Int):= if K.2<(p0.length:Int) then((ix p0 K.2).bind λO=> (Au (O+1)).bind λU=> (Au (K.2+1)).bind λY=> some (.more (max K.1 U,Y))) else(some (.done K.1))
def f101(fu_:Nat)(p0:List Int):Option Int:= Option.bind (iter (Ow fu_ p0) fu_ (0,0)) λK=> some K
theorem cM{a1:An}{c2:Nat}{p0:List Int}(al:Al rI E a1 c2 p0){fu_:Nat}{r:Int}(Y:f101 fu_ p0=some r):AK J 39 [sV a1 p0 c2] E [] (λw E' B'=>w=iV r/\B'= []):=by
 refine Bi func39 λQ bv cs H am ap=>?_;unfold f101 at Y;obtain⟨aq,av,aw⟩:=bs Y;refine C 13 V (EU [] [(3,iV aq)] (λbw ay az=>?_) (λa0=>?_))
 ·refine C 5 V ?_;obtain rfl:=oi aw;exact AS func39 V V (ap ay V ⟨V,V⟩ az)
 ·refine JL.block (Ee av (λK=> []) (λK=> [(0,sV a1 p0 c2),(3,iV K.1),(4,iV K.2)]) AE am ?_);rintro K bx O Z a2 ⟨bz,U⟩ a3;have ac:=U;unfold Ow at ac;refine C 5 V (JL.ln underlying22 V V V ?_);refine C 2 V (AU ac (λa4 a5=>?_) (λa4 a6=>?_))
  ·obtain⟨b0,a7,a8⟩:=bs a5;refine C 7 V (JS.ix (al.Ag O) a7 underlying22 Ay ?_);rintro b1 b2 _ rfl a9;refine Cy 0 a9 A3 V V V ?_;obtain⟨ag,bb,be⟩:=bs a8;refine Bq bb V V V (Am (v:=iV (max K.1 ag)) V (λρ h=>Yl.max2 (h _ _ V) (h _ _ V)) ?_);obtain⟨bi,bn,bo⟩:=bs be;refine C 5 V (Bq bn V V V ?_);refine C 2 V ?_;obtain rfl:=oi bo;exact a3 (max K.1 ag,bi) O Z V U
  ·refine JL.exit V ?_;obtain rfl:=oi a6;obtain rfl:=a2 _ U;exact a0 O Z V
variable {J:Judge Tryz.prog}
variable {J:Judge Tryz.prog}
variable {J:Judge Tryz.prog}
variable {J:Judge Tryz.prog}
def OK(fu_:Nat)(Z:Int)(K:(List Int)×Int×Nat×(List Int)×Int):Option (Bn ((List Int)×Int×Nat×(List Int)×Int) ((List Int)×B8)):= if K.2.2.2.2<Z then((f36 fu_ (K.1,K.2.1,K.2.2.1) K.2.2.2.2).bind λO=> (room K.2.2.2.1 K.2.2.2.2).bind λU=> (ix U O.1).bind λY=> (ix U K.2.2.2.2).bind λag=> (ix (U.set (Int.toNat K.2.2.2.2) Y) O.1).bind λal=> (Au (K.2.2.2.2+1)).bind λac=> some (.more (O.2.1,O.2.2.1,O.2.2.2,((U.set (Int.toNat K.2.2.2.2) Y).set (Int.toNat O.1) K.2.2.2.2),ac))) else(some (.done (K.2.2.2.1,K.1,K.2.1,K.2.2.1)))
def f49(fu_:Nat)(p0:B8)(K:Int):Option ((List Int)×(B8)):= Option.bind (iter (OK fu_ K) fu_ (p0.1,p0.2.1,p0.2.2,[],0)) λO=> some O
theorem VR{bk:Nat}{a1:An}{c2:Nat}{p0:B8}{ag:Int}(ci:Al rI E a1 c2 p0.1){fu_:Nat}{r:(List Int)×(B8)}(be:f49 fu_ p0 ag=some r):AK J 57 [Aj bk 0,iV ag] E [(bk,.cells #[sV a1 p0.1 c2,iV p0.2.1,.int .u64 ((p0.2.2:Nat):Int)] 74 (0,0))] (λw E' B'=>∃(bi:An) (bn:Nat) (bo:An) (bv:Nat),w= sV bi r.1 bn/\B'= [(bk,.cells #[sV bo r.2.1 bv,iV r.2.2.1,.int .u64 ((r.2.2.2:Nat):Int)] 74 (0,0))]/\Al rI E' bi bn r.1/\Al rI E' bo bv r.2.1):=by
 refine Bi func57 λQ fk cs H co cp=>?_;unfold f49 at be;obtain⟨al,ct,cw⟩:=bs be;refine C 13 V (Bt (λL s=>∃(ay:LH) (az:An) (a0:Nat) (a7:Seg) (a2:An) (a3:Nat),Jn E H ay [bX bk #[sV a2 al.2.1 a3,iV al.2.2.1,.int .u64 ((al.2.2.2:Nat):Int)] 74,a7] [(5,sV az al.1 a0)] L s (OL 3 rI ay az a0 a7 al.1/\Al rI ay a2 a3 al.2.1)) ?_ ?_)
 ·rintro _ _ ⟨ay,az,a0,a7,a2,a3,rfl,rfl,cy,c0,c1,c3⟩;refine C 5 V (Cj 1 c1 c0 V λfl bw c4 c5=>?_);obtain rfl:=oi cw;exact AS func57 V V (cp (cy.Ad bw) V ⟨az,a0,a2,a3,V,V,c4,(c3.Ag bw)⟩ c5)
 ·intro c6;refine JL.block (Cw ct (λL s K=>∃(am:LH) (a4:An) (a5:Nat) (ap:An) (aq:Nat) (a6:Seg),Jn E H am [bX bk #[sV a4 K.1 a5,iV K.2.1,.int .u64 ((K.2.2.1:Nat):Int)] 74,a6] [(0,Aj bk 0),(1,iV ag),(5,sV ap K.2.2.2.1 aq),(6,iV K.2.2.2.2)] L s (Al rI am a4 a5 K.1/\OL 3 rI am ap aq a6 K.2.2.2.1)) ⟨E,a1,c2,none,0,[],V,V,AE,co,ci,OL.nil⟩ ?_);rintro _ _ K ⟨am,a4,a5,ap,aq,a6,rfl,rfl,bx,bz,b0,b1⟩ c7 ⟨fm,a8⟩ c8;have b2:=a8;unfold OK at b2;refine C 7 V (AU b2 (λc9 dd=>?_) (λc9 dn=>?_))
  ·obtain⟨U,ea,eb⟩:=bs dd;refine C 7 V (Ch 0 (Kv b0 ea) V V J8 bz V ?_);rintro _ ec _ b3 ⟨ed,ee,rfl,rfl,ef⟩ eg;obtain⟨Y,ej,ek⟩:=bs eb;refine C 6 V (JS.app (pp:=rI) (v:=iV K.2.2.2.2) (a:=ap) (c:=aq) 1 ej V V V V (λ_=>V) V (λ_=>V) V V V underlying22 underlying22 underlying22 Ay (Dv type3) CH V (by decide) (by decide) (by decide) (by decide) (b1.Ag b3) V eg V λfo Z ac fs b4 b5=>?_);obtain⟨O,el,em⟩:=bs ek;refine C 9 V (JN 1 b4 el V V V V V V underlying22 Ay ?_);rintro b6 ca f77 _ eo rfl ep fv fw fN gc;refine Am (v:=iV O) V (λρ h=>Yl.load A3 (h _ _ V) (BV (j:=1) b5 eo (ep 0 _ V))) ?_;obtain⟨ge,er,eu⟩:=bs em;refine C 1 V (JN 1 b4 er V V V V V V underlying22 Ay ?_);rintro cc a9 f88 _ ew rfl gg ex ey gh gl;refine JS.store (v:=iV O) (off:=a9) 1 V V V b5 V V Ay (by simp [Value.cells,CP]) ew (by have:=ex;simp only [Rp.n,rK,rN,rB,rP,rL] at this;show _+1<=_;omega) λeA=>?_;have eC:=ey O [iV O] V;have av:(Y.set (Int.toNat K.2.2.2.2) O).length=Y.length:=List.length_set;refine EH (L':= [(0,Aj bk 0),(1,iV ag),(6,iV K.2.2.2.2),(8,iV K.2.2.2.2),(9,iV ag),(10,.bool (decide (K.2.2.2.2<ag))),(13,Aj bk 0),(14,iV K.2.2.2.2),(15,iV U.1),(7,iV U.1),(17,iV K.2.2.2.2),(19,.slice Z ((Y.set (Int.toNat K.2.2.2.2) O)).length ac),(5,.slice Z ((Y.set (Int.toNat K.2.2.2.2) O)).length ac),(20,.slice Z ((Y.set (Int.toNat K.2.2.2.2) O)).length ac),(21,iV K.2.2.2.2),(22,.slice Z ((Y.set (Int.toNat K.2.2.2.2) O)).length ac),(23,iV U.1),(24,.slice Z ((Y.set (Int.toNat K.2.2.2.2) O)).length ac),(25,iV U.1),(26,Aj b6 ca),(27,iV O),(28,iV K.2.2.2.2),(29,Aj cc a9)]) ⟨V,V,V,V,V,V,V,V,V,V,V,by rw [av];rfl,by rw [av];rfl,by rw [av];rfl,V,by rw [av];rfl,V,by rw [av];rfl,V,V,V,V,V,trivial⟩ ?_;obtain⟨gt,eN,e0⟩:=bs eu;refine JN 1 eC eN V V V V V V underlying22 Ay ?_;rintro ce bb f102 _ e1 rfl gE e3 e4 gO gV;refine JS.store (v:=iV K.2.2.2.2) (off:=bb) 1 V V V eA V V Ay (by simp [Value.cells,CP]) e1 (by have:=e3;simp only [Rp.n,rK,rN,rB,rP,rL] at this;show _+1<=_;omega) λe5=>?_;have e6:=e4 K.2.2.2.2 [iV K.2.2.2.2] V;have aw:((Y.set (Int.toNat K.2.2.2.2) O).set (Int.toNat U.1) K.2.2.2.2).length=((Y.set (Int.toNat K.2.2.2.2) O)).length:=List.length_set;refine EH (L':= [(0,Aj bk 0),(1,iV ag),(6,iV K.2.2.2.2),(8,iV K.2.2.2.2),(9,iV ag),(10,.bool (decide (K.2.2.2.2<ag))),(13,Aj bk 0),(14,iV K.2.2.2.2),(15,iV U.1),(7,iV U.1),(17,iV K.2.2.2.2),(19,.slice Z (((Y.set (Int.toNat K.2.2.2.2) O).set (Int.toNat U.1) K.2.2.2.2)).length ac),(5,.slice Z (((Y.set (Int.toNat K.2.2.2.2) O).set (Int.toNat U.1) K.2.2.2.2)).length ac),(20,.slice Z (((Y.set (Int.toNat K.2.2.2.2) O).set (Int.toNat U.1) K.2.2.2.2)).length ac),(21,iV K.2.2.2.2),(22,.slice Z (((Y.set (Int.toNat K.2.2.2.2) O).set (Int.toNat U.1) K.2.2.2.2)).length ac),(23,iV U.1),(24,.slice Z (((Y.set (Int.toNat K.2.2.2.2) O).set (Int.toNat U.1) K.2.2.2.2)).length ac),(25,iV U.1),(26,Aj b6 ca),(27,iV O),(28,iV K.2.2.2.2),(29,Aj cc a9),(30,Aj ce bb)]) ⟨V,V,V,V,V,V,V,V,V,V,V,by rw [aw];rfl,by rw [aw];rfl,by rw [aw];rfl,V,by rw [aw];rfl,V,by rw [aw];rfl,V,V,V,V,V,V,trivial⟩ ?_;obtain⟨e7,e8,ff⟩:=bs e0;refine C 4 V (Bq e8 V V V ?_);refine C 2 V ?_;obtain rfl:=oi ff;exact AB (c8 _ _ (U.2.1,U.2.2.1,U.2.2.2,((Y.set (Int.toNat K.2.2.2.2) O).set (Int.toNat U.1) K.2.2.2.2),e7) ⟨ec,ed,ee,Z,ac,[(ce,.cells (Bd f102 bb [iV K.2.2.2.2]) 3 (0,0))],V,V,(bx.Ad b3),e5,ef,e6⟩ a8) V
  ·refine JL.exit V ?_;obtain rfl:=oi dn;obtain rfl:=c7 _ a8;exact AB (c6 _ _ ⟨am,ap,aq,a6,a4,a5,V,V,bx,bz,b1,b0⟩) V
end Pal
namespace Pal
def BO{α:Type}(o:Option α)(Q:α->Prop):Prop:=∃a,o=some a/\Q a
variable {α β:Type}{Q R:α->Prop}
theorem Az{a:α}(h:Q a):BO (some a) Q:=⟨a,V,h⟩
theorem BO.Ag{o:Option α}(h:BO o R)(k:∀a,R a->Q a):BO o Q:=let ⟨a,K,O⟩:=h;⟨a,K,k a O⟩
theorem BA{o:Option β}{f:β->Option α}{S:β->Prop}(h:BO o S)(k:∀b,S b->BO (f b) Q):BO (o.bind f) Q:=by
 obtain⟨b,rfl,hb⟩:=h;obtain⟨a,K,O⟩:=k b hb;exact⟨a,K,O⟩
theorem Bc{o:Option β}{f:β->Option α}{b:β}(h:o=some b)(k:BO (f b) Q):BO (o.bind f) Q:=by subst h;exact k
theorem BO.gT{f:Int->Option α}{x:Int}(K: -9223372036854775808<=x)(O:x<=9223372036854775807)(k:BO (f x) Q):BO ((Au x).bind f) Q:=Bc (if_pos ⟨K,O⟩) k
theorem Jf{xs:List β}{i:Int}{m:Nat}{b:β}(h:i=(m:Int))(hb:xs[m]? =some b):ix xs i=some b:=by subst h;simpa [ix] using hb
theorem CO{f:β->Option α}{xs:List β}{i:Int}{m:Nat}(h:i=(m:Int))(hm:m<xs.length)(k:BO (f xs[m]) Q):BO ((ix xs i).bind f) Q:=Bc (Jf h (List.getElem?_eq_getElem hm)) k
theorem Kf{f:List β->Option α}{xs:List β}{x:β}(h:xs.length+1<=2 ^ 40)(k:BO (f (xs++ [x])) Q):BO ((room xs x).bind f) Q:=Bc (if_pos h) k
theorem C9{c:Prop} [Decidable c] {x y:Option α}(K:c->BO x Q)(O:¬c->BO y Q):BO (if c then x else y) Q:=by
 by_cases h:c
 ·rw [if_pos h];exact K h
 ·rw [if_neg h];exact O h
theorem Da{c:Prop} [Decidable c] {x y:Option α}(h:c)(k:BO x Q):BO (if c then x else y) Q:=by rw [if_pos h];exact k
theorem Cb{c:Prop} [Decidable c] {x y:Option α}(h:¬c)(k:BO y Q):BO (if c then x else y) Q:=by rw [if_neg h];exact k
def Bn.sat{S A:Type}(I:S->Prop)(Q:A->Prop):Bn S A->Prop
 | .more s=>I s
 | .done a=>Q a
theorem Qm{S:Type}{body:S->Option (Bn S α)}(I:Nat->S->Prop)(round:∀m s,I m s->BO (body s) (Bn.sat (λs'=>∃m',m'<m/\I m' s') Q)):
  ∀{m fuel:Nat} {s:S},I m s->m<fuel->BO (iter body fuel s) Q:=by
 intro m
 induction m using Nat.strongRecOn with
 | _ m O=>
  intro fuel s U ag;obtain⟨fuel,rfl⟩:∃k,fuel=k+1:=⟨fuel - 1,by omega⟩;obtain⟨st,Y,K⟩:=round m s U;unfold Pal.iter;rw [Y];cases st with
  | more s'=>
   obtain⟨m',Z,ac⟩:=K;exact O m' Z ac (by omega)
  | done a=>exact⟨a,rfl,K⟩
theorem Em{S A:Type}{body:S->Option (Bn S A)}{Q:A->Prop}{K:S}{F:Nat}(n:Nat)(I:Nat->S->Prop)(Y:I 0 K)(ac:n<F)
  (round:∀i s,i<n->I i s->BO (body s) (Bn.sat (I (i+1)) Q)) (last:∀s,I n s->BO (body s) (λst=>∃a,st= .done a/\Q a)):BO (Pal.iter body F K) Q:=by
 refine Qm (λm s=>∃i,i<=n/\m=n - i/\I i s) ?_ (m:=n - 0) ⟨0,Nat.zero_le _,V,Y⟩ (by omega);rintro m s ⟨i,hi,rfl,O⟩;rcases Nat.lt_or_ge i n with Z | ag
 ·refine(round i s Z O).Ag ?_;intro st U;cases st with
  | more s'=>exact⟨n - (i+1),by omega,i+1,by omega,rfl,U⟩
  | done a=>exact U
 ·obtain rfl:i=n:=by omega
  refine(last s O).Ag ?_;rintro st ⟨a,rfl,h⟩;exact h
theorem CW{α:Type}{o:Option α}{a:α}(h:BO o (λx=>x=a)):o=some a:=by obtain⟨x,K,rfl⟩:=h;exact K
theorem Bw{α:Type}{Q:α->Prop}{f:Int->Option α}{x:Int}(y:Int)(h:x=y)(K: -9223372036854775808<=y)(O:y<=9223372036854775807)(k:BO (f y) Q):BO ((Au x).bind f) Q:=by subst h;exact BO.gT K O k
theorem BO.No{α β:Type}{Q:α->Prop}{f:List β->Option α}{xs ys:List β}(h:xs.length+ys.length<1000)(k:BO (f (xs++ys)) Q):BO ((Ep xs ys).bind f) Q:=Bc (by unfold Ep;rw [if_pos (by omega)]) k
abbrev HQ:=List Int×Int×Nat
def BG(k:Nat)(b:HQ):Prop:=0<=b.2.1/\b.2.1<=(k:Int)
theorem BG.Ag{k k':Nat}{b:HQ}(h:BG k b)(K:k<=k'):BG k' b:=⟨h.1,by have:=h.2;omega⟩
theorem cV{F k:Nat}{b:HQ}(hb:BG k b)(K:k<1000000):BO (f83 F b) (λr=>r.1<2 ^ 64/\BG (k+1) r.2):=by
 obtain⟨O,U⟩:=hb;unfold f83;refine Bw (b.2.1+1) V (by omega) (by omega) ?_;have key:∀x:Nat,(x % 2 ^ 64)>>>11<2 ^ 64:=λx=>Nat.lt_of_le_of_lt (Nat.shiftRight_le _ _) (Nat.mod_lt _ (Nat.two_pow_pos 64));refine BA (S:=λ_=>True) ?_ ?_
 ·refine C9 (λh=>?_) (λh=>?_)
  ·refine Bw b.2.1 (by omega) (by omega) (by omega) (CO (m:=b.2.1.toNat) (by omega) (by omega) ?_);exact Az trivial
  ·exact Az trivial
 ·intro x _;exact Az ⟨key _,by simp only;omega,by simp only;omega⟩
theorem XW{a:Nat}(h:a<2 ^ 62):Nm a=(a:Int):=by
 unfold Nm;exact Kg (by omega)
theorem Kt{F k:Nat}{b:HQ}{m:Int}(hb:BG k b)(O:k<1000000)(hm:m<1000000):BO (f36 F b m) (λr=>0<=r.1/\(r.1<=m∨r.1=0)/\BG (k+1) r.2):=by
 unfold f36;refine BA (cV hb O) ?_;rintro⟨x,b'⟩ ⟨Z,K⟩;refine C9 (λh=>?_) (λh=>?_)
 ·exact Az ⟨by simp,.inr V,K⟩
 ·have U:Dc m=m.toNat:=by unfold Dc;omega
  have e2:(Dc m+1) % 2 ^ 64=m.toNat+1:=by rw [U];omega
  have Y:x % (m.toNat+1)<m.toNat+1:=Nat.mod_lt _ (by omega);refine Bc (b:=x % (m.toNat+1)) (by rw [e2];unfold O2;rw [if_neg (by omega)]) ?_;refine Az ?_;simp only;generalize x % (m.toNat+1)=z at Y ⊢;rw [XW (by omega)];exact⟨by omega,.inl (by omega),K⟩
theorem QT{F k:Nat}{b:HQ}{lo hi:Int}(hb:BG k b)(O:k<1000000)(Y:0<=lo)(Z:lo<=hi)(ac:hi<1000):BO (f37 F b lo hi) (λr=>lo<=r.1/\r.1<=hi/\BG (k+1) r.2):=by
 unfold f37;refine Bw (hi - lo) V (by omega) (by omega) (BA (Kt hb O (by omega)) ?_);rintro⟨x,b'⟩ ⟨U,g2,K⟩;simp only at U g2 K ⊢;exact Bw (lo+x) V (by omega) (by omega) (Az ⟨by simp only;omega,by simp only;omega,K⟩)
theorem da{F k:Nat}{b:HQ}{m:Int}(hb:BG k b)(K:k<1000000)(U:1<=m)(Y:m<1000):BO (f32 F b m) (λr=>BG (k+1) r.2):=by
 unfold f32;refine Bw (m - 1) V (by omega) (by omega) (BA (Kt hb K (by omega)) ?_);rintro⟨x,b'⟩ ⟨Z,g2,O⟩;exact Az O
theorem U2{F k:Nat}{b:HQ}{l:List Int}(hb:BG k b)(U:k<1000000)(Z:0<l.length)(ac:l.length<1000):BO (f81 F b l) (λr=>r.1∈l/\BG (k+1) r.2):=by
 unfold f81;refine Bw ((l.length - 1:Nat):Int) (by omega) (by omega) (by omega) (BA (Kt hb U (by omega)) ?_);rintro⟨x,b'⟩ ⟨Y,g2,K⟩;simp only at Y g2 K ⊢;have O:x.toNat<l.length:=by omega
 exact CO (m:=x.toNat) (by omega) O (Az ⟨List.getElem_mem O,K⟩)
abbrev DT:=Int×Int×Int
abbrev OW:=Bs×List DT
structure NV (n:Nat) (o:OW):Prop where
 l1:o.1.length<=n
 n1:∀x∈o.1,x.length<=n
 l2:o.2.length<=n
theorem K6(F:Nat)(a lo hi:Int):f92 F a lo hi=some (decide (lo<=a/\a<=hi)):=by
 unfold f92;by_cases h:lo<=a
 ·rw [if_pos h];simp [h]
 ·rw [if_neg h];simp [h]
theorem Y3{F:Nat}{o:OW}{i:Int}{l:List Int}(h:ix o.1 i=some l):OR F l=MQ F o i:=by
 funext j;unfold OR MQ;rw [h];rfl
theorem YO(F:Nat)(o:OW):OZ F o=MY F o:=by
 funext i;unfold OZ MY;split
 ·rcases h:ix o.1 i with _ | l
  ·rfl
  ·simp only [Option.bind_some];rw [Y3 h]
 ·rfl
theorem cb(F:Nat)(o:OW):f47 F o=f48 F o:=by
 unfold f47 f48;rw [YO];rfl
def VD(n:Nat)(d:DT):Prop:=0<=d.1/\d.1<(n:Int)/\0<=d.2.1/\d.2.1<(n:Int)/\d.1≠d.2.1/\1<=d.2.2/\d.2.2<=9
def CS(x:List Int):Prop:=x.length<=3/\∀c∈x,1<=c/\c<=9
structure VO (o:OW):Prop where
 n2:2<=o.1.length
 n5:o.1.length<=5
 cs:∀x∈o.1,CS x
 d8:o.2.length<=8
 ds:∀d∈o.2,VD o.1.length d
theorem VO.nv{o:OW}(h:VO o):NV 40 o:=⟨by have:=h.n5;omega,λx K=>by have:=(h.cs x K).1;omega,by have:=h.d8;omega⟩
theorem QN{α:Type}{P:α->Prop}{l:List α}{i:Nat}(hi:i<l.length)(h:∀x∈l.take i,P x)(k:P l[i]):∀x∈l.take (i+1),P x:=by
 intro x K;rw [List.take_add_one,List.getElem?_eq_getElem hi] at K;simp only [Option.toList_some,List.mem_append,List.mem_singleton] at K;rcases K with K | rfl
 ·exact h x K
 ·exact k
theorem eh{F:Nat}{d:DT}{n:Nat}(Y:n<1000):BO (f88 F (n:Int) d 9) (λr=>r=0↔VD n d):=by
 unfold f88;refine Bw ((n:Int) - 1) V (by omega) (by omega) (Bc (K6 _ _ _ _) ?_);refine BA (S:=λc=>c=true↔¬((0<=d.1/\d.1<(n:Int))/\0<=d.2.1/\d.2.1<(n:Int))) ?_ ?_
 ·refine C9 (λh=>Az ?_) (λh=>?_)
  ·simp at h;simp;omega
  ·refine Bw ((n:Int) - 1) V (by omega) (by omega) (Bc (K6 _ _ _ _) ?_);refine Az ?_;simp at h;simp;omega
 ·intro c O;refine C9 (λh=>Az ?_) (λh=>?_)
  ·have:=O.1 h;unfold VD;constructor
   ·intro h;cases h
   ·intro h;omega
  have Z:¬¬_:=λk=>h (O.2 k);refine C9 (λU=>Az ?_) (λU=>?_)
  ·unfold VD;constructor
   ·intro h;cases h
   ·intro h;omega
  refine Bc (K6 _ _ _ _) (C9 (λK=>Az ?_) (λK=>Az ?_))
  ·simp at K;unfold VD;constructor
   ·intro h;cases h
   ·intro h;omega
  ·simp at K;unfold VD;constructor
   ·intro h;omega
   ·intro h;rfl
theorem cY{F:Nat}{o:OW}(Z:100<F)(h:NV 40 o):BO (f48 F o) (λr=>r=0↔VO o):=by
 unfold f48;have ac:=h.l1;have ag:=h.l2;refine C9 (λg=>Az (iff_of_false (by decide) λv=>by have:=v.n2;omega)) (λal=>?_);refine C9 (λg=>Az (iff_of_false (by decide) λv=>by have:=v.n5;omega)) (λg2=>?_);refine BA (S:=λq=>(∃e,q=Sum.inl e/\e≠0/\¬∀x∈o.1,CS x)∨(q=Sum.inr ()/\∀x∈o.1,CS x)) ?_ ?_
 ·refine Em o.1.length (λi s=>s=(i:Int)/\∀x∈o.1.take i,CS x) ⟨V,by simp⟩ (by omega) ?_ ?_
  ·rintro i s hi ⟨rfl,K⟩;unfold MY;refine Da (by omega) (CO (m:=i) V hi ?_);have am:=h.n1 _ (List.getElem_mem hi);refine C9 (λg=>Az (.inl ⟨_,V,by decide,λk=>by have:=(k _ (List.getElem_mem hi)).1;omega⟩)) (λap=>?_);refine BA (S:=λq=>(q=Sum.inl 1/\¬CS o.1[i])∨(q=Sum.inr ()/\CS o.1[i])) ?_ ?_
   ·refine Em o.1[i].length (λj s=>s=(j:Int)/\∀c∈o.1[i].take j,1<=c/\c<=9) ⟨V,by simp⟩ (by omega) ?_ ?_
    ·rintro j s U ⟨rfl,O⟩;unfold MQ;refine CO (m:=i) V hi (Da (by omega) ?_);refine CO (m:=i) V hi (CO (m:=j) V U ?_);refine Bc (K6 _ _ _ _) (C9 (λg=>Az (.inl ⟨V,λk=>?_⟩)) (λg=>?_))
     ·have:=k.2 _ (List.getElem_mem U);simp at g;omega
     refine Bw ((j+1:Nat):Int) (by simp) (by omega) (by omega) (Az ⟨V,QN U O ?_⟩);simpa using g
    ·rintro s ⟨rfl,O⟩;unfold MQ;refine CO (m:=i) V hi ?_;rw [List.take_length] at O;exact Cb (by omega) (Az ⟨_,V,.inr ⟨V,by omega,O⟩⟩)
   ·rintro q (⟨rfl,g⟩ | ⟨rfl,g⟩)
    ·rw [Sum.elim_inl];exact Az (.inl ⟨_,V,by decide,λk=>g (k _ (List.getElem_mem hi))⟩)
    ·rw [Sum.elim_inr];exact Bw ((i+1:Nat):Int) (by simp) (by omega) (by omega) (Az ⟨V,QN hi K g⟩)
  ·rintro s ⟨rfl,K⟩;unfold MY;rw [List.take_length] at K;exact Cb (by omega) (Az ⟨_,V,.inr ⟨V,K⟩⟩)
 ·rintro q (⟨e,rfl,he,g⟩ | ⟨rfl,O⟩)
  ·rw [Sum.elim_inl];exact Az (iff_of_false he λv=>g v.cs)
  ·rw [Sum.elim_inr];refine C9 (λg=>Az (iff_of_false (by decide) λv=>by have:=v.d8;omega)) (λg2=>?_);refine BA (S:=λq=>(∃e,q=Sum.inl e/\e≠0/\¬∀d∈o.2,VD o.1.length d)∨(q=Sum.inr ()/\∀d∈o.2,VD o.1.length d)) ?_ ?_
   ·refine Em o.2.length (λi s=>s=(i:Int)/\∀d∈o.2.take i,VD o.1.length d) ⟨V,by simp⟩ (by omega) ?_ ?_
    ·rintro i s hi ⟨rfl,K⟩;unfold Q9;refine Da (by omega) (CO (m:=i) V hi ?_);refine BA (eh (by omega)) ?_;intro x Y;refine C9 (λg=>Az (.inl ⟨_,V,g,λk=>g (Y.2 (k _ (List.getElem_mem hi)))⟩)) (λg=>?_);exact Bw ((i+1:Nat):Int) (by simp) (by omega) (by omega) (Az ⟨V,QN hi K (Y.1 (Decidable.not_not.1 g))⟩)
    ·rintro s ⟨rfl,K⟩;unfold Q9;rw [List.take_length] at K;exact Cb (by omega) (Az ⟨_,V,.inr ⟨V,K⟩⟩)
   ·rintro q (⟨e,rfl,he,g⟩ | ⟨rfl,g⟩)
    ·rw [Sum.elim_inl];exact Az (iff_of_false he λv=>g v.ds)
    ·rw [Sum.elim_inr];exact Az (iff_of_true V ⟨by omega,by omega,O,by omega,g⟩)
theorem cA{F:Nat}{o:OW}(K:100<F)(h:NV 40 o):BO (f47 F o) (λr=>r=0↔VO o):=cb F o▸cY K h
theorem gj{F:Nat}{o:OW}(K:100<F)(h:VO o):f47 F o=some 0:=by
 obtain⟨r,O,U⟩:=cA K h.nv;rw [O,U.2 h]
theorem O7{F:Nat}{o:OW}(K:100<F)(h:VO o):f70 F o []=some (o,0):=by
 obtain⟨F,rfl⟩:∃k,F=k+1:=⟨F - 1,by omega⟩;unfold f70;rw [gj K h]
 rfl
theorem Zn(a n:Int):a % n=(a - n) % n:=by
 have h:a=(a - n)+n*1:=by omega
 conv=>lhs;rw [h]
 exact Int.add_mul_emod_self_left _ _ _
theorem dF{F k n:Nat}{b:HQ}(hb:BG k b)(av:k<900000)(aw:2<=n)(ay:n<900):BO (f40 F b (n:Int)) (λr=>VD n r.1/\BG (k+4) r.2):=by
 unfold f40;refine Bw ((n:Int) - 1) V (by omega) (by omega) (BA (Kt hb (by omega) (by omega)) ?_);rintro⟨x,az⟩ ⟨O,g2,U⟩;simp only at O g2 U ⊢;refine BA (QT U (by omega) (by omega) (by omega) (by omega)) ?_;rintro⟨x2,a0⟩ ⟨a1,am,Y⟩;simp only at a1 am Y ⊢;refine BA (U2 Y (by omega) (by simp) (by simp)) ?_;rintro⟨Z,a2⟩ ⟨ac,ag⟩;simp only at ac ag ⊢;refine Bw ((n:Int) - 1) V (by omega) (by omega) (BA (QT ag (by omega) (by omega) (by omega) (by omega)) ?_);rintro⟨K,a3⟩ ⟨ap,aq,al⟩;simp only at ap aq al ⊢;refine Bw (x+K) V (by omega) (by omega) (Bc (b:=(x+K).tmod n) (by unfold Pq;rw [if_neg (by omega)]) ?_);refine Az ⟨?_,al⟩;have e:(x+K).tmod n=(x+K) % n:=Int.tmod_eq_emod_of_nonneg (by omega);have p3:1<=Z/\Z<=9:=by
  simp only [List.mem_cons,List.not_mem_nil,or_false] at ac;omega
 have a4:(x+K) % (n:Int)<n:=Int.emod_lt_of_pos _ (by omega);have a5:0<=(x+K) % (n:Int):=Int.emod_nonneg _ (by omega);have a6:x≠(x+K) % (n:Int):=by
  rcases Int.lt_or_le (x+K) n with h | h
  ·rw [Int.emod_eq_of_lt (by omega) h];omega
  ·rw [Zn,Int.emod_eq_of_lt (by omega) (by omega)];omega
 refine⟨O,?_,?_,?_,?_,p3.1,p3.2⟩ <;> simp only [e] <;> omega
theorem bZ{F k:Nat}{b:HQ}{pm dm:Nat}(a7:100<F)(hb:BG k b)(a8:k<1000)(a9:2<=pm)(bb:pm<=5)(hd:dm<=8):BO (f31 F b pm dm) (λr=>VO r.1/\r.1.1.length<=pm/\r.1.2.length<=dm/\BG (k+100) r.2):=by
 unfold f31;refine BA (QT hb (by omega) (by omega) (by omega) (by omega)) ?_;rintro⟨n,be⟩ ⟨n1,n2,ay⟩;simp only at n1 n2 ay ⊢;obtain⟨n,rfl⟩:∃m:Nat,n=(m:Int):=⟨n.toNat,by omega⟩;refine BA (da ay (by omega) (by omega) (by omega)) ?_;rintro⟨bi,bn⟩ g2;simp only at g2 ⊢;refine BA (S:=λr=>r.2.2.2.length=n/\(∀x∈r.2.2.2,CS x)/\BG (k+30) (r.1,r.2.1,r.2.2.1)) ?_ ?_
 ·refine Em n (λi s=>s.2.2.2.2=(i:Int)/\s.1.length=i/\(∀x∈s.1,CS x)/\BG (k+2+5*i) (s.2.1,s.2.2.1,s.2.2.2.1)) ⟨V,V,by simp,g2⟩ (by omega) ?_ ?_
  ·rintro i ⟨az,l,t,ag,c⟩ hi ⟨al,am,ap,K⟩;simp only at al am ap K;subst al;unfold OD;refine Da (by simp only;omega) (BA (Kt K (by omega) (by omega)) ?_);rintro⟨c,bo⟩ ⟨c1,c2,aq⟩;simp only at c1 c2 aq ⊢;obtain⟨c,rfl⟩:∃m:Nat,c=(m:Int):=⟨c.toNat,by omega⟩;refine BA (S:=λr=>CS r.1/\BG (k+2+5*i+1+c) r.2) ?_ ?_
   ·refine Em c (λj s=>s.2.2.2.2=((c - j:Nat):Int)/\s.2.2.2.1.length=j/\(∀v∈s.2.2.2.1,1<=v/\v<=9)/\BG (k+2+5*i+1+j) (s.1,s.2.1,s.2.2.1)) ⟨V,V,by simp,aq⟩ (by omega) ?_ ?_
    ·rintro j ⟨l,t,ag,w,z⟩ a5 ⟨U,hw,O,K⟩;simp only at U hw O K;subst U;unfold OG;refine Da (by simp only;omega) (BA (S:=λr=>r.1.length=j+1/\(∀v∈r.1,1<=v/\v<=9)/\BG (k+2+5*i+1+(j+1)) r.2) ?_ ?_)
     ·refine C9 (λ_=>?_) (λ_=>?_)
      ·refine Kf (by simp only;omega) (Az ⟨by simp [hw],?_,K.Ag (by omega)⟩);intro v h;rcases List.mem_append.1 h with h | h
       ·exact O v h
       ·have:=List.mem_singleton.1 h;omega
      ·refine BA (U2 K (by omega) (by simp) (by simp)) ?_;rintro⟨v,a6⟩ ⟨a0,av⟩;simp only at a0 av ⊢;refine Kf (by omega) (Az ⟨by simp [hw],?_,av⟩);intro u h;rcases List.mem_append.1 h with h | h
       ·exact O u h
       ·have:=List.mem_singleton.1 h;subst this;simp only [List.mem_cons,List.not_mem_nil,or_false] at a0;omega
     ·rintro⟨w',l',bv,bw⟩ ⟨Z,aw,ac⟩;simp only at Z ac aw ⊢;exact Bw ((c - (j+1):Nat):Int) (by omega) (by omega) (by omega) (Az ⟨V,Z,aw,ac⟩)
    ·rintro⟨l,t,ag,w,z⟩ ⟨U,hw,O,K⟩;simp only at U hw O K;subst U;unfold OG;exact Cb (by simp) (Az ⟨_,V,⟨by simp only;omega,O⟩,K⟩)
   ·rintro⟨w,a6⟩ ⟨Z,ac⟩;simp only at Z ac ⊢;refine Kf (by omega) (Bw ((i+1:Nat):Int) (by simp) (by omega) (by omega) ?_);refine Az ⟨V,by simp [am],λx Y=>?_,ac.Ag (by omega)⟩;simp only [List.mem_append,List.mem_singleton] at Y;rcases Y with Y | rfl
    ·exact ap x Y
    ·exact Z
  ·rintro⟨az,l,t,ag,c⟩ ⟨al,am,ap,K⟩;simp only at al am ap K;subst al;unfold OD;exact Cb (by simp) (Az ⟨_,V,am,ap,K.Ag (by omega)⟩)
 ·rintro⟨l,t,ag,az⟩ ⟨a1,p2,aq⟩;simp only at a1 p2 aq ⊢;refine BA (Kt aq (by omega) (by omega)) ?_;rintro⟨c,bx⟩ ⟨c1,c2,av⟩;simp only at c1 c2 av ⊢;obtain⟨c,rfl⟩:∃m:Nat,c=(m:Int):=⟨c.toNat,by omega⟩;refine BA (S:=λr=>r.2.2.2.length<=dm/\(∀d∈r.2.2.2,VD n d)/\BG (k+100) (r.1,r.2.1,r.2.2.1)) ?_ ?_
  ·refine Em c (λj s=>s.2.2.2.2=((c - j:Nat):Int)/\s.1.length=j/\(∀d∈s.1,VD n d)/\BG (k+31+4*j) (s.2.1,s.2.2.1,s.2.2.2.1)) ⟨V,V,by simp,av.Ag (by omega)⟩ (by omega) ?_ ?_
   ·rintro j ⟨a2,l,t,ag,z⟩ a5 ⟨U,hw,O,K⟩;simp only at U hw O K;subst U;unfold OJ;refine Da (by simp only;omega) (BA (dF K (by omega) (by omega) (by omega)) ?_);rintro⟨d,bz⟩ ⟨a3,a4⟩;simp only at a3 a4 ⊢;refine BO.No (by simp;omega) (Bw ((c - (j+1):Nat):Int) (by omega) (by omega) (by omega) ?_);refine Az ⟨V,by simp [hw],?_,a4.Ag (by omega)⟩;intro x Y;rcases List.mem_append.1 Y with Y | Y
    ·exact O x Y
    ·cases List.mem_singleton.1 Y;exact a3
   ·rintro⟨a2,l,t,ag,z⟩ ⟨U,hw,O,K⟩;simp only at U hw O K;subst U;unfold OJ;exact Cb (by simp) (Az ⟨_,V,by simp only;omega,O,K.Ag (by omega)⟩)
  ·rintro⟨l,t,ag,a2⟩ ⟨Z,aw,ac⟩;simp only at Z ac aw ⊢;exact Az ⟨⟨by simp only;omega,by simp only;omega,p2,by simp only;omega,by simp only;rw [a1];exact aw⟩,by simp only;omega,Z,ac⟩
abbrev PR:=Int×Int
def gN(l:List Int)(i:Nat):Int:=l.getD i 0
def EL(l:List Int)(i v:Int):List Int:=l.set i.toNat (gN l i.toNat+v)
def BN(B:Int)(l:List Int):Prop:=l.length=5/\∀x∈l,-B<=x/\x<=B
theorem Kp{l:List Int}{i:Nat}(h:i<l.length):gN l i=l[i]:=by unfold gN;rw [List.getD_eq_getElem?_getD,List.getElem?_eq_getElem h];rfl
theorem BN.bd{B:Int}{l:List Int}(h:BN B l){i:Nat}(hi:i<5): -B<=gN l i/\gN l i<=B:=by
 rw [Kp (by have:=h.1;omega)];exact h.2 _ (List.getElem_mem _)
theorem BN.ix{B:Int}{l:List Int}(h:BN B l){i:Int}(K:0<=i)(hi:i<5):ix l i=some (gN l i.toNat):=by
 have:=h.1;rw [Kp (show i.toNat<l.length by omega)];exact Jf (m:=i.toNat) (by omega) (List.getElem?_eq_getElem _)
theorem BN.Ag{B C:Int}{l:List Int}(h:BN B l)(O:B<=C):BN C l:=⟨h.1,λx K=>by have:=h.2 x K;omega⟩
theorem BN.add{B V:Int}{l:List Int}(h:BN B l){i v:Int}(O:0<=i)(hi:i<5)(U: -V<=v)(Y:v<=V):BN (B+V) (EL l i v):=by
 have hb:=h.bd (i:=i.toNat) (by omega);refine⟨by unfold EL;rw [List.length_set];exact h.1,λx K=>?_⟩;rcases List.mem_or_eq_of_mem_set K with K | rfl
 ·have:=h.2 x K;omega
 ·omega
theorem He{l:List Int}{i v:Int}(h:l.length=5)(K:0<=i)(hi:i<5)(j:Nat):gN (EL l i v) j=gN l j+if(j:Int)=i then v else 0:=by
 unfold EL gN;rw [List.getD_eq_getElem?_getD,List.getElem?_set,List.getD_eq_getElem?_getD,List.getD_eq_getElem?_getD];by_cases e:i.toNat=j
 ·rw [if_pos e,if_pos (by omega),if_pos (by omega),e];rfl
 ·rw [if_neg e,if_neg (by omega),Int.add_zero]
theorem Ob{l l':List Int}(h:l.length=5)(U:l'.length=5)(k:∀j,j<5->gN l j=gN l' j):l=l':=by
 refine List.ext_getElem (by omega) λj K O=>?_;rw [← Kp K,← Kp O];exact k j (by omega)
def Cv(l:List Int)(d:DT):List Int:=EL (EL l d.1 d.2.2) d.2.1 (-d.2.2)
def Gk(l:List Int)(d:DT):List Int:=EL (EL l d.2.1 d.2.2) d.1 (-d.2.2)
def Bv(o:OW):List Int:=o.2.foldl Gk (List.replicate 5 0)
theorem QD{F:Nat}{B:Int}{l:List Int}{d:DT}(h:BN B l)(a1:0<=d.1)(O:d.1<5)(U:0<=d.2.1)(Y:d.2.1<5)(Z: -B<=d.2.2)(p2:d.2.2<=B)(ac:B<=1000000000000):f204 F l d=some (Cv l d)/\BN (3*B) (Cv l d):=by
 have K:=h.add a1 O Z p2;have g2:=K.add U Y (show -B<= -d.2.2 by omega) (by omega);have k1:=h.bd (i:=d.1.toNat) (by omega);have ag:=K.bd (i:=d.2.1.toNat) (by omega);refine⟨?_,g2.Ag (by omega)⟩;refine CW ?_;unfold f204;refine Bc (h.ix a1 O) ?_;refine Bw _ V (by omega) (by omega) ?_;refine Bc (h.ix a1 O) ?_;refine Bc (K.ix U Y) ?_;refine Bw _ V (by omega) (by omega) ?_;refine Bc (K.ix U Y) ?_;exact Az V
theorem K5{F:Nat}{o:OW}(ac:100<F)(h:VO o):f84 F o=some (Bv o)/\BN 200 (Bv o):=by
 have ag:=h.n5;have al:=h.d8;have:BO (f84 F o) (λr=>r=Bv o/\BN 200 r):=by
  unfold f84;refine BA (S:=λr=>r=Bv o/\BN 200 r) ?_ (λr U=>Az U);refine Em o.2.length (λi s=>s.2=(i:Int)/\s.1=(o.2.take i).foldl Gk (List.replicate 5 0)/\BN (20*i) s.1) ⟨rfl,rfl,rfl,by simp⟩ (by omega) ?_ ?_
  ·rintro i ⟨w,c⟩ hi ⟨K,hw,hb⟩;simp only at K hw hb;subst K;obtain⟨v1,v2,am,v4,ap,v6,aq⟩:=h.ds _ (List.getElem_mem hi);have O:=hb.add (i:=o.2[i].2.1) (v:=o.2[i].2.2) (V:=10) (by omega) (by omega) (by omega) (by omega);have g2:=O.add (i:=o.2[i].1) (v:= -o.2[i].2.2) (V:=10) (by omega) (by omega) (by omega) (by omega);have k1:=hb.bd (i:=o.2[i].2.1.toNat) (by omega);have av:=O.bd (i:=o.2[i].1.toNat) (by omega);unfold OQ;refine Da (by simp only;omega) (CO (m:=i) rfl hi ?_);refine Bc (hb.ix (by omega) (by omega)) (Bw _ rfl (by omega) (by omega) ?_);refine Bc (hb.ix (by omega) (by omega)) (Bc (O.ix (by omega) (by omega)) ?_);refine Bw _ rfl (by omega) (by omega) (Bc (O.ix (by omega) (by omega)) ?_);refine Bw ((i+1:Nat):Int) (by simp) (by omega) (by omega) (Az ⟨rfl,?_,g2.Ag (by omega)⟩);simp only;rw [List.take_add_one,List.getElem?_eq_getElem hi,List.foldl_append,← hw]
   rfl
  ·rintro⟨w,c⟩ ⟨K,hw,hb⟩;simp only at K hw hb;subst K;unfold OQ;rw [List.take_length] at hw;exact Cb (by simp) (Az ⟨_,rfl,hw,hb.Ag (by omega)⟩)
 obtain⟨r,Y,rfl,Z⟩:=this;exact⟨Y,Z⟩
theorem Y6{l:List Int}{i:Nat}(hi:i<l.length):(l.take (i+1)).sum=(l.take i).sum+l[i]:=by
 rw [List.take_add_one,List.getElem?_eq_getElem hi,List.sum_append];simp only [Option.toList_some,List.sum_cons,List.sum_nil];omega
theorem b8{F:Nat}{l:List Int}(ag:100<F)(al:l.length<=20)(hb:∀x∈l,-1000<=x/\x<=1000):f85 F l=some l.sum/\ -20000<=l.sum/\l.sum<=20000:=by
 have:BO (f85 F l) (λr=>r=l.sum/\ -20000<=r/\r<=20000):=by
  unfold f85;refine BA (S:=λr=>r=l.sum/\ -20000<=r/\r<=20000) ?_ (λr Y=>Az Y);refine Em l.length (λi s=>s.2=(i:Int)/\s.1=(l.take i).sum/\ -(1000*(i:Int))<=s.1/\s.1<=1000*(i:Int)) ⟨V,V,by simp,by simp⟩ (by omega) ?_ ?_
  ·rintro i ⟨w,c⟩ hi ⟨K,hw,O,U⟩;simp only at K hw O U;subst K;have am:=hb _ (List.getElem_mem hi);unfold OP;refine Da (by simp only;omega) (CO (m:=i) V hi ?_);refine Bw _ V (by omega) (by omega) (Bw ((i+1:Nat):Int) (by simp) (by omega) (by omega) ?_);refine Az ⟨V,?_,?_,?_⟩
   ·simp only;rw [Y6 hi,hw]
   ·simp only;omega
   ·simp only;omega
  ·rintro⟨w,c⟩ ⟨K,hw,O,U⟩;simp only at K hw O U;subst K;unfold OP;rw [List.take_length] at hw;exact Cb (by simp) (Az ⟨_,V,hw,by simp only;omega,by simp only;omega⟩)
 obtain⟨r,Z,rfl,ac⟩:=this;exact⟨Z,ac⟩
def VP(n:Nat)(x:PR):Prop:=0<=x.1/\x.1<x.2/\x.2<(n:Int)
def IX(b:Nat)(k:Nat):List PR:=(List.range k).map λa:Nat=>((a:Int),(b:Int))
def DR(n:Nat):List PR:=(List.range n).flatMap λb=>IX b b
theorem XU(b k:Nat):IX b (k+1)=IX b k++ [((k:Int),(b:Int))]:=by unfold IX;rw [List.range_succ,List.map_append];rfl
theorem W0(n:Nat):DR (n+1)=DR n++IX n n:=by unfold DR;rw [List.range_succ,List.flatMap_append];simp
theorem Qk{n:Nat}{x:PR}(h:x∈DR n):VP n x:=by
 unfold DR IX at h;obtain⟨b,hb,h⟩:=List.mem_flatMap.1 h;obtain⟨a,K,rfl⟩:=List.mem_map.1 h;have:=List.mem_range.1 hb;have:=List.mem_range.1 K;exact⟨by simp only;omega,by simp only;omega,by simp only;omega⟩
theorem Tr(b k:Nat):(IX b k).length=k:=by unfold IX;simp
theorem Sn{n:Nat}(h:n<=5):(DR n).length<=10:=by
 have e:∀n,n<=5->(DR n).length<=n*2:=by
  intro n K
  match n,K with
  | 0,_ | 1,_ | 2,_ | 3,_ | 4,_ | 5,_=>decide
 have:=e n h;omega
theorem aO{F:Nat}{o:OW}(Z:100<F)(ac:o.1.length<=5):f133 F o=some (DR o.1.length):=by
 refine CW ?_;unfold f133;refine BA (S:=λr=>r=DR o.1.length) ?_ (λr Y=>Az Y);refine Em o.1.length (λi s=>s.2=(i:Int)/\s.1=DR i/\s.1.length<=10*i) ⟨V,V,by simp⟩ (by omega) ?_ ?_
 ·rintro i ⟨w,c⟩ hi ⟨K,hw,U⟩;simp only at K hw U;subst K;unfold Ol;refine Da (by simp only;omega) (BA (S:=λr=>r=DR i++IX i i) ?_ ?_)
  ·refine Em i (λa s=>s.2=(a:Int)/\s.1=DR i++IX i a) ⟨V,by simp [IX,hw]⟩ (by omega) ?_ ?_
   ·rintro a ⟨v,c⟩ ag ⟨K,O⟩;simp only at K O;subst K;unfold Od;refine Da (by simp only;omega) (Kf ?_ ?_)
    ·rw [O,← hw,List.length_append,Tr];omega
    refine Bw ((a+1:Nat):Int) (by simp) (by omega) (by omega) (Az ⟨V,?_⟩);simp only;rw [XU,O,List.append_assoc]
   ·rintro⟨v,c⟩ ⟨K,O⟩;simp only at K O;subst K;unfold Od;exact Cb (by simp) (Az ⟨_,V,O⟩)
  ·rintro r rfl;refine Bw ((i+1:Nat):Int) (by simp) (by omega) (by omega) (Az ⟨V,(W0 i).symm,?_⟩);simp only;rw [List.length_append,Tr,← hw];omega
 ·rintro⟨w,c⟩ ⟨K,hw,U⟩;simp only at K hw U;subst K;unfold Ol;exact Cb (by simp) (Az ⟨_,V,hw⟩)
def BF(p:Int)(x:PR):Bool:=decide (x.1=p) || decide (x.2=p)
theorem R0{α:Type}{p:α->Bool}:∀{l:List α} {a:Nat},l.countP p=1->∀O:a<l.length,p l[a]=true->l.findIdx p=a
 | x::xs,0,_,_,K=>by
  have K:p x=true:=K
  rw [List.findIdx_cons,K];rfl
 | x::xs,a+1,h,O,K=>by
  have K:p (xs[a]'(by simpa using O))=true:=K
  have Y:0<xs.countP p:=List.countP_pos_iff.2 ⟨_,List.getElem_mem _,K⟩
  by_cases U:p x=true
  ·rw [List.countP_cons_of_pos U] at h;omega
  ·rw [List.countP_cons_of_neg U] at h;rw [List.findIdx_cons,Bool.eq_false_iff.2 U];simp only [cond_false];rw [R0 h (by simpa using O) K]
def IP(n:Nat)(l:List PR):Option Nat:=(List.range n).find? λp=>l.countP (BF p)==1
def dP(p:Int)(x:PR)(m:Int):DT:=if 0<m then(x.1+x.2 - p,p,m) else(p,x.1+x.2 - p,-m)
def EK(n:Nat):Nat->List PR->List Int->List DT->Option (List DT)
 | 0,_,w,out=>if w=List.replicate 5 0 then some out else none
 | k+1,l,w,out=>(IP n l).bind λp=>
   if gN w p=0 then none else
    EK n k (l.eraseIdx (l.findIdx (BF p))) (Cv w (dP p (l.getD (l.findIdx (BF p)) (0,0)) (gN w p))) (out++ [dP p (l.getD (l.findIdx (BF p)) (0,0)) (gN w p)])
def Nc:Option (List DT)->Bool×List Int×List DT
 | none=>(true,default)
 | some out=>(false,List.replicate 5 0,out)
theorem XC{F:Nat}{l:List PR}{p:Int}(am:100<F)(ap:l.length<=20):BO (Pal.iter (MN F l p) F (0,0,0)) (λr=>r.2=((l.countP (BF p):Nat):Int)/\(r.2=1->r.1=(l.findIdx (BF p):Nat)/\l.findIdx (BF p)<l.length)):=by
 refine Em l.length (λi s=>s.2.2=(i:Int)/\s.2.1=(((l.take i).countP (BF p):Nat):Int)/\(s.2.1≠0->∃a,s.1=((a:Nat):Int)/\∃h:a<l.length,BF p l[a]=true)) ⟨V,by simp,by simp⟩ (by omega) ?_ ?_
 ·rintro i ⟨a,m,c⟩ hi ⟨K,hm,O⟩;simp only at K hm O;subst K;have hle:(l.take i).countP (BF p)<=i:=by
   refine Nat.le_trans List.countP_le_length ?_;rw [List.length_take];omega
  unfold MN;refine Da (by simp only;omega) (CO (m:=i) V hi ?_);refine BA (S:=λc=>c=BF p l[i]) ?_ ?_
  ·unfold BF;refine C9 (λh=>Az (by simp [h])) (λh=>Az (by simp [h]))
  rintro c rfl;have key:(l.take (i+1)).countP (BF p)=(l.take i).countP (BF p)+if BF p l[i]=true then 1 else 0:=by
   rw [List.take_add_one,List.getElem?_eq_getElem hi,List.countP_append];simp only [Option.toList_some,List.countP_cons,List.countP_nil,Nat.zero_add]
  refine BA (S:=λr=>r.2=(((l.take (i+1)).countP (BF p):Nat):Int)/\(r.2≠0->∃a,r.1=((a:Nat):Int)/\∃h:a<l.length,BF p l[a]=true)) ?_ ?_
  ·refine C9 (λh=>?_) (λh=>?_)
   ·refine Bw (((l.take (i+1)).countP (BF p):Nat):Int) ?_ (by omega) ?_ (Az ⟨V,λ_=>⟨i,V,hi,h⟩⟩)
    ·rw [key,if_pos h,hm];rfl
    ·rw [key,if_pos h];omega
   ·exact Az ⟨by rw [key,if_neg h];exact hm,O⟩
  ·rintro⟨aq,m'⟩ ⟨U,Y⟩;simp only at U Y ⊢;exact Bw ((i+1:Nat):Int) (by simp) (by omega) (by omega) (Az ⟨V,U,Y⟩)
 ·rintro⟨a,m,c⟩ ⟨K,hm,O⟩;simp only at K hm O;subst K;rw [List.take_length] at hm;unfold MN;refine Cb (by simp) (Az ⟨_,V,hm,λac=>?_⟩);simp only at ac;obtain⟨k,ag,Z,al⟩:=O (by omega);have:=R0 (p:=BF p) (l:=l) (a:=k) (by omega) Z al;simp only;rw [this];exact⟨ag,Z⟩
theorem Xy{n:Nat}{l:List PR}{i:Nat}(hi:i<n)(K:l.countP (BF i)=1)(h:∀p,p<i->l.countP (BF p)≠1):IP n l=some i:=by
 unfold IP;rw [List.find?_range_eq_some];exact⟨by simp [K],List.mem_range.2 hi,λj O=>by simpa using h j O⟩
theorem Xa{n:Nat}{l:List PR}(h:∀p,p<n->l.countP (BF p)≠1):IP n l=none:=by
 unfold IP;rw [List.find?_eq_none];intro p K;simpa using h p (List.mem_range.1 K)
theorem VY{n:Nat}{p:Nat}{x:PR}{m B:Int}(U:n<=5)(O:VP n x)(K:BF p x=true)(Y: -B<=m)(Z:m<=B):0<=(dP p x m).1/\(dP p x m).1<5/\0<=(dP p x m).2.1/\(dP p x m).2.1<5/\0<=(dP p x m).2.2/\(dP p x m).2.2<=B:=by
 obtain⟨v1,v2,ac⟩:=O;unfold BF at K;simp at K;unfold dP;split <;> simp only <;> omega
theorem H5{α:Type}{l:List α}{i:Nat}{d:α}(h:i<l.length):l.getD i d=l[i]:=by rw [List.getD_eq_getElem?_getD,List.getElem?_eq_getElem h];rfl
theorem UH{F n:Nat}{q:OW}(Z:100<F)(az:q.1.length=n)(am:n<=5):∀(k N:Nat) (l:List PR) (w:List Int) (out:List DT) (B:Int),l.length=k->k<N->k<=10->(∀x∈l,VP n x)->BN B w->0<=B->B*3 ^ k<=1000000000000->out.length+k<=100->LV N F l w q out=some (Nc (EK n k l w out))
 | 0,N,l,w,out,B,a0,a1,_,ac,hw,ap,aq,a2=>by
  obtain⟨N,rfl⟩:∃k,N=k+1:=⟨N - 1,by omega⟩
  refine CW ?_
  simp only [LV]
  unfold MW EK
  refine Da (by omega) ?_
  refine C9 (λh=>Az ?_) (λh=>Az ?_)
  ·rw [if_neg h];rfl
  ·have h:=Decidable.not_not.1 h;rw [if_pos h,h];rfl
 | k+1,N,l,w,out,B,a0,a1,bo,ac,hw,ap,aq,a2=>by
  obtain⟨N,rfl⟩:∃k,N=k+1:=⟨N - 1,by omega⟩;refine CW ?_;simp only [LV];unfold MW;refine Cb (by omega) ?_;have a3:B*3 ^ (k+1)=(3*B)*3 ^ k:=by rw [Int.pow_succ];rw [Int.mul_comm (3 ^ k) 3,← Int.mul_assoc,Int.mul_comm B 3]
  have a4:B<=1000000000000:=by
   have ag:(1:Int)<=3 ^ (k+1):=by
    have:(0:Int)<3 ^ (k+1):=Int.pow_pos (by decide);omega
   have:=Int.mul_le_mul_of_nonneg_left ag ap;omega
  refine BA (S:=λr=>r=Sum.inl (Nc (EK n (k+1) l w out))∨(r=Sum.inr ()/\IP n l=none)) ?_ ?_
  ·refine Em n (λi s=>s=(i:Int)/\∀p,p<i->l.countP (BF (p:Nat))≠1) ⟨V,by simp⟩ (by omega) ?_ ?_
   ·rintro i s hi ⟨rfl,O⟩;unfold Oz;refine Da (by omega) (BA (S:=λr=>(r=Sum.inr ()/\l.countP (BF i)≠1)∨r=Sum.inl (Nc (EK n (k+1) l w out))) ?_ ?_)
    ·refine BA (XC Z (by omega)) ?_;rintro⟨a,m⟩ ⟨av,U⟩;simp only at av U ⊢;refine C9 (λh=>Az (.inl ⟨V,λag=>h (by rw [av,ag];rfl)⟩)) (λh=>?_);have h:=Decidable.not_not.1 h;obtain⟨U,K⟩:=U h;have a5:l.countP (BF i)=1:=by omega
     subst U;have a6:=Xy hi a5 O;refine CO (m:=l.findIdx (BF i)) V K (CO (m:=l.findIdx (BF i)) V K ?_);have a7:BF i l[l.findIdx (BF i)]=true:=List.findIdx_getElem;have Y:=ac _ (List.getElem_mem K);have a8:=Y;obtain⟨bv,x2,bw⟩:=a8;have hb:=hw.bd (i:=i) (by omega);refine Bw (-(i:Int)) V (by omega) (by omega) (Bc (hw.ix (by omega) (by omega)) ?_);rw [show Int.toNat (i:Int)=i by omega];refine Bc (b8 (l:= [_,_,_]) Z (by simp) (by simp;omega)).1 (Bw (-(gN w i)) V (by omega) (by omega) ?_);have aw:EK n (k+1) l w out=if gN w i=0 then none else EK n k (l.eraseIdx (l.findIdx (BF i))) (Cv w (dP i l[l.findIdx (BF i)] (gN w i))) (out++ [dP i l[l.findIdx (BF i)] (gN w i)]):=by
      simp only [EK,a6,Option.bind_some,H5 K]
     refine C9 (λh=>Az (.inr ?_)) (λh=>?_)
     ·rw [aw,if_pos (by omega)];rfl
     have ay:=aw;rw [if_neg (show ¬gN w i=0 by omega)] at ay;rw [ay];refine BA (S:=λr=>r=dP i l[l.findIdx (BF i)] (gN w i)) ?_ ?_
     ·unfold dP;refine C9 (λh=>?_) (λh=>?_)
      ·refine Bw (gN w i) (by omega) (by omega) (by omega) (Az ?_);rw [if_pos (by omega)];simp only [List.sum_cons,List.sum_nil];refine Prod.ext ?_ V;simp only;omega
      ·refine Az ?_;rw [if_neg (by omega)];simp only [List.sum_cons,List.sum_nil];refine Prod.ext V (Prod.ext ?_ V);simp only;omega
     rintro d rfl;obtain⟨a9,e2,bb,be,bx,bi⟩:=VY am Y a7 hb.1 hb.2;obtain⟨bn,g2⟩:=QD (F:=F) hw a9 e2 bb be (by omega) bi a4;refine Bc bn (BO.No (by simp;omega) ?_);refine Bc (b:=l.take (l.findIdx (BF i))) (by unfold HL;rw [if_pos (by omega)];simp) (Bw ((l.findIdx (BF i)+1:Nat):Int) (by simp) (by omega) (by omega) ?_);refine Bc (b:=l.drop (l.findIdx (BF i)+1)) ?_ ?_
     ·unfold HL;rw [if_pos (by omega),show Int.toNat (l.length:Int)=l.length by omega,List.take_length,show Int.toNat ((l.findIdx (BF i)+1:Nat):Int)=l.findIdx (BF i)+1 by omega]
     refine BO.No (by simp;omega) ?_;have he:l.take (l.findIdx (BF i))++l.drop (l.findIdx (BF i)+1)=l.eraseIdx (l.findIdx (BF i)):=(List.eraseIdx_eq_take_drop_succ _ _).symm;rw [he];have hle:(l.eraseIdx (l.findIdx (BF i))).length=k:=by rw [List.length_eraseIdx_of_lt K];omega
     refine Bc (UH Z az am k N _ _ _ (3*B) hle (by omega) (by omega) (λx Y=>ac x (List.mem_of_mem_eraseIdx Y)) g2 (by omega) (by rw [← a3];exact aq) (by simp;omega)) ?_;rcases EK n k _ _ _ with _ | r
     ·exact Da V (Az (.inr V))
     ·exact Cb (by simp [Nc]) (Az (.inr V))
    ·rintro r (⟨rfl,h⟩ | rfl)
     ·rw [Sum.elim_inr];refine Bw ((i+1:Nat):Int) (by simp) (by omega) (by omega) (Az ⟨V,λp al=>?_⟩);rcases Nat.lt_succ_iff_lt_or_eq.1 al with al | rfl
      ·exact O p al
      ·exact h
     ·rw [Sum.elim_inl];exact Az (.inl V)
   ·rintro s ⟨rfl,O⟩;unfold Oz;exact Cb (by omega) (Az ⟨_,V,.inr ⟨V,Xa O⟩⟩)
  ·rintro r (rfl | ⟨rfl,h⟩)
   ·rw [Sum.elim_inl];exact Az V
   ·rw [Sum.elim_inr];refine Az ?_;simp only [EK,h,Option.bind_none]
    rfl
def BD(d:DT):Prop:= -1000000000000000<=d.1/\d.1<=1000000000000000/\ -1000000000000000<=d.2.1/\d.2.1<=1000000000000000/\ -1000000000000000<=d.2.2/\d.2.2<=1000000000000000
theorem Qj{n:Nat}(ac:n<=5):∀(k:Nat) (l:List PR) (w:List Int) (out r:List DT) (B:Int),l.length=k->(∀x∈l,VP n x)->BN B w->0<=B->B*3 ^ k<=1000000000000->(∀d∈out,BD d)->EK n k l w out=some r->(∀d∈r,BD d)/\r.length=out.length+k
 | 0,l,w,out,r,B,ap,O,hw,ag,al,U,h=>by
  unfold EK at h
  split at h
  ·cases h;exact⟨U,V⟩
  ·cases h
 | k+1,l,w,out,r,B,ap,O,hw,ag,al,U,h=>by
  have aq:B*3 ^ (k+1)=(3*B)*3 ^ k:=by rw [Int.pow_succ];rw [Int.mul_comm (3 ^ k) 3,← Int.mul_assoc,Int.mul_comm B 3]
  have av:B<=1000000000000:=by
   have aw:(1:Int)<=3 ^ (k+1):=by
    have:(0:Int)<3 ^ (k+1):=Int.pow_pos (by decide);omega
   have:=Int.mul_le_mul_of_nonneg_left aw ag;omega
  unfold EK at h;obtain⟨p,am,h⟩:=bind_some h;split at h
  ·cases h
  unfold IP at am;obtain⟨c1,c2,c3⟩:=List.find?_range_eq_some.1 am;have a3:l.countP (BF p)=1:=by simpa using c1
  have c2:=List.mem_range.1 c2;have Y:l.findIdx (BF p)<l.length:=by
   obtain⟨x,K,Z⟩:=List.countP_pos_iff.1 (show 0<l.countP (BF p) by omega);exact List.findIdx_lt_length_of_exists ⟨x,K,Z⟩
  rw [H5 Y] at h;have Z:BF p l[l.findIdx (BF p)]=true:=List.findIdx_getElem;have K:=O _ (List.getElem_mem Y);have hb:=hw.bd (i:=p) (by omega);obtain⟨ay,e2,az,a0,a4,a1⟩:=VY ac K Z hb.1 hb.2;obtain⟨a5,g2⟩:=QD (F:=0) hw ay e2 az a0 (by omega) a1 av;obtain⟨k1,a2⟩:=Qj ac k _ _ _ r (3*B) (by rw [List.length_eraseIdx_of_lt Y];omega) (λx K=>O x (List.mem_of_mem_eraseIdx K)) g2 (by omega) (by rw [← aq];exact al) (by
   intro d hd
   rcases List.mem_append.1 hd with hd | hd
   ·exact U d hd
   ·cases List.mem_singleton.1 hd
    refine⟨?_,?_,?_,?_,?_,?_⟩ <;> omega) h
  refine⟨k1,?_⟩;rw [a2];simp;omega
theorem Se{α:Type}(l:List α):l= []∨∃A y,l=A++ [y]:=by
 rcases List.eq_nil_or_concat l with h | ⟨A,y,h⟩
 ·exact .inl h
 ·exact .inr ⟨A,y,by rw [h,List.concat_eq_append]⟩
def Pm{α:Type}(less:α->α->Option Bool)(s:Int×List α):Option (Bn (Int×List α) (List α)):=
 Option.bind (
  if 0<s.1 then(
   (ix s.2 (s.1)).bind λx=>
   (Au (s.1 - 1)).bind λj=>
   (ix s.2 (j)).bind λy=>
   (less x y).bind λc=>
   some c
  ) else(
   some false
  )
 ) λc=>
 if c=true then(
  (Au (s.1 - 1)).bind λj=>
  (Au (s.1 - 1)).bind λk=>
  (ix s.2 (k)).bind λy=>
  (ix s.2 (s.1)).bind λx=>
  (ix (s.2.set (Int.toNat s.1) y) (j)).bind λ_=>
  (Au (s.1 - 1)).bind λm=>
  some (.more (m,((s.2.set (Int.toNat s.1) y).set (Int.toNat j) x)))
 ) else(
  some (.done s.2)
 )
theorem bu{α:Type}{less:α->α->Option Bool}{lt:α->α->Bool}{F:Nat}{P:List α}{x:α}(R:List α)(aw:P.length<F)(ay:P.length<=1024)(ap:∀y∈P,less x y=some (lt x y)):
  BO (Pal.iter (Pm less) F ((P.length:Int),P++x::R)) (λr=>∃A B,P=A++B/\r=A++x::(B++R)/\(∀b∈B,lt x b=true)/\(A= []∨∃K y,A=K++ [y]/\lt x y=false)):=by
 refine Qm (λm s=>∃A B,A.length=m/\s.1=((m:Nat):Int)/\s.2=A++x::(B++R)/\P=A++B/\∀b∈B,lt x b=true) ?_ (m:=P.length) ⟨P,[],V,V,V,by simp,by simp⟩ (by omega);rintro m ⟨c,v⟩ ⟨A,B,U,ag,O,Y,al⟩;simp only at ag O;subst ag;have az:A.length+B.length=P.length:=by rw [Y,List.length_append]
 have am:v[m]? =some x:=by rw [O,List.getElem?_append_right (by omega),U,Nat.sub_self];rfl
 unfold Pm;refine BA (S:=λc=>(c=true/\∃K y,A=K++ [y]/\lt x y=true)∨(c=false/\(A= []∨∃K y,A=K++ [y]/\lt x y=false))) ?_ ?_
 ·refine C9 (λh=>?_) (λh=>?_)
  ·simp only at h;rcases Se A with rfl | ⟨K,y,rfl⟩
   ·simp at U;omega
   have aq:K.length+1=m:=by simpa using U
   have ac:v[m - 1]? =some y:=by rw [O,List.append_assoc,List.getElem?_append_right (by omega),show m - 1 - K.length=0 by omega];rfl
   refine Bc (Jf V am) (Bw ((m - 1:Nat):Int) (by simp only;omega) (by omega) (by omega) ?_);refine Bc (Jf V ac) (Bc (ap y (by rw [Y];simp)) ?_);refine Az ?_;cases Z:lt x y with
   | true=>exact .inl ⟨rfl,K,y,rfl,Z⟩
   | false=>exact .inr ⟨rfl,.inr ⟨K,y,rfl,Z⟩⟩
  ·refine Az (.inr ⟨V,.inl ?_⟩);cases A with
   | nil=>rfl
   | cons a A=>simp at U h;omega
 ·rintro c (⟨rfl,K,y,rfl,Z⟩ | ⟨rfl,av⟩)
  ·have aq:K.length+1=m:=by simpa using U
   have ac:v[m - 1]? =some y:=by rw [O,List.append_assoc,List.getElem?_append_right (by omega),show m - 1 - K.length=0 by omega];rfl
   have a0:m<v.length:=by rw [O];simp;omega
   refine Da V (Bw ((m - 1:Nat):Int) (by simp only;omega) (by omega) (by omega) ?_);refine Bw ((m - 1:Nat):Int) (by simp only;omega) (by omega) (by omega) (Bc (Jf V ac) ?_);refine Bc (Jf V am) (CO (m:=m - 1) V (by simp only [List.length_set];omega) ?_);refine Bw ((m - 1:Nat):Int) (by simp only;omega) (by omega) (by omega) (Az ⟨m - 1,by omega,K,y::B,by omega,V,?_,by rw [Y];simp,λb hb=>?_⟩)
   ·simp only;rw [show Int.toNat ((m:Nat):Int)=K.length+1 by omega,show Int.toNat ((m - 1:Nat):Int)=K.length by omega,O];simp
   ·rcases List.mem_cons.1 hb with rfl | hb
    ·exact Z
    ·exact al b hb
  ·exact Cb (by simp) (Az ⟨A,B,Y,O,al,av⟩)
def Hp(a b:DT):Bool:=decide (a.1<b.1∨(a.1=b.1/\(a.2.1<b.2.1∨(a.2.1=b.2.1/\a.2.2<b.2.2))))
theorem TW{a b:DT}:Hp a b=true↔a.1<b.1∨(a.1=b.1/\(a.2.1<b.2.1∨(a.2.1=b.2.1/\a.2.2<b.2.2))):=by unfold Hp;exact decide_eq_true_iff
theorem LW{a b:DT}:Hp a b=false↔¬(a.1<b.1∨(a.1=b.1/\(a.2.1<b.2.1∨(a.2.1=b.2.1/\a.2.2<b.2.2)))):=by unfold Hp;exact decide_eq_false_iff_not
theorem TX{F:Nat}{a b:DT}(K:BD a)(hb:BD b):BO (f113 F a b) (λc=>(c<0↔Hp a b=true)/\(c=0↔a=b)):=by
 obtain⟨a1,O,U,Y,Z,ac⟩:=K;obtain⟨ag,al,am,ap,aq,av⟩:=hb;obtain⟨ax,ay,az⟩:=a;obtain⟨a0,a2,a3⟩:=b;simp only at a1 O U Y Z ac ag al am ap aq av;unfold f113;simp only [TW,Prod.mk.injEq];refine C9 (λh=>?_) (λh=>?_)
 ·exact Bw _ V (by omega) (by omega) (Az ⟨by omega,by omega⟩)
 refine C9 (λaw=>?_) (λaw=>?_)
 ·exact Bw _ V (by omega) (by omega) (Az ⟨by omega,by omega⟩)
 ·exact Bw _ V (by omega) (by omega) (Az ⟨by omega,by omega⟩)
def Gl(x:DT):List DT->List DT
 | []=> [x]
 | y::ys=>if Hp x y=true then x::y::ys else y::Gl x ys
def Ez(l:List DT):List DT:=l.foldl (λa x=>Gl x a) []
def KL(l:List DT):Prop:=l.Pairwise λa b=>Hp b a=false
theorem Qr{x d:DT}:∀{l:List DT},d∈Gl x l↔d=x∨d∈l
 | []=>by simp [Gl]
 | y::ys=>by
  unfold Gl
  split
  ·simp
  ·rw [List.mem_cons,Qr,List.mem_cons];constructor
   ·rintro(h | h | h)
    ·exact .inr (.inl h)
    ·exact .inl h
    ·exact .inr (.inr h)
   ·rintro(h | h | h)
    ·exact .inr (.inl h)
    ·exact .inl h
    ·exact .inr (.inr h)
theorem TJ{x:DT}:∀{l:List DT},(Gl x l).length=l.length+1
 | []=>rfl
 | y::ys=>by
  unfold Gl
  split
  ·rfl
  ·rw [List.length_cons,TJ];rfl
theorem UK{x:DT}:∀{l:List DT},KL l->KL (Gl x l)
 | [],_=>List.pairwise_singleton _ _
 | y::ys,h=>by
  obtain⟨U,Y⟩:=List.pairwise_cons.1 h
  unfold Gl
  split
  ·rename_i O
   refine List.pairwise_cons.2 ⟨λz K=>?_,h⟩;have O:=TW.1 O;rcases List.mem_cons.1 K with rfl | K
   ·rw [LW];omega
   ·have:=LW.1 (U z K);rw [LW];omega
  ·rename_i O;refine List.pairwise_cons.2 ⟨λz K=>?_,UK Y⟩;rcases Qr.1 K with rfl | K
   ·exact Bool.eq_false_iff.2 O
   ·exact U z K
theorem Up{x:DT}{B:List DT}(K:∀b∈B,Hp x b=true):∀{A:List DT},(∀a∈A,Hp x a=false)->Gl x (A++B)=A++x::B
 | [],_=>by
  cases B with
  | nil=>rfl
  | cons b bs=>simp only [List.nil_append,Gl,K b List.mem_cons_self,if_true]
 | a::A,O=>by
  have U:=O a List.mem_cons_self
  simp only [List.cons_append,Gl,U]
  rw [if_neg (by decide),Up K λz Y=>O z (List.mem_cons_of_mem _ Y)]
theorem Mr(l:List DT)(x:DT):Ez (l++ [x])=Gl x (Ez l):=by unfold Ez;rw [List.foldl_append];rfl
theorem Ud:∀{k:Nat},k<=10->(3:Int) ^ k<=59049
 | 0,_ | 1,_ | 2,_ | 3,_ | 4,_ | 5,_ | 6,_ | 7,_ | 8,_ | 9,_ | 10,_=>by decide
 | _+11,h=>absurd h (by omega)
theorem ML{α:Type}{P:List α->Prop}(O:P [])(U:∀l x,P l->P (l++ [x])):∀l,P l:=by
 have:∀n (l:List α),l.length=n->P l:=by
  intro n
  induction n with
  | zero=>intro l K;cases List.length_eq_zero_iff.1 K;exact O
  | succ n Y=>
   intro l K;rcases Se l with rfl | ⟨l',x,rfl⟩
   ·cases K
   ·exact U _ _ (Y _ (by simpa using K))
 exact λl=>this _ l V
theorem Tf(l:List DT):KL (Ez l):=ML (P:=λl=>KL (Ez l)) List.Pairwise.nil (λl x h=>by rw [Mr];exact UK h) l
theorem SM{d:DT}(l:List DT):d∈Ez l↔d∈l:=ML (P:=λl=>d∈Ez l↔d∈l) (Iff.rfl) (λl x h=>by rw [Mr,Qr,h];simp [or_comm]) l
theorem SK(l:List DT):(Ez l).length=l.length:=ML (P:=λl=>(Ez l).length=l.length) V (λl x h=>by rw [Mr,TJ,h];simp) l
theorem Yc(F:Nat):Ou F 0=Pm λx y=>(f113 F x y).bind λc=>some (decide (c<0)):=by
 funext s;unfold Ou Pm;simp only [Option.bind_assoc,Option.bind_some]
theorem Xf{A B:List DT}{x y:DT}(O:KL ((A++ [y])++B))(U:Hp x y=false):∀a∈A++ [y],Hp x a=false:=by
 rw [List.append_assoc] at O;intro a K;rcases List.mem_append.1 K with K | K
 ·have Y:=(List.pairwise_append.1 O).2.2 a K y (by simp);have Z:=LW.1 Y;have ac:=LW.1 U;rw [LW];omega
 ·cases List.mem_singleton.1 K;exact U
theorem bS{F:Nat}{l:List DT}(az:100<F)(a0:l.length<=20)(hb:∀d∈l,BD d):f193 F l 0 (l.length:Int)=some (Ez l):=by
 refine CW ?_;unfold f193;refine Bw 1 V (by omega) (by omega) (BA (S:=λr=>r=Ez l) ?_ (λr Y=>Az Y));refine Em (l.length - 1) (λi s=>s.1=((i+1:Nat):Int)/\s.2=Ez (l.take (i+1))++l.drop (i+1)) ⟨V,?_⟩ (by omega) ?_ ?_
 ·cases l with
  | nil=>rfl
  | cons x xs=>rfl
 ·rintro i ⟨c,w⟩ hi ⟨K,hw⟩;simp only at K hw;subst K;have O:i+1<l.length:=by omega
  unfold Ot;refine Da (by simp only;omega) ?_;have Z:l.drop (i+1)=l[i+1]::l.drop (i+2):=List.drop_eq_getElem_cons O;have a1:(Ez (l.take (i+1))).length=i+1:=by rw [SK,List.length_take];omega
  have ac:∀d∈Ez (l.take (i+1)),BD d:=λd hd=>hb d (List.mem_of_mem_take ((SM _).1 hd));have ag:BD l[i+1]:=hb _ (List.getElem_mem O);have al:Ez (l.take (i+2))=Gl l[i+1] (Ez (l.take (i+1))):=by
   rw [List.take_add_one (i:=i+1),List.getElem?_eq_getElem O];exact Mr _ _
  have am:=Tf (l.take (i+1));generalize l[i+1]=x at*;generalize Ez (l.take (i+1))=P at*;generalize l.drop (i+2)=R at*;refine BA (S:=λr=>r=Gl x P++R) ?_ ?_
  ·rw [Yc,hw,Z];have ap:((i+1:Nat):Int)=(P.length:Int):=by omega
   rw [ap];refine(bu (lt:=Hp) R (by omega) (by omega) λy U=>?_).Ag ?_
   ·obtain⟨c,aq,av,_⟩:=TX (F:=F) ag (ac y U);rw [aq,Option.bind_some];congr 1;rw [Bool.eq_iff_iff,decide_eq_true_eq];exact av
   ·rintro r ⟨A,B,rfl,rfl,aw,ay⟩;rw [Up aw ?_]
    ·simp
    ·rcases ay with rfl | ⟨a2,y,rfl,U⟩
     ·simp
     ·exact Xf am U
  ·rintro r rfl;refine Bw ((i+1+1:Nat):Int) (by simp) (by omega) (by omega) (Az ⟨V,?_⟩);simp only;rw [al]
 ·rintro⟨c,w⟩ ⟨K,hw⟩;simp only at K hw;subst K;unfold Ot;refine Cb (by simp only;omega) (Az ⟨_,V,?_⟩);simp only;rw [hw,List.take_of_length_le (by omega),List.drop_eq_nil_of_le (by omega),List.append_nil]
theorem ZS{F:Nat}:∀n,n<=12->∃r,f115 F (Dc ((n:Nat):Int))=some r
 | 0,_ | 1,_ | 2,_ | 3,_ | 4,_ | 5,_ | 6,_ | 7,_ | 8,_ | 9,_ | 10,_ | 11,_ | 12,_=>⟨_,rfl⟩
 | _+13,h=>absurd h (by omega)
theorem dE{F:Nat}{l:List DT}(K:100<F)(O:l.length<=12)(hb:∀d∈l,BD d):f90 F l=some (Ez l):=by
 obtain⟨F,rfl⟩:∃k,F=k+1:=⟨F - 1,by omega⟩;obtain⟨x,U⟩:=ZS (F:=F+1) l.length O;refine CW ?_;unfold f90;refine Bc (b:=l) (by unfold f129 Nb Ep;rw [if_pos (by simp;omega)];rfl) (Bc (b:=Ez l) ?_ (Az V));refine CW ?_;unfold f130;refine Bc U (Bc (b:=Ez l) ?_ (Az V));refine CW ?_;unfold f169;refine BA (S:=λr=>r=Sum.inl (Ez l)) ?_ (by rintro r rfl;rw [Sum.elim_inl];exact Az rfl);refine Em 0 (λ_ _=>True) trivial (by omega) (by intro i s h;omega) ?_;rintro s -;unfold QF;refine Bw (l.length:Int) (by omega) (by omega) (by omega) (Da (by omega) ?_);exact Bc (bS K (by omega) hb) (Az ⟨_,V,V⟩)
def IY(n:Nat)(w:List Int)(S:List PR):Option (List DT):=(EK n S.length S w []).map Ez
theorem ZN{F:Nat}{o:OW}{S:List PR}(K:100<F)(h:VO o)(O:S.length<=10)(U:∀x∈S,VP o.1.length x):f135 F o S=some (match IY o.1.length (Bv o) S with | none=>([],false) | some r=>(r,true)):=by
 have Y:=h.n5;obtain⟨ac,g2⟩:=K5 K h;have Z:(200:Int)*3 ^ S.length<=1000000000000:=by
  have:=Ud O;omega
 have e:=UH (q:=o) K rfl Y S.length F S (Bv o) [] 200 rfl (by omega) O U g2 (by omega) Z (by simp;omega);have e2:f175 F o S=some (match IY o.1.length (Bv o) S with | none=>(true,default) | some r=>(false,r)):=by
  refine CW ?_;unfold f175;refine Bc ac ?_;refine Bc (show f203 F S (Bv o) o []=_ from e) ?_;unfold IY;rcases ag:EK o.1.length S.length S (Bv o) [] with _ | r
  ·exact Da V (Az V)
  ·refine Cb (by simp [Nc]) ?_;obtain⟨k1,al⟩:=Qj Y S.length S (Bv o) [] r 200 rfl U g2 (by omega) Z (by simp) ag;exact Bc (dE K (by show r.length<=12;rw [al];simp;omega) k1) (Az V)
 unfold f135;rw [e2,Option.bind_some];rcases IY o.1.length (Bv o) S with _ | r
 ·rfl
 ·rfl
def GU:Nat->List PR->List (List PR)
 | 0,_=> [[]]
 | _+1,[]=> []
 | m+1,x::xs=>(GU m xs).map (x::·)++GU (m+1) xs
theorem PY:∀(m:Nat) (l:List PR),(GU m l).length<=2 ^ l.length
 | 0,l=>by simp only [GU,List.length_singleton];exact Nat.one_le_two_pow
 | m+1,[]=>by simp [GU]
 | m+1,x::xs=>by
  have K:=PY m xs;have O:=PY (m+1) xs
  simp only [GU,List.length_append,List.length_map,List.length_cons]
  rw [Nat.pow_succ];omega
theorem Mt{x:PR}:∀{m:Nat} {l c:List PR},c∈GU m l->c.length=m/\(x∈c->x∈l)
 | 0,l,c,h=>by rw [show GU 0 l= [[]] by cases l <;> rfl] at h;cases List.mem_singleton.1 h;exact⟨rfl,λh=>by cases h⟩
 | m+1,[],c,h=>by cases h
 | m+1,y::ys,c,h=>by
  rcases List.mem_append.1 h with h | h
  ·obtain⟨U,O,rfl⟩:=List.mem_map.1 h
   have:=Mt (x:=x) O;exact⟨by rw [List.length_cons,this.1],λK=>by
    rcases List.mem_cons.1 K with rfl | K
    ·exact List.mem_cons_self
    ·exact List.mem_cons_of_mem _ (this.2 K)⟩
  ·have:=Mt (x:=x) h;exact⟨this.1,λK=>List.mem_cons_of_mem _ (this.2 K)⟩
def Df(n:Nat)(w:List Int)(P:PR->Bool)(m:Nat)(l ys:List PR):List (List DT):=(GU m (ys.filter P)).filterMap λc=>IY n w (l++c)
theorem Tn{n:Nat}{w:List Int}{P:PR->Bool}{m:Nat}{l ys:List PR}:(Df n w P m l ys).length<=2 ^ ys.length:=by
 unfold Df;refine Nat.le_trans (List.length_filterMap_le _ _) (Nat.le_trans (PY _ _) ?_);exact Nat.pow_le_pow_right (by decide) (List.length_filter_le _ _)
theorem Yt{n:Nat}{w:List Int}{P:PR->Bool}{m:Nat}{l xs:List PR}{x:PR}(h:P x=false):Df n w P m l (x::xs)=Df n w P m l xs:=by unfold Df;rw [List.filter_cons_of_neg (by simp [h])]
theorem YA{n:Nat}{w:List Int}{P:PR->Bool}{m:Nat}{l xs:List PR}{x:PR}(h:P x=true):Df n w P (m+1) l (x::xs)=Df n w P m (l++ [x]) xs++Df n w P (m+1) l xs:=by
 unfold Df;rw [List.filter_cons_of_pos h,GU,List.filterMap_append,List.filterMap_map];congr 2;funext c;simp
theorem Uh{F:Nat}{o:OW}{ag m:Nat}{K:List PR}{P:PR->Bool}(al:100<F)(h:VO o)(hm:m<=5)(aw:K.length<=10)(am:∀x∈K,VP o.1.length x)(ap:∀x,VP o.1.length x->f136 F ag x.1 x.2=some (!P x)):
  ∀(k N:Nat) (l:List PR) (i:Nat) (b:List (List DT)),l.length+k=m->k<N->i<=K.length->(∀x∈l,VP o.1.length x)->b.length+2 ^ (K.length - i)<=1000000->
   LY N F l (i:Int) (m:Int) o K ag b=some (true,b++Df o.1.length (Bv o) P k l (K.drop i))
 | 0,N,l,i,b,ay,az,hi,ac,hb=>by
  obtain⟨N,rfl⟩:∃k,N=k+1:=⟨N - 1,by omega⟩
  have a5:1<=2 ^ (K.length - i):=Nat.one_le_two_pow
  refine CW ?_
  simp only [LY]
  unfold MV
  refine Da (by omega) ?_
  refine Bc (ZN al h (by omega) ac) ?_
  refine BA (S:=λr=>r=(true,b++Df o.1.length (Bv o) P 0 l (K.drop i))) ?_ (λr a0=>Az a0)
  have e:Df o.1.length (Bv o) P 0 l (K.drop i)=(IY o.1.length (Bv o) l).toList:=by
   unfold Df;simp only [GU,List.filterMap_cons,List.append_nil,List.filterMap_nil];cases IY o.1.length (Bv o) l <;> rfl
  rw [e];rcases IY o.1.length (Bv o) l with _ | r
  ·exact Da V (Az (by simp))
  ·exact Cb (by simp) (Kf (by omega) (Az V))
 | k+1,N,l,i,b,ay,az,hi,ac,hb=>by
  obtain⟨N,rfl⟩:∃k,N=k+1:=⟨N - 1,by omega⟩;refine CW ?_;simp only [LY];unfold MV;refine Cb (by omega) (BA (S:=λr=>r=Sum.inr (b++Df o.1.length (Bv o) P (k+1) l (K.drop i))) ?_ (by rintro r rfl;rw [Sum.elim_inr];exact Az rfl));refine Qm (λz s=>∃j,z=K.length - j/\j<=K.length/\s.2=((j:Nat):Int)/\s.1++Df o.1.length (Bv o) P (k+1) l (K.drop j)=b++Df o.1.length (Bv o) P (k+1) l (K.drop i)/\s.1.length+2 ^ (K.length - j)<=1000000) ?_ (m:=K.length - i) ⟨i,V,hi,V,V,hb⟩ (by omega);rintro z ⟨acc,c⟩ ⟨j,rfl,a6,aq,he,hlen⟩;simp only at aq he hlen;subst aq;unfold QI;refine C9 (λa1=>?_) (λa2=>?_)
  ·simp only at a1;have O:j<K.length:=by omega
   have hd:K.drop j=K[j]::K.drop (j+1):=List.drop_eq_getElem_cons O;have av:=am _ (List.getElem_mem O);have a7:2 ^ (K.length - j)=2 ^ (K.length - (j+1))+2 ^ (K.length - (j+1)):=by
    rw [show K.length - j=K.length - (j+1)+1 by omega,Nat.pow_succ];omega
   have a8:0<2 ^ (K.length - (j+1)):=Nat.two_pow_pos _;refine BA (S:=λr=>∃Y,r=Sum.inr Y/\Y++Df o.1.length (Bv o) P (k+1) l (K.drop (j+1))=acc++Df o.1.length (Bv o) P (k+1) l (K.drop j)/\Y.length+2 ^ (K.length - (j+1))<=1000000) ?_ ?_
   ·refine CO (m:=j) V O (CO (m:=j) V O ?_);refine Bc (ap _ av) ?_;by_cases Z:P K[j]=true
    ·refine Cb (by simp [Z]) ?_;refine CO (m:=j) V O ?_;refine Bw ((j+1:Nat):Int) (by simp) (by omega) (by omega) ?_;refine BO.No (by simp;omega) ?_;refine Bc (Uh al h hm aw am ap k N (l++ [K[j]]) (j+1) acc (by simp;omega) (by omega) (by omega) (λx U=>by
      rcases List.mem_append.1 U with U | U
      ·exact ac x U
      ·cases List.mem_singleton.1 U;exact av) (by omega)) ?_
     refine Cb (by simp) (Az ⟨_,V,?_,?_⟩)
     ·rw [hd,YA Z,List.append_assoc]
     ·have:=Tn (n:=o.1.length) (w:=Bv o) (P:=P) (m:=k) (l:=l++ [K[j]]) (ys:=K.drop (j+1));rw [List.length_drop] at this;rw [List.length_append];omega
    ·refine Da (by simp [Z]) (Az ⟨_,V,?_,by simp only;omega⟩);rw [hd,Yt (Bool.eq_false_iff.2 Z)]
   ·rintro r ⟨Y,rfl,a3,a4⟩;rw [Sum.elim_inr];exact Bw ((j+1:Nat):Int) (by simp) (by omega) (by omega) (Az ⟨K.length - (j+1),by omega,j+1,V,by omega,V,a3.trans he,a4⟩)
  ·simp only at a2;refine Az ?_;have:K.drop j= []:=List.drop_eq_nil_of_le (by omega);rw [this] at he;show Sum.inr _=_;rw [← he];unfold Df;simp [GU]
def FW(n:Nat)(w:List Int)(P:PR->Bool):List (List DT):=(((List.range n).map λm=>Df n w P m [] (DR n)).find? λl=> !l.isEmpty).getD []
theorem dL{F O:Nat}{o:OW}{P:PR->Bool}(Y:100<F)(h:VO o)(ag:∀x,VP o.1.length x->f136 F O x.1 x.2=some (!P x)):f71 F o O=some (FW o.1.length (Bv o) P):=by
 have Z:=h.n5;have al:=Sn Z;refine CW ?_;unfold f71;have am:∀m,m<=5->f132 F o ((m:Nat):Int) O []=some (Df o.1.length (Bv o) P m [] (DR o.1.length)):=by
  intro m hm;refine CW ?_;unfold f132;refine Bc (aO Y Z) ?_;have ap:2 ^ ((DR o.1.length).length - 0)<=2 ^ 10:=Nat.pow_le_pow_right (by decide) (by omega);exact Bc (show f134 F [] 0 (m:Int) o (DR o.1.length) O []=_ from Uh Y h hm al (λx aq=>Qk aq) ag m F [] 0 [] (by simp) (by omega) (by omega) (by simp) (by simp at ap ⊢;omega)) (Az (by simp))
 refine Em o.1.length (λi s=>s=(i:Int)/\∀j,j<i->Df o.1.length (Bv o) P j [] (DR o.1.length)= []) ⟨V,by simp⟩ (by omega) ?_ ?_
 ·rintro i s hi ⟨rfl,U⟩;unfold O5;refine Da (by omega) (Bc (am i (by omega)) ?_);refine C9 (λac=>Az ?_) (λaw=>?_)
  ·show _=_;unfold FW;rw [List.find?_map,show(List.range o.1.length).find? _=some i from List.find?_range_eq_some.2 ⟨?_,List.mem_range.2 hi,λj K=>?_⟩]
   ·rfl
   ·simp only [Function.comp];cases av:Df o.1.length (Bv o) P i [] (DR o.1.length) with
    | nil=>rw [av] at ac;simp at ac
    | cons=>rfl
   ·simp only [Function.comp];rw [U j K];rfl
  ·refine Bw ((i+1:Nat):Int) (by simp) (by omega) (by omega) (Az ⟨V,λj K=>?_⟩);rcases Nat.lt_succ_iff_lt_or_eq.1 K with K | rfl
   ·exact U j K
   ·exact List.length_eq_zero_iff.1 (by omega)
 ·rintro s ⟨rfl,U⟩;unfold O5;refine Cb (by omega) (Az ⟨_,V,?_⟩);unfold FW;rw [List.find?_map,show(List.range o.1.length).find? _=none from List.find?_eq_none.2 ?_]
  ·rfl
  ·intro j K;simp only [Function.comp];rw [U j (List.mem_range.1 K)];simp
theorem dZ{F n:Nat}(U:n<=5)(x:PR)(K:VP n x):f136 F 0 x.1 x.2=some (!(λ_=>true) x):=by
 obtain⟨Y,Z,ac⟩:=K;obtain⟨a,O⟩:∃a:Nat,x.1=(a:Int):=⟨x.1.toNat,by omega⟩;obtain⟨b,hb⟩:∃b:Nat,x.2=(b:Int):=⟨x.2.toNat,by omega⟩;rw [O,hb];have:b<=4:=by omega
 have:a<b:=by omega
 match a,b with
 | 0,1 | 0,2 | 0,3 | 0,4 | 1,2 | 1,3 | 1,4 | 2,3 | 2,4 | 3,4=>rfl
 | 0,0=>omega
 | a+1,0=>omega
 | a+1,1=>omega
 | a+2,2=>omega
 | a+3,3=>omega
 | a+4,4=>omega
 | a,b+5=>omega
abbrev HS(o:OW):List (List DT):=FW o.1.length (Bv o) λ_=>true
theorem VG{F:Nat}{o:OW}(K:100<F)(h:VO o):f71 F o 0=some (HS o):=dL K h λx O=>dZ h.n5 x O
theorem Zi{n:Nat}{w:List Int}{P:PR->Bool}{m:Nat}{s:List DT}(U:n<=5)(hm:m<=5)(hw:BN 200 w)(K:s∈Df n w P m [] (DR n)):s.length=m/\∀d∈s,BD d:=by
 unfold Df at K;obtain⟨c,O,K⟩:=List.mem_filterMap.1 K;rw [List.nil_append] at K;unfold IY at K;obtain⟨r,Y,rfl⟩:=Option.map_eq_some_iff.1 K;have Z:=(Mt (x:=(0,0)) O).1;have ac:∀x∈c,VP n x:=λx ag=>Qk (List.mem_filter.1 ((Mt O).2 ag)).1;have al:(200:Int)*3 ^ c.length<=1000000000000:=by
  have:=Ud (k:=c.length) (by omega);omega
 obtain⟨k1,am⟩:=Qj U c.length c w [] r 200 rfl ac hw (by omega) al (by simp) Y;refine⟨by rw [SK,am,Z];simp,λd hd=>k1 d ((SM _).1 hd)⟩
theorem T7{n:Nat}{w:List Int}{P:PR->Bool}:FW n w P= []∨∃m,m<n/\FW n w P=Df n w P m [] (DR n)/\(∀j,j<m->Df n w P j [] (DR n)= []):=by
 unfold FW;rw [List.find?_map];rcases h:(List.range n).find? ((λl:List (List DT)=> !l.isEmpty)∘λm=>Df n w P m [] (DR n)) with _ | m
 ·exact .inl V
 ·obtain⟨Y,K,O⟩:=List.find?_range_eq_some.1 h;refine .inr ⟨m,List.mem_range.1 K,V,λj U=>?_⟩;have:=O j U;simpa using this
theorem dy{n:Nat}{w:List Int}{P:PR->Bool}(K:n<=5)(hw:BN 200 w):(FW n w P).length<=1024/\∃m,m<=5/\∀s∈FW n w P,s.length=m/\∀d∈s,BD d:=by
 rcases T7 (n:=n) (w:=w) (P:=P) with h | ⟨m,hm,h,_⟩
 ·rw [h];exact⟨by simp,0,by omega,by simp⟩
 ·rw [h];refine⟨?_,m,by omega,λs O=>Zi K (by omega) hw O⟩;exact Nat.le_trans Tn (Nat.le_trans (Nat.pow_le_pow_right (by decide) (Sn K)) (by decide))
def Gm:List DT->List DT->Bool
 | [],[]=>false
 | [],_::_=>true
 | _::_,[]=>false
 | x::xs,y::ys=>if x=y then Gm xs ys else Hp x y
theorem Qi{a b:List DT}:∀{i:Nat},i<=a.length->i<=b.length->a.take i=b.take i->Gm a b=Gm (a.drop i) (b.drop i):=by
 induction a generalizing b with
 | nil=>intro i K _ _;simp at K;subst K;simp
 | cons x xs U=>
  intro i K O h;cases i with
  | zero=>simp
  | succ i=>
   cases b with
   | nil=>simp at O
   | cons y ys=>
    simp only [List.take_succ_cons,List.cons.injEq] at h;simp only [List.drop_succ_cons];rw [Gm,if_pos h.1];exact U (by simpa using K) (by simpa using O) h.2
theorem aH{F:Nat}{a b:List DT}(al:100<F)(am:a.length<=40)(U:∀d∈a,BD d)(Y:∀d∈b,BD d):BO (f112 F a b) (λc=>c<0↔Gm a b=true):=by
 unfold f112;refine BA (S:=λr=>(∃c,r=Sum.inl c/\(c<0↔Gm a b=true))∨(r=Sum.inr ()/\a.length<=b.length/\a=b.take a.length)) ?_ ?_
 ·refine Em a.length (λi s=>s=(i:Int)/\i<=b.length/\a.take i=b.take i) ⟨V,by simp,by simp⟩ (by omega) ?_ ?_
  ·rintro i s hi ⟨rfl,K,he⟩;unfold Oj;have O:a.drop i=a[i]::a.drop (i+1):=List.drop_eq_getElem_cons hi;refine Da (by omega) (CO (m:=i) V hi ?_);refine C9 (λh=>Az (.inl ⟨1,V,?_⟩)) (λh=>?_)
   ·rw [Qi (i:=i) (by omega) K he,O,List.drop_eq_nil_of_le (by omega:b.length<=i)];simp [Gm]
   have hb:i<b.length:=by omega
   have Z:b.drop i=b[i]::b.drop (i+1):=List.drop_eq_getElem_cons hb;refine CO (m:=i) V hb ?_;refine BA (TX (U _ (List.getElem_mem hi)) (Y _ (List.getElem_mem hb))) ?_;rintro c ⟨c1,c2⟩;refine C9 (λh=>Az (.inl ⟨c,V,?_⟩)) (λh=>?_)
   ·rw [Qi (i:=i) (by omega) K he,O,Z,Gm,if_neg (λk=>h (c2.2 k))];exact c1
   ·have heq:=c2.1 (Decidable.not_not.1 h);refine Bw ((i+1:Nat):Int) (by simp) (by omega) (by omega) ?_;refine Az ⟨V,by omega,?_⟩;rw [List.take_add_one,List.take_add_one,he,List.getElem?_eq_getElem hi,List.getElem?_eq_getElem hb,heq]
  ·rintro s ⟨rfl,K,he⟩;unfold Oj;rw [List.take_length] at he;exact Cb (by omega) (Az ⟨_,V,.inr ⟨V,K,he⟩⟩)
 ·rintro r (⟨c,rfl,ac⟩ | ⟨rfl,ag,he⟩)
  ·rw [Sum.elim_inl];exact Az ac
  ·rw [Sum.elim_inr];have e:Gm a b=Gm [] (b.drop a.length):=by
    rw [Qi (i:=a.length) (Nat.le_refl _) ag (by rw [List.take_length];exact he),List.drop_length]
   refine C9 (λh=>Az ?_) (λh=>Az ?_)
   ·rw [e];cases hd:b.drop a.length with
    | nil=>have:=congrArg List.length hd;simp at this;omega
    | cons=>simp [Gm]
   ·rw [e,List.drop_eq_nil_of_le (by omega)];simp [Gm]
def Hg(b:List DT×Bool)(x:List DT):List DT×Bool:=if(!b.2 || Gm x b.1)=true then(x,true) else b
def MZ(l:List (List DT)):List DT:=(l.foldl Hg ([],false)).1
theorem di{F:Nat}{o:OW}(aw:2000<F)(h:VO o):f22 F o=some (MZ (HS o),0):=by
 obtain⟨ay,al⟩:=K5 (F:=F) (by omega) h;obtain⟨am,m,hm,ap⟩:=dy (P:=λ_=>true) h.n5 al;refine CW ?_;unfold f22;refine Bc (O7 (by omega) h) (Cb (by simp) ?_);refine Bc (VG (by omega) h) (BA (S:=λr=>r.1=MZ (HS o)) ?_ (λr Z=>Az (by rw [Z])));have aq:(HS o).length<=1024:=am;have ac:∀s∈HS o,s.length=m/\∀d∈s,BD d:=ap;generalize HS o=L at aq ac ⊢;refine Em L.length (λi s=>s.2.2=(i:Int)/\(s.1,s.2.1)=(L.take i).foldl Hg ([],false)/\∀d∈s.1,BD d) ⟨V,V,by simp⟩ (by omega) ?_ ?_
 ·rintro i ⟨b,t,c⟩ hi ⟨K,O,U⟩;simp only at K O U;subst K;obtain⟨az,ag⟩:=ac _ (List.getElem_mem hi);have av:(L.take (i+1)).foldl Hg ([],false)=Hg (b,t) L[i]:=by
   rw [List.take_add_one,List.getElem?_eq_getElem hi,List.foldl_append,← O];rfl
  unfold OS;refine Da (by simp only;omega) (CO (m:=i) V hi ?_);refine Bc (b:=Hg (b,t) L[i]) ?_ ?_
  ·refine CW ?_;unfold f72;refine BA (S:=λc=>c=(!t || Gm L[i] b)) ?_ ?_
   ·refine C9 (λh=>Az ?_) (λh=>?_)
    ·simp only at h;rw [h];rfl
    ·simp only at h;obtain rfl:t=true:=by simpa using h
     refine BA (S:=λc=>c=Gm L[i] b) ?_ (λc K=>Az (by rw [K];simp));unfold f73 f74;refine BA (S:=λc=>c<0↔Gm L[i] b=true) (BA (aH (by omega) (by omega) ag U) (λc K=>Az K)) ?_;intro c K;refine Az ?_;by_cases Y:Gm L[i] b=true
     ·rw [Y];exact decide_eq_true (K.2 Y)
     ·rw [Bool.eq_false_iff.2 Y];exact decide_eq_false λk=>Y (K.1 k)
   ·rintro c rfl;refine BA (S:=λr=>r=Hg (b,t) L[i]) ?_ (λr Z=>Az Z);unfold Hg;refine C9 (λh=>Az ?_) (λh=>Az ?_)
    ·rw [if_pos h]
    ·rw [if_neg h]
  ·refine Bw ((i+1:Nat):Int) (by simp) (by omega) (by omega) (Az ⟨V,av.symm,?_⟩);simp only;unfold Hg;split
   ·exact ag
   ·exact U
 ·rintro⟨b,t,c⟩ ⟨K,O,U⟩;simp only at K O U;subst K;rw [List.take_length] at O;unfold OS;refine Cb (by simp) (Az ⟨_,V,?_⟩);simp only;unfold MZ;rw [← O]
theorem eL{F:Nat}{o:OW}(K:2000<F)(h:VO o):f24 F o=some (((HS o).length:Int),0):=by
 refine CW ?_;unfold f24;refine Bc (O7 (by omega) h) (Cb (by simp) ?_);exact Bc (VG (by omega) h) (Az V)
def Zb(n:Nat)(w:List Int):Prop:=∀j,n<=j->gN w j=0
theorem QJ{w:List Int}{n:Nat}{i:Int}{B:Int}(hb:BN B w)(K:n<=5)(O:0<=i)(hi:i<n):ix (w.take n) i=some (gN w i.toNat):=by
 have U:=hb.1;have:i.toNat<(w.take n).length:=by rw [List.length_take];omega
 refine Jf (m:=i.toNat) (by omega) ?_;rw [List.getElem?_eq_getElem this,List.getElem_take,Kp (by omega)]
theorem Rb{w:List Int}{i j:Nat}{v:Int}(h:i≠j):gN (w.set i v) j=gN w j:=by
 unfold gN;rw [List.getD_eq_getElem?_getD,List.getElem?_set_ne h,List.getD_eq_getElem?_getD]
theorem Zp{w:List Int}{d:DT}{n:Nat}(O:0<=d.1)(U:0<=d.2.1)(Y:d.1≠d.2.1):(Gk w d).take n=((w.take n).set d.1.toNat (gN w d.1.toNat - d.2.2)).set d.2.1.toNat (gN w d.2.1.toNat+d.2.2):=by
 unfold Gk EL;have K:d.2.1.toNat≠d.1.toNat:=by omega
 rw [Rb K,List.take_set,List.take_set,List.set_comm _ _ K,Int.sub_eq_add_neg]
theorem Zb.add{n:Nat}{w:List Int}{i v:Int}(h:Zb n w)(hi:i<n)(O:0<=i):Zb n (EL w i v):=λj K=>by
 unfold EL
 rw [Rb (by omega)]
 exact h j K
theorem Zb.zero(n:Nat):Zb n (List.replicate 5 0):=λj _=>by
 unfold gN
 rw [List.getD_eq_getElem?_getD,List.getElem?_replicate]
 split <;> rfl
theorem Qs{o:OW}(h:VO o):Zb o.1.length (Bv o):=by
 have:∀(ds:List DT) (w:List Int),Zb o.1.length w->(∀d∈ds,VD o.1.length d)->Zb o.1.length (ds.foldl Gk w):=by
  intro ds
  induction ds with
  | nil=>exact λw hw _=>hw
  | cons d ds K=>
   intro w hw hd;obtain⟨v1,v2,O,v4,_⟩:=hd d List.mem_cons_self;exact K _ ((hw.add v4 O).add v2 v1) λx U=>hd x (List.mem_cons_of_mem _ U)
 exact this _ _ (Zb.zero _) h.ds
theorem eH{F:Nat}{o:OW}(al:100<F)(h:VO o):f55 F o=some ((Bv o).take o.1.length):=by
 have U:=h.n5;have am:=h.d8;refine CW ?_;unfold f55;refine Bc (b:=List.replicate o.1.length 0) ?_ ?_
 ·unfold IM;rw [if_pos (by omega)];rfl
 refine BA (S:=λr=>r=(Bv o).take o.1.length) ?_ (λr Y=>Az Y);refine Em o.2.length (λi s=>s.2=(i:Int)/\∃w,s.1=w.take o.1.length/\w=(o.2.take i).foldl Gk (List.replicate 5 0)/\BN (20*i) w) ⟨rfl,List.replicate 5 0,by rw [List.take_replicate,Nat.min_eq_left U],rfl,rfl,by simp⟩ (by omega) ?_ ?_
 ·rintro i ⟨s,c⟩ hi ⟨K,w,O,hw,hb⟩;simp only at K O;subst K;subst O;obtain⟨v1,v2,Z,v4,ac,v6,ap⟩:=h.ds _ (List.getElem_mem hi);have ag:=hb.add (i:=o.2[i].2.1) (v:=o.2[i].2.2) (V:=10) (by omega) (by omega) (by omega) (by omega);have g2:=ag.add (i:=o.2[i].1) (v:= -o.2[i].2.2) (V:=10) (by omega) (by omega) (by omega) (by omega);have k1:=hb.bd (i:=o.2[i].2.1.toNat) (by omega);have aq:=hb.bd (i:=o.2[i].1.toNat) (by omega);unfold OX;refine Da (by simp only;omega) (CO (m:=i) rfl hi ?_);refine Bc (QJ hb U (by omega) (by omega)) (Bc (QJ hb U (by omega) (by omega)) ?_);refine Bw _ rfl (by omega) (by omega) (Bc (QJ hb U (by omega) (by omega)) ?_);refine Bw _ rfl (by omega) (by omega) (Bw ((i+1:Nat):Int) (by simp) (by omega) (by omega) ?_);refine Az ⟨rfl,Gk w o.2[i],(Zp v1 Z ac).symm,?_,g2.Ag (by omega)⟩;rw [List.take_add_one,List.getElem?_eq_getElem hi,List.foldl_append,← hw]
  rfl
 ·rintro⟨s,c⟩ ⟨K,w,O,hw,hb⟩;simp only at K O;subst K;unfold OX;rw [List.take_length] at hw;exact Cb (by simp) (Az ⟨_,rfl,by simp only;rw [O,hw];rfl⟩)
theorem MS{w:List Int}{d:DT}(h:w.length=5)(a1:0<=d.1)(K:d.1<5)(O:0<=d.2.1)(U:d.2.1<5)(j:Nat):gN (Gk w d) j=gN w j+(if(j:Int)=d.2.1 then d.2.2 else 0)+(if(j:Int)=d.1 then -d.2.2 else 0):=by
 unfold Gk;rw [He (by unfold EL;rw [List.length_set];exact h) a1 K,He h O U]
theorem T6{w:List Int}{d:DT}(h:w.length=5):(Gk w d).length=5:=by unfold Gk EL;rw [List.length_set,List.length_set];exact h
def CB(w:List Int)(A:Nat->Bool):Int:=(if A 0 then gN w 0 else 0)+(if A 1 then gN w 1 else 0)+(if A 2 then gN w 2 else 0)+(if A 3 then gN w 3 else 0)+(if A 4 then gN w 4 else 0)
theorem N4{w:List Int}{j:Nat}(K:j<5):CB w (λi=>i==j)=gN w j:=by
 unfold CB
 match j,K with
 | 0,_ | 1,_ | 2,_ | 3,_ | 4,_=>simp
theorem ZO{p o:Nat}(O:p<5)(U:o<5)(K:o≠p)(X:Int):(if 0=p then -X else if 0=o then X else 0)+(if 1=p then -X else if 1=o then X else 0)+(if 2=p then -X else if 2=o then X else 0)+(if 3=p then -X else if 3=o then X else 0)+(if 4=p then -X else if 4=o then X else 0)=0:=by
 obtain rfl | rfl | rfl | rfl | rfl:p=0∨p=1∨p=2∨p=3∨p=4:=by omega
 all_goals
  obtain rfl | rfl | rfl | rfl | rfl:o=0∨o=1∨o=2∨o=3∨o=4:=by omega
  all_goals first | exact absurd rfl K | (simp;try omega)
theorem SP{w v:List Int}{p o:Nat}(O:p<5)(U:o<5)(Y:o≠p)(h:∀j,gN v j=if j=p then 0 else if j=o then gN w o+gN w p else gN w j)(A:Nat->Bool):CB v A=CB w (λj=>if j=p then A o else A j):=by
 have key:∀j,(if A j=true then gN v j else 0)=(if(if j=p then A o else A j)=true then gN w j else 0)+(if j=p then -(if A o=true then gN w p else 0) else if j=o then(if A o=true then gN w p else 0) else 0):=by
  intro j;rw [h];by_cases K:j=p
  ·subst K;rw [if_pos rfl,if_pos rfl,if_pos rfl];cases A o <;> cases A j <;> simp <;> omega
  ·rw [if_neg K,if_neg K,if_neg K];by_cases e2:j=o
   ·subst e2;rw [if_pos rfl,if_pos rfl];cases A j <;> simp
   ·rw [if_neg e2,if_neg e2,Int.add_zero]
 have am:=ZO O U Y (if A o=true then gN w p else 0)
 have Z:=key 0;have k1:=key 1;have ac:=key 2;have ag:=key 3;have al:=key 4;unfold CB;rw [Z,k1,ac,ag,al];generalize (if(if 0=p then A o else A 0)=true then gN w 0 else 0)=ap
 generalize (if(if 1=p then A o else A 1)=true then gN w 1 else 0)=a1
 generalize (if(if 2=p then A o else A 2)=true then gN w 2 else 0)=aq
 generalize (if(if 3=p then A o else A 3)=true then gN w 3 else 0)=av
 generalize (if(if 4=p then A o else A 4)=true then gN w 4 else 0)=aw
 generalize (if A o=true then gN w p else 0)=X at*
 generalize (if 0=p then -X else if 0=o then X else 0)=ay at*
 generalize (if 1=p then -X else if 1=o then X else 0)=az at*
 generalize (if 2=p then -X else if 2=o then X else 0)=a0 at*
 generalize (if 3=p then -X else if 3=o then X else 0)=a2 at*
 generalize (if 4=p then -X else if 4=o then X else 0)=a3 at*
 omega
def s1(A:Nat->Bool)(d:DT):Int:=(if A d.2.1.toNat then d.2.2 else 0)+(if A d.1.toNat then -d.2.2 else 0)
theorem LJ{w:List Int}(hw:w.length=5){i v:Int}(K:0<=i)(O:i<5)(A:Nat->Bool):CB (EL w i v) A=CB w A+if A i.toNat then v else 0:=by
 unfold CB;rw [He hw K O,He hw K O,He hw K O,He hw K O,He hw K O];obtain rfl | rfl | rfl | rfl | rfl:i=0∨i=1∨i=2∨i=3∨i=4:=by omega
 ·simp only [show Int.toNat 0=0 from rfl];cases A 0 <;> simp <;> omega
 ·simp only [show Int.toNat 1=1 from rfl];cases A 1 <;> simp <;> omega
 ·simp only [show Int.toNat 2=2 from rfl];cases A 2 <;> simp <;> omega
 ·simp only [show Int.toNat 3=3 from rfl];cases A 3 <;> simp <;> omega
 ·simp only [show Int.toNat 4=4 from rfl];cases A 4 <;> simp <;> omega
theorem Qa(A:Nat->Bool):∀(l:List DT) (w:List Int),(∀d∈l,(0<=d.1/\d.1<5)/\0<=d.2.1/\d.2.1<5)->w.length=5->CB (l.foldl Gk w) A=CB w A+(l.map (s1 A)).sum
 | [],w,_,_=>by simp
 | d::l,w,h,hw=>by
  obtain⟨⟨a1,K⟩,O,U⟩:=h d List.mem_cons_self
  rw [List.foldl_cons,Qa A l _ (λx Y=>h x (List.mem_cons_of_mem _ Y)) (T6 hw),List.map_cons,List.sum_cons]
  unfold Gk s1
  rw [LJ (by unfold EL;rw [List.length_set];exact hw) a1 K,LJ hw O U]
  omega
theorem VO.Wj{o:OW}(h:VO o):∀d∈o.2,(0<=d.1/\d.1<5)/\0<=d.2.1/\d.2.1<5:=λd hd=>by
 have K:=h.n5
 obtain⟨a1,O,U,Y,-⟩:=h.ds d hd;omega
structure PN (n:Nat) (K:List Nat):Prop where
 len:K.length=n
 nd:K.Nodup
 lt:∀x∈K,x<n
theorem PN.get{n:Nat}{K:List Nat}(h:PN n K){i:Nat}(hi:i<n):K.getD i 0<n:=by
 rw [List.getD_eq_getElem?_getD,List.getElem?_eq_getElem (by rw [h.len];exact hi)];exact h.lt _ (List.getElem_mem _)
theorem PN.inj{n:Nat}{K:List Nat}(h:PN n K){i j:Nat}(hi:i<n)(O:j<n)(e:K.getD i 0=K.getD j 0):i=j:=by
 have U:=h.len;rw [List.getD_eq_getElem?_getD,List.getD_eq_getElem?_getD,List.getElem?_eq_getElem (by omega),List.getElem?_eq_getElem (by omega)] at e;exact(List.getElem_inj h.nd).1 e
theorem UR{F k:Nat}{b:HQ}{n:Nat}(ay:100<F)(hb:BG k b)(az:k<1000)(a0:n<=5):BO (f49 F b (n:Int)) (λr=>∃K,PN n K/\K.Perm (List.range n)/\r.1=(K.map λi:Nat=>(i:Int))/\BG (k+n) r.2):=by
 unfold f49;refine BA (S:=λr=>∃K,PN n K/\K.Perm (List.range n)/\r.1=(K.map λi:Nat=>(i:Int))/\BG (k+n) r.2) ?_ (λr ag=>Az ag);refine Em n (λi s=>s.2.2.2.2=(i:Int)/\BG (k+i) (s.1,s.2.1,s.2.2.1)/\s.2.2.2.1.Perm ((List.range i).map λi:Nat=>(i:Int))) ⟨V,hb,.refl _⟩ (by omega) ?_ ?_
 ·rintro i ⟨l,t,al,w,z⟩ hi ⟨U,Y,O⟩;simp only at U Y O;subst U;have am:w.length=i:=by rw [O.length_eq];simp
  unfold OK;refine Da (by simp only;omega) (BA (Kt Y (by omega) (by simp only;omega)) ?_);rintro⟨j,a1⟩ ⟨ap,aq,g2⟩;simp only at ap aq g2 ⊢;obtain⟨j,rfl⟩:∃m:Nat,j=(m:Int):=⟨j.toNat,by omega⟩;have a2:j<=i:=by omega
  refine Kf (by omega) ?_;have a3:(w++ [(i:Int)]).length=i+1:=by simp [am]
  refine CO (m:=j) V (by omega) (CO (m:=i) V (by omega) ?_);refine CO (m:=j) V (by rw [List.length_set];omega) (Bw ((i+1:Nat):Int) (by simp) (by omega) (by omega) ?_);refine Az ⟨V,g2,?_⟩;simp only;rw [show Int.toNat (i:Int)=i by omega,show Int.toNat (j:Int)=j by omega];have av:(w++ [(i:Int)])[i]'(by omega)=(i:Int):=by
   rw [List.getElem_append_right (by omega)];simp
  have aw:(((w++ [(i:Int)]).set i ((w++ [(i:Int)])[j]'(by omega))).set j (i:Int)).Perm (w++ [(i:Int)]):=by
   have:=List.set_set_perm (show i<(w++ [(i:Int)]).length by omega) (show j<(w++ [(i:Int)]).length by omega);rw [av] at this;exact this
  refine aw.trans ?_;rw [List.range_succ,List.map_append];exact O.append_right _
 ·rintro⟨l,t,al,w,z⟩ ⟨U,Y,O⟩;simp only at U Y O;subst U;unfold OK;have Z:(w.map Int.toNat).Perm (List.range n):=by
   have:=O.map Int.toNat;rw [List.map_map] at this;have e:(Int.toNat∘λi:Nat=>(i:Int))=id:=by funext i;simp
   rwa [e,List.map_id] at this
  refine Cb (by simp only;omega) (Az ⟨_,V,w.map Int.toNat,?_,Z,?_,Y⟩)
  ·exact⟨by rw [Z.length_eq];simp,Z.nodup_iff.2 List.nodup_range,λx ac=>List.mem_range.1 (Z.mem_iff.1 ac)⟩
  ·simp only;rw [List.map_map];refine(List.map_id _).symm.trans (List.map_congr_left λx ac=>?_);obtain⟨y,-,rfl⟩:=List.mem_map.1 (O.mem_iff.1 ac);simp
open Go Go.Conc Go.Proofs
variable {E:LH}
variable {J:Judge Tryz.prog}
def Nk(fu_:Nat)(p0:AZ)(O:Ax):Option (Int):=
 (f70 fu_ p0 ([])).bind λK=>
 if K.2≠0 then(
  some K.2
 ) else(
  (Nh fu_ K.1 O).bind λU=>
  (V2 fu_ U).bind λY=>
  some Y
 )
theorem cu{a1:An}{c2:Nat}{Z:An}{ac:Nat}{ag:An}{al:Nat}{p0:AZ}{Y:Ax}(aw:GE E)(ay:Al (rL rI) E a1 c2 (p0.1))(az:Al Aw E Z ac (p0.2))(a0:Al Aw E ag al (Y)){fu_:Nat}{r:Int}(am:Nk fu_ p0 Y=some r):AK J 18 [.agg #[.slice a1 (p0.1).length c2,.slice Z (p0.2).length ac],.slice ag (Y).length al] E [] (λw E' B'=>w=iV r/\B'= []):=by
 refine Bi Tryz.func18 λQ b5 cs H a2 ap=>?_;unfold Nk at am;refine C 2 V (Dp a2 λb6 ca K a3 a4=>?_);refine C 4 V (B4 a3 Fc CV V V ?_);obtain⟨cc,a5,a6⟩:=bs am;refine BY (Kx (ay.Ag K) (az.Ag K) Al.nil a5) V V J9 a4 ?_;rintro _ ce _ U ⟨ci,co,cp,ct,rfl,rfl,a7,a8⟩ a9;refine C 3 V (BQ a9 Hu λcw bb=>?_);refine BJ 3 bb Du λbe=>?_;refine Cu 3 be V λcy O bi aq=>C 8 V (AU a6 (λbn bo=>?_) (λbn bv=>?_))
 ·refine C 5 V ?_;obtain rfl:=oi bo;exact AS Tryz.func18 V V (ap ((K.trans U).trans O) V ⟨V,V⟩ aq)
 ·refine C 3 V (B4 bi FI Du V V ?_);obtain⟨c0,bw,bx⟩:=bs bv;refine C 1 V (BY (et (a7.Ag O) (a8.Ag O) (a0.Ag ((K.trans U).trans O)) bw) V V (A1 Tryz.func59 V) aq ?_);rintro c1 c3 _ av ⟨_,rfl,rfl,bz⟩ b0;obtain⟨c4,b1,b2⟩:=bs bx;refine Cs (bQ (aw.Ag (((K.trans U).trans O).trans av)) bz b1) V V (A1 Tryz.func58 V) b0 λc5 b3 b4=>C 2 V ?_;obtain rfl:=oi b2;exact AS Tryz.func18 V V (ap ((((K.trans U).trans O).trans av).trans b3) V ⟨V,V⟩ b4)
end Pal
