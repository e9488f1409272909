/- DebtPassed, row of debt: for every input the law is true and its argument reads behind the call as before it. Part 5 of 8. -/
import Derived.Test.YtmeophcclkejkaaGreatPsb
import Derived.Test.YtmeophcclkejkaaGreatPsc
import Derived.Test.YtmeophcclkejkaaGreatPsd
set_option linter.all false
set_option maxRecDepth 100000
namespace Pal
open Go Go.Conc Go.Conc.Lib Go.Proofs Go.ConcR.Gen
theorem XL{P:Program}{J:Judge P}{Q:GP}{n:Nat}{L:Env}{ds:Ld_}{c:Code}{k:Li_}{cs:Lf_}{s:St}{b:Frame}(h:∀K,K=k->JL J Q b n L ds (.code c::K) cs s):JL J Q b n L ds (.code c::k) cs s:=h _ rfl
theorem TI{P:Program}{J:Judge P}{Q:GP}{n:Nat}{L:Env}{ds:Ld_}{k:Li_}{cs:Lf_}{s:St}{b:Frame}(h:∀K,K=k->JL J Q b n L ds K cs s):JL J Q b n L ds k cs s:=h _ rfl
theorem H9:(Tryz.prog.funcs[189]?).any (·.norace)=true:=by rw [Tryz.func189];rfl
theorem Zj:(Tryz.prog.funcs[163]?).any (·.norace)=true:=by rw [Tryz.func163];rfl
theorem Z1:(Tryz.prog.funcs[191]?).any (·.norace)=true:=by rw [Tryz.func191];rfl
theorem P2:(Tryz.prog.funcs[211]?).any (·.norace)=true:=by rw [Tryz.func211];rfl
theorem Pb:(Tryz.prog.info? 140).map (λi=>decide (i.size=0))=some false:=(congrArg (Option.map (λi=>decide (i.size=0))) Tryz.type140).trans rfl
abbrev GN:=Bool×Bool×Nat×M4×Int
def Tz(a:GN):Prop:=(a.2.1=true->a.2.2.2.1.k=true)/\a.2.2.1<=4/\CX a.2.2.2.1
def PK(a:GN):LP:= .Cg a.1 a.2.1 a.2.2.1 a.2.2.2.1
theorem Xj{F:Fam}{sv aw:Bool}{it:Nat}{old:M4}{q:Nat}(h:old.l=false/\old.s=false):(mN sv aw old,q,#[Fam.B7 F.uA,Fam.El F.uA],some LP.len)∈F.BV (.Cg sv aw it old) old q:=by
 obtain⟨l,k,s,w⟩:=old;obtain⟨K,O⟩:=h;simp only at K O;subst K O;simp [Fam.BV,Fam.Fq,mN]
theorem RJ{F:Fam}{sv aw:Bool}{it:Nat}{old:M4}{q:Nat}(h:¬(old.l=false/\old.s=false))(x:LP)(K:x= .H7 sv∨x= .Co sv):(mN sv aw old,q,#[Fam.B7 F.uA,Fam.El F.uA],some x)∈F.BV (.Cg sv aw it old) old q:=by
 obtain⟨l,k,s,w⟩:=old;show _∈F.Fq _ _ _ _ _ _;unfold Fam.Fq;rw [List.mem_append];right;rw [if_pos rfl,if_neg h];cases l <;> cases s <;> simp [mN] at h ⊢ <;> rcases K with rfl | rfl <;> simp
theorem Wv{F:Fam}{sv aw:Bool}{it:Nat}{old m:M4}{q:Nat}(h:m≠old):(m,q,#[Fam.B7 F.uA],some (LP.Ed sv aw it))∈F.BV (.Cg sv aw it old) m q:=by
 show _∈F.Fq _ _ _ _ _ _;unfold Fam.Fq;rw [List.mem_append];right;rw [if_neg h];exact List.mem_singleton.2 rfl
theorem Xr{F:Fam}{sv:Bool}{it:Nat}{old:M4}{q:Nat}(K:old.l=true/\old.s=false)(O:it<4)(U:old.k=false)(Y:old.w≠0):(({old with k:=true}:M4),q,#[Fam.B7 F.uA,Fam.El F.uA],some (LP.Ed sv true (it+1)))∈F.BV (.Cg sv false it old) old q:=by
 show _∈F.Fq _ _ _ _ _ _;unfold Fam.Fq;rw [List.mem_append];left;rw [if_pos ⟨K.1,K.2,O⟩,if_pos ⟨rfl,U,Y⟩,if_pos rfl];exact List.mem_singleton.2 rfl
theorem WV{F:Fam}{sv:Bool}{it:Nat}{old m:M4}{q:Nat}(K:old.l=true/\old.s=false)(O:it<4)(U:old.k=false)(Y:old.w≠0)(hm:m≠old):(m,q,#[Fam.B7 F.uA],some (LP.Ed sv false (it+1)))∈F.BV (.Cg sv false it old) m q:=by
 show _∈F.Fq _ _ _ _ _ _;unfold Fam.Fq;rw [List.mem_append];left;rw [if_pos ⟨K.1,K.2,O⟩,if_pos ⟨rfl,U,Y⟩,if_neg hm];exact List.mem_singleton.2 rfl
theorem O1{F:Fam}{sv aw:Bool}{it:Nat}{old m:M4}{q:Nat}(K:old.l=true/\old.s=false)(O:it<4)(U:¬(aw=false/\old.k=false/\old.w≠0)):(m,q,#[],some (LP.Cg sv aw (it+1) m))∈F.BV (.Cg sv aw it old) m q:=by
 show _∈F.Fq _ _ _ _ _ _;unfold Fam.Fq;rw [List.mem_append];left;rw [if_pos ⟨K.1,K.2,O⟩,if_neg U];exact List.mem_singleton.2 rfl
theorem GM(m:M4)(h:m.s=true):m={m with l:=m.l || !m.s}:=by
 obtain⟨l,k,s,w⟩:=m;simp only at h;subst h;simp
set_option maxHeartbeats 4000000 in
theorem Vm{F:Fam}{n:Nat}{L:Env}{ds:Ld_}{k:Li_}{cs:Lf_}{s:St}{b:Frame}{ops:Ao_}{i:Nat}{rest:List Nat}{d:Option Tmp}{x:Operand}{ats:Array TypeId}{ty:TypeId}{pp:String}{af:Ae_}{g:On_}{kk:Nat}(ac:s.q=false)(a9:ops[i]? =some ⟨d,.call ⟨.value (.func 189),#[x],ats⟩,ty,pp,af,g⟩)(hw:AI L ops ⟨d,.call ⟨.value (.func 189),#[x],ats⟩,ty,pp,af,g⟩=some true)(ba:((b.kind != .early)&&A9 n d)=true)(bb:ev L x=some (.pointer (some F.uA)))
  (h:JL (AQ Tryz.prog false) (Stop Tryz.prog F (.lk kk .Fu)) b n (Av L d (.tuple #[])) ds (.inRegion ops rest::k) cs s):
  JL (AQ Tryz.prog false) (Stop Tryz.prog F (.lk kk (.Ed false false 0))) b n L ds (.inRegion ops (i::rest)::k) cs s:=by
 refine G3 (vs:= [.pointer (some F.uA)]) a9 hw ba Tryz.func189 (by decide+kernel) rfl (by simp [evs,bb]) (Nat.le_of_ble_eq_true rfl) λaV back=>zg 20 rfl (Al (v:= .pointer (some F.uA)) rfl (λρ h=>Ct (a:=F.uA) 0 0 Tryz.underlying140 Dg rfl rfl rfl (h _ _ rfl)) ?_);refine G2 (kk:=kk) (p:= .Ed false false 0) CM.stop ac rfl rfl rfl rfl rfl GY H9 rfl λaW bq aQ=>⟨some (.Cg false false 0 aW),List.mem_singleton.2 rfl,?_⟩;refine zg 3 rfl (XL λbe bf=>?_);have av:∀X:Ph->GP,CM Tryz.prog F X->(∀p g s,Stop Tryz.prog F p g s->X p g s)->∀L',look L' 0=some (.pointer (some F.uA))->JL (AQ Tryz.prog false) (X (.lk kk .len)) (base 189) Tryz.f189.ntmps L' [] be (aV::cs) s:=by
  intro X O aq L' bg;rw [bf];refine Fi (L':= [(0,.pointer (some F.uA))]) ⟨bg,trivial⟩ (zg 3 rfl ?_);refine KS (kk:=kk) (p:= .len) O ac rfl (λ_ _=>rfl) rfl rfl rfl rfl (by simp) NR (zg 3 rfl ?_);refine OD (kk:=kk) (p:= .Kv) O ac rfl (λ_ _=>rfl) rfl rfl rfl rfl Tryz.underlying229 Tryz.underlying185 Pb rfl (O7 (kk:=kk) (p:= .JF) (ad:=F.uA) O ac rfl (λ_ _=>rfl) rfl rfl rfl rfl (by simp) TF rfl rfl ?_);refine JL.done (JL.fin rfl rfl (Bs.none Tryz.func189 rfl) (back _ _ _ _ ?_));exact MN (λg s=>aq _ g s) h
 refine JL.block (Iw ?_);refine Et [(0,.pointer (some F.uA)),(2,iV 0),(3,.bool false),(4,.bool false),(5,iV ((0:Nat):Int)),(6,.int .i32 (aW:M4).num)] rfl (TI λaX aC=>?_);refine S9 (P:=Tryz.prog) (F:=F) (s:=s) (kk:=kk) (ph:=PK) (ok:=Tz) (head:=λ(X:Ph->GP) (a:GN)=>JL (AQ Tryz.prog false) (X (.lk kk (PK a))) (base 189) Tryz.f189.ntmps ([(0,.pointer (some F.uA)),(2,iV a.2.2.2.2),(3,.bool a.1),(4,.bool a.2.1),(5,iV (a.2.2.1:Int)),(6,.int .i32 (a.2.2.2.1:M4).num)]) [] aX (aV::cs) s) ?_ (false,false,0,aW,0) ⟨(λe=>by cases e),Nat.zero_le _,aQ.2.2.1⟩;intro Y aR br hC;have key:∀N (a:GN),4 - a.2.2.1<N->Tz a->(λ(X:Ph->GP) (a:GN)=>JL (AQ Tryz.prog false) (X (.lk kk (PK a))) (base 189) Tryz.f189.ntmps ([(0,.pointer (some F.uA)),(2,iV a.2.2.2.2),(3,.bool a.1),(4,.bool a.2.1),(5,iV (a.2.2.1:Int)),(6,.int .i32 (a.2.2.2.1:M4).num)]) [] aX (aV::cs) s) Y a:=by
  intro N
  induction N with
  | zero=>intro a a0;omega
  | succ N aS=>
   rintro⟨sv,aw,it,old,wt⟩ bh aQ;simp only at bh;have bi:aw=true->old.k=true:=aQ.1;have aY:CX old:=aQ.2.2;have ay:Ch old:=aY.Ch;show JL (AQ Tryz.prog false) (Y (.lk kk (.Cg sv aw it old))) (base 189) Tryz.f189.ntmps [(0,.pointer (some F.uA)),(2,iV wt),(3,.bool sv),(4,.bool aw),(5,iV (it:Int)),(6,.int .i32 (old:M4).num)] [] aX (aV::cs) s;rw [aC];refine zg 2 rfl (Bw (λL s'=>s=s'/\L= [(0,.pointer (some F.uA)),(2,iV wt),(3,.bool sv),(4,.bool aw),(5,iV (it:Int)),(6,.int .i32 (old:M4).num)]) ?_ ?_)
   rotate_left
   ·intro ar;refine zg 3 rfl (Al (v:=CH (By old&&& 5)) rfl (λρ h=>Ep (c:=5) ay (h _ _ rfl) (h _ _ rfl) (by decide)) ?_);refine zg 2 rfl (Lx (q:=((By old&&& 5:Nat):Int)=1) (i:=17) rfl (λa1=>?_) (λa1=>?_))
    ·refine Al (v:=iV (it:Int)) rfl (λρ h=>Yl.move (h _ _ rfl)) (JL.canSpin (it:=(it:Int)) ac rfl rfl rfl rfl XX rfl (λGg=>?_) ?_)
     ·refine Al (v:= .bool true) rfl (λρ h=>Ly (h _ _ rfl) (h _ _ rfl)) ?_;have az:=(Z6 old).1 a1;refine zg 5 rfl ?_;have aT:it<4:=by omega
      refine zg 1 rfl (Al (v:= .bool (!aw)) rfl (λρ h=>Yl.not (h _ _ rfl)) ?_);refine zg 1 rfl (J7 (c:= !aw) (i:=23) rfl (λc1=>?_) (λc1=>?_))
      ·refine Al (v:= .int .i32 (old:M4).num) rfl (λρ h=>Yl.move (h _ _ rfl)) (Al (v:=CH (By old&&& 2)) rfl (λρ h=>Ep (c:=2) ay (h _ _ rfl) (h _ _ rfl) (by decide)) ?_);refine zg 3 rfl (Lx (q:=((By old&&& 2:Nat):Int)=0) (i:=28) rfl (λc2=>?_) (λc2=>?_))
       ·refine Al (v:= .int .i32 (old:M4).num) rfl (λρ h=>Yl.move (h _ _ rfl)) (Al (v:=CH old.w) rfl (λρ h=>IA ay (h _ _ rfl) (h _ _ rfl)) ?_);refine zg 3 rfl (Lx (q:=(old.w:Int)≠0) (i:=33) rfl (λc3=>?_) (λc3=>?_))
        ·have bj:aw=false:=by simpa using c1
         subst bj;have a2:=(PV old).1 c2;have a3:old.w≠0:=by omega
         refine zg 2 rfl (Al (v:= .pointer (some F.uA)) rfl (λρ h=>Ct (a:=F.uA) 0 0 Tryz.underlying140 Dg rfl rfl rfl (h _ _ rfl)) ?_);refine zg 2 rfl (Al (v:= .int .i32 ({old with k:=true}:M4).num) rfl (λρ h=>Np (c:=2) ay (by decide) (Qe old) rfl (h _ _ rfl) (h _ _ rfl)) ?_);refine Rz (kk:=kk) (p:= .Cg sv false it old) (old:=old) (nw:={old with k:=true}) aR ac rfl rfl rfl rfl rfl NI rfl rfl rfl (λq aA=>⟨some (.Ed sv true (it+1)),Xr az aT a2 a3,?_⟩) (λm q hm aA=>⟨some (.Ed sv false (it+1)),WV az aT a2 a3 hm,?_⟩)
         ·refine Al (v:= .bool true) rfl (λρ h=>Ly (h _ _ rfl) (h _ _ rfl)) (zg 7 rfl ?_);refine JL.ext (v:= .tuple #[]) rfl rfl rfl LC rfl rfl (zg 4 rfl ?_);refine Al (v:=iV ((it+1:Nat):Int)) rfl (λρ h=>F2 (h _ _ rfl) (h _ _ rfl) (by unfold Ax;rw [if_pos (by omega)];congr 1)) (zg 6 rfl ?_);refine Al (v:= .pointer (some F.uA)) rfl (λρ h=>Ct (a:=F.uA) 0 0 Tryz.underlying140 Dg rfl rfl rfl (h _ _ rfl)) (G2 (kk:=kk) (p:= .Ed sv true (it+1)) aR ac rfl rfl rfl rfl rfl GY H9 rfl λaD a4 aL=>⟨some (.Cg sv true (it+1) aD),List.mem_singleton.2 rfl,?_⟩);refine zg 3 rfl (JL.again ?_);rw [← aC];exact Et [(0,.pointer (some F.uA)),(2,iV wt),(3,.bool sv),(4,.bool true),(5,iV ((it+1:Nat):Int)),(6,.int .i32 (aD:M4).num)] rfl (aS (sv,true,it+1,aD,wt) (by show 4 - (it+1)<N;omega) ⟨aL.2.2.2,(by show it+1<=4;omega),aL.2.2.1⟩)
         ·refine Al (v:= .bool false) rfl (λρ h=>Ly (h _ _ rfl) (h _ _ rfl)) (zg 5 rfl ?_);refine JL.ext (v:= .tuple #[]) rfl rfl rfl LC rfl rfl (zg 4 rfl ?_);refine Al (v:=iV ((it+1:Nat):Int)) rfl (λρ h=>F2 (h _ _ rfl) (h _ _ rfl) (by unfold Ax;rw [if_pos (by omega)];congr 1)) (zg 6 rfl ?_);refine Al (v:= .pointer (some F.uA)) rfl (λρ h=>Ct (a:=F.uA) 0 0 Tryz.underlying140 Dg rfl rfl rfl (h _ _ rfl)) (G2 (kk:=kk) (p:= .Ed sv false (it+1)) aR ac rfl rfl rfl rfl rfl GY H9 rfl λaD a4 aL=>⟨some (.Cg sv false (it+1) aD),List.mem_singleton.2 rfl,?_⟩);refine zg 3 rfl (JL.again ?_);rw [← aC];exact Et [(0,.pointer (some F.uA)),(2,iV wt),(3,.bool sv),(4,.bool false),(5,iV ((it+1:Nat):Int)),(6,.int .i32 (aD:M4).num)] rfl (aS (sv,false,it+1,aD,wt) (by show 4 - (it+1)<N;omega) ⟨aL.2.2.2,(by show it+1<=4;omega),aL.2.2.1⟩)
        ·refine H8 rfl rfl rfl (zg 12 rfl ?_);refine JL.ext (v:= .tuple #[]) rfl rfl rfl LC rfl rfl (zg 4 rfl ?_);refine Al (v:=iV ((it+1:Nat):Int)) rfl (λρ h=>F2 (h _ _ rfl) (h _ _ rfl) (by unfold Ax;rw [if_pos (by omega)];congr 1)) (zg 6 rfl ?_);refine Al (v:= .pointer (some F.uA)) rfl (λρ h=>Ct (a:=F.uA) 0 0 Tryz.underlying140 Dg rfl rfl rfl (h _ _ rfl)) (G2 (kk:=kk) (p:= .Cg sv aw it old) aR ac rfl rfl rfl rfl rfl GY H9 rfl λm q aA=>⟨some (.Cg sv aw (it+1) m),O1 az aT (λe=>c3 (by omega)),?_⟩);refine zg 3 rfl (JL.again ?_);rw [← aC];exact Et [(0,.pointer (some F.uA)),(2,iV wt),(3,.bool sv),(4,.bool aw),(5,iV ((it+1:Nat):Int)),(6,.int .i32 (m:M4).num)] rfl (aS (sv,aw,it+1,m,wt) (by show 4 - (it+1)<N;omega) ⟨aA.2.2.2.2.2,(by show it+1<=4;omega),aA.2.2.2.2.1⟩)
       ·refine H8 rfl rfl rfl (zg 17 rfl ?_);refine JL.ext (v:= .tuple #[]) rfl rfl rfl LC rfl rfl (zg 4 rfl ?_);refine Al (v:=iV ((it+1:Nat):Int)) rfl (λρ h=>F2 (h _ _ rfl) (h _ _ rfl) (by unfold Ax;rw [if_pos (by omega)];congr 1)) (zg 6 rfl ?_);refine Al (v:= .pointer (some F.uA)) rfl (λρ h=>Ct (a:=F.uA) 0 0 Tryz.underlying140 Dg rfl rfl rfl (h _ _ rfl)) (G2 (kk:=kk) (p:= .Cg sv aw it old) aR ac rfl rfl rfl rfl rfl GY H9 rfl λm q aA=>⟨some (.Cg sv aw (it+1) m),O1 az aT (λe=>c2 ((PV old).2 e.2.1)),?_⟩);refine zg 3 rfl (JL.again ?_);rw [← aC];exact Et [(0,.pointer (some F.uA)),(2,iV wt),(3,.bool sv),(4,.bool aw),(5,iV ((it+1:Nat):Int)),(6,.int .i32 (m:M4).num)] rfl (aS (sv,aw,it+1,m,wt) (by show 4 - (it+1)<N;omega) ⟨aA.2.2.2.2.2,(by show it+1<=4;omega),aA.2.2.2.2.1⟩)
      ·refine H8 rfl rfl rfl (zg 22 rfl ?_);refine JL.ext (v:= .tuple #[]) rfl rfl rfl LC rfl rfl (zg 4 rfl ?_);refine Al (v:=iV ((it+1:Nat):Int)) rfl (λρ h=>F2 (h _ _ rfl) (h _ _ rfl) (by unfold Ax;rw [if_pos (by omega)];congr 1)) (zg 6 rfl ?_);refine Al (v:= .pointer (some F.uA)) rfl (λρ h=>Ct (a:=F.uA) 0 0 Tryz.underlying140 Dg rfl rfl rfl (h _ _ rfl)) (G2 (kk:=kk) (p:= .Cg sv aw it old) aR ac rfl rfl rfl rfl rfl GY H9 rfl λm q aA=>⟨some (.Cg sv aw (it+1) m),O1 az aT (λe=>by rw [e.1] at c1;cases c1),?_⟩);refine zg 3 rfl (JL.again ?_);rw [← aC];exact Et [(0,.pointer (some F.uA)),(2,iV wt),(3,.bool sv),(4,.bool aw),(5,iV ((it+1:Nat):Int)),(6,.int .i32 (m:M4).num)] rfl (aS (sv,aw,it+1,m,wt) (by show 4 - (it+1)<N;omega) ⟨aA.2.2.2.2.2,(by show it+1<=4;omega),aA.2.2.2.2.1⟩)
     ·refine Al (v:= .bool false) rfl (λρ h=>Ly (h _ _ rfl) (h _ _ rfl)) (zg 3 rfl ?_);exact AE (ar _ _ ⟨rfl,rfl⟩) rfl
    ·refine H8 rfl rfl rfl (zg 5 rfl ?_);exact AE (ar _ _ ⟨rfl,rfl⟩) rfl
   rintro _ _ ⟨rfl,rfl⟩;refine zg 6 rfl (Bw (λL s'=>s=s'/\L= [(0,.pointer (some F.uA)),(2,iV wt),(3,.bool sv),(4,.bool aw),(5,iV (it:Int)),(6,.int .i32 (old:M4).num),(7,.int .i32 ({old with l:=old.l || !old.s}:M4).num)]) ?_ ?_)
   rotate_left
   ·intro ar;refine zg 3 rfl (Al (v:=CH (By old&&& 4)) rfl (λρ h=>Ep (c:=4) ay (h _ _ rfl) (h _ _ rfl) (by decide)) ?_);refine zg 2 rfl (F4 (p:=((By old&&& 4:Nat):Int)=0) rfl (λc=>?_) (λc=>?_))
    ·refine JL.region (zg 1 rfl ?_);refine Al (v:= .int .i32 ({old with l:=true}:M4).num) rfl (λρ h=>Np (c:=1) ay (by decide) (Z8 old) rfl (h _ _ rfl) (h _ _ rfl)) (zg 2 rfl ?_);refine Fi ?_ (ar _ _ ⟨rfl,rfl⟩);exact⟨rfl,rfl,rfl,rfl,rfl,rfl,congrArg (λm:M4=>some (Value.int .i32 m.num)) (by rw [(HA old).1 c];simp),trivial⟩
    ·refine JL.skip (Fi ?_ (ar _ _ ⟨rfl,rfl⟩));exact⟨rfl,rfl,rfl,rfl,rfl,rfl,congrArg (λm:M4=>some (Value.int .i32 m.num)) ((Bool.eq_false_or_eq_true old.s).elim (GM old) (λhh=>absurd ((HA old).2 hh) c)),trivial⟩
   rintro _ _ ⟨rfl,rfl⟩;have bu:Ch {old with l:=old.l || !old.s}:=ay;refine JL.seq (Bw (λL s'=>s=s'/\L= [(0,.pointer (some F.uA)),(2,iV wt),(3,.bool sv),(4,.bool aw),(5,iV (it:Int)),(6,.int .i32 (old:M4).num),(7,.int .i32 ({old with l:=old.l || !old.s,w:=if old.l=true∨old.s=true then old.w+1 else old.w}:M4).num)]) ?_ ?_)
   rotate_left
   ·intro ar;refine zg 3 rfl (Al (v:=CH (By old&&& 5)) rfl (λρ h=>Ep (c:=5) ay (h _ _ rfl) (h _ _ rfl) (by decide)) ?_);refine zg 2 rfl (F4 (p:=((By old&&& 5:Nat):Int)≠0) rfl (λc=>?_) (λc=>?_))
    ·refine JL.region (zg 1 rfl ?_);refine Al (v:= .int .i32 ({old with l:=old.l || !old.s,w:=old.w+1}:M4).num) rfl (λρ h=>Xz (m:={old with l:=old.l || !old.s}) aY (h _ _ rfl) (h _ _ rfl)) (zg 2 rfl ?_);refine Fi ?_ (ar _ _ ⟨rfl,rfl⟩);exact⟨rfl,rfl,rfl,rfl,rfl,rfl,congrArg (λm:M4=>some (Value.int .i32 m.num)) (by rw [if_pos (by have:=λe=>c ((L8 old).2 e);cases bv:old.l <;> cases bw:old.s <;> simp_all)]),trivial⟩
    ·refine JL.skip (Fi ?_ (ar _ _ ⟨rfl,rfl⟩));exact⟨rfl,rfl,rfl,rfl,rfl,rfl,congrArg (λm:M4=>some (Value.int .i32 m.num)) (by rw [if_neg (by have:=(L8 old).1 (Decidable.not_not.1 c);rw [this.1,this.2];simp)]),trivial⟩
   rintro _ _ ⟨rfl,rfl⟩;have a5:Ch ({old with l:=old.l || !old.s,w:=if old.l=true∨old.s=true then old.w+1 else old.w}:M4):=by unfold CX at aY;unfold Ch;simp only;split <;> omega
   refine JL.seq (Bw (λL s'=>s=s'/\L= [(0,.pointer (some F.uA)),(2,iV wt),(3,.bool sv),(4,.bool aw),(5,iV (it:Int)),(6,.int .i32 (old:M4).num),(7,.int .i32 ({old with l:=old.l || !old.s,s:=old.s || (sv&&old.l),w:=if old.l=true∨old.s=true then old.w+1 else old.w}:M4).num)]) ?_ ?_)
   rotate_left
   ·intro ar;refine zg 4 rfl (J7 (c:=sv) (i:=61) rfl (λc1=>?_) (λc1=>?_))
    ·refine Al (v:= .int .i32 (old:M4).num) rfl (λρ h=>Yl.move (h _ _ rfl)) (Al (v:=CH (By old&&& 1)) rfl (λρ h=>Ep (c:=1) ay (h _ _ rfl) (h _ _ rfl) (by decide)) ?_);refine zg 3 rfl (F4 (p:=((By old&&& 1:Nat):Int)≠0) rfl (λc=>?_) (λc=>?_))
     ·refine JL.region (zg 1 rfl ?_);refine Al (v:= .int .i32 ({old with s:=true,l:=old.l || !old.s,w:=if old.l=true∨old.s=true then old.w+1 else old.w}:M4).num) rfl (λρ h=>Np (c:=4) (m:={old with l:=old.l || !old.s,w:=if old.l=true∨old.s=true then old.w+1 else old.w}) a5 (by decide) (aa _) rfl (h _ _ rfl) (h _ _ rfl)) ?_
      refine zg 2 rfl (Fi ?_ (ar _ _ ⟨rfl,rfl⟩));exact⟨rfl,rfl,rfl,rfl,rfl,rfl,congrArg (λm:M4=>some (Value.int .i32 m.num)) (by rcases Bool.eq_false_or_eq_true old.l with hh | hh <;> first | exact absurd ((PT old).2 hh) c | (rw [c1,hh];simp)),trivial⟩
     ·refine JL.skip (Fi ?_ (ar _ _ ⟨rfl,rfl⟩));exact⟨rfl,rfl,rfl,rfl,rfl,rfl,congrArg (λm:M4=>some (Value.int .i32 m.num)) (by have:=(PT old).1 (Decidable.not_not.1 c);rw [this];simp),trivial⟩
    ·refine H8 rfl rfl rfl (zg 6 rfl ?_);refine Fi ?_ (ar _ _ ⟨rfl,rfl⟩);exact⟨rfl,rfl,rfl,rfl,rfl,rfl,congrArg (λm:M4=>some (Value.int .i32 m.num)) (by rw [c1];simp),trivial⟩
   rintro _ _ ⟨rfl,rfl⟩;have a6:Ch ({old with l:=old.l || !old.s,s:=old.s || (sv&&old.l),w:=if old.l=true∨old.s=true then old.w+1 else old.w}:M4):=a5
   refine JL.seq (Bw (λL s'=>s=s'/\L= [(0,.pointer (some F.uA)),(2,iV wt),(3,.bool sv),(4,.bool aw),(5,iV (it:Int)),(6,.int .i32 (old:M4).num),(7,.int .i32 (mN sv aw old:M4).num)]) ?_ ?_)
   rotate_left
   ·intro ar;refine zg 4 rfl (OM (t:=aw) rfl (λc=>?_) (λc=>?_))
    ·have a7:old.k=true:=bi c;refine zg 4 rfl ?_;refine Al (v:=CH (By ({old with l:=old.l || !old.s,s:=old.s || (sv&&old.l),w:=if old.l=true∨old.s=true then old.w+1 else old.w}:M4)&&& 2)) rfl (λρ h=>Ep (c:=2) (m:={old with l:=old.l || !old.s,s:=old.s || (sv&&old.l),w:=if old.l=true∨old.s=true then old.w+1 else old.w}) a6 (h _ _ rfl) (h _ _ rfl) (by decide)) ?_
     refine Al (v:= .bool false) rfl (λρ h=>Yl.to (Yl.eql (h _ _ rfl) (h _ _ rfl)) (by rw [decide_eq_false (λe=>by have q:=(PV _).1 e;simp only at q;rw [a7] at q;cases q)])) (zg 5 rfl ?_);refine Al (v:= .int .i32 ({old with k:=false,l:=old.l || !old.s,s:=old.s || (sv&&old.l),w:=if old.l=true∨old.s=true then old.w+1 else old.w}:M4).num) rfl (λρ h=>Yl.O9 (m:={old with l:=old.l || !old.s,s:=old.s || (sv&&old.l),w:=if old.l=true∨old.s=true then old.w+1 else old.w}) a6 a7 (h _ _ rfl) (h _ _ rfl)) ?_
     refine zg 2 rfl (Fi ?_ (ar _ _ ⟨rfl,rfl⟩));exact⟨rfl,rfl,rfl,rfl,rfl,rfl,congrArg (λm:M4=>some (Value.int .i32 m.num)) (by simp [mN,c]),trivial⟩
    ·refine JL.skip (Fi ?_ (ar _ _ ⟨rfl,rfl⟩));exact⟨rfl,rfl,rfl,rfl,rfl,rfl,congrArg (λm:M4=>some (Value.int .i32 m.num)) (by simp [mN,c]),trivial⟩
   rintro _ _ ⟨rfl,rfl⟩;refine zg 4 rfl (Al (v:= .pointer (some F.uA)) rfl (λρ h=>Ct (a:=F.uA) 0 0 Tryz.underlying140 Dg rfl rfl rfl (h _ _ rfl)) ?_);refine zg 2 rfl (λT bl=>(AQ Tryz.prog false).stop (hC (sv,aw,it,old,wt) _ aQ λX bx bm O aq aU=>?_));refine OR (kk:=kk) (p:= .Cg sv aw it old) (old:=old) (nw:=mN sv aw old) bm ac rfl rfl rfl rfl rfl NI rfl rfl rfl (λq aA=>?_) (λm q hm aA=>⟨some (.Ed sv aw it),Wv hm,?_⟩) T bl
   ·by_cases az:old.l=false/\old.s=false
    ·refine⟨some .len,Xj az,?_⟩;refine zg 6 rfl (Al (v:=CH (By old&&& 5)) rfl (λρ h=>Ep (c:=5) ay (h _ _ rfl) (h _ _ rfl) (by decide)) ?_);refine Al (v:= .bool true) rfl (λρ h=>Yl.to (Yl.eql (h _ _ rfl) (h _ _ rfl)) (by rw [decide_eq_true ((L8 old).2 az)])) (zg 3 rfl ?_);exact av X O aq _ rfl
    ·by_cases a8:wt=0
     ·refine⟨some ((.H7 sv)),RJ az _ (.inl rfl),?_⟩;refine zg 6 rfl (Al (v:=CH (By old&&& 5)) rfl (λρ h=>Ep (c:=5) ay (h _ _ rfl) (h _ _ rfl) (by decide)) ?_);refine Al (v:= .bool false) rfl (λρ h=>Yl.to (Yl.eql (h _ _ rfl) (h _ _ rfl)) (by rw [decide_eq_false (λe=>az ((L8 old).1 e))])) ?_;refine zg 13 rfl (Al (v:= .bool true) rfl (λρ h=>Yl.to (Yl.eql (h _ _ rfl) (h _ _ rfl)) (by rw [decide_eq_true a8])) ?_);refine zg 3 rfl (OG (kk:=kk) (p:= .H7 sv) O ac rfl rfl rfl rfl rfl Pj P2 λm aB v al=>⟨some (.Co sv),List.mem_singleton.2 rfl,?_⟩);refine zg 6 rfl (Al (v:= .pointer (some F.qA)) rfl (λρ h=>Ct (a:=F.uA) 0 1 Tryz.underlying140 Mw rfl rfl rfl (h _ _ rfl)) ?_);refine zg 1 rfl (Q0 (kk:=kk) (sv:=sv) O ac rfl rfl rfl rfl Ta rfl rfl ?_);refine JL.done ?_;cases sv
      ·rw [if_neg (by decide)];refine zg 4 rfl (OG (kk:=kk) (p:= .FR) O ac rfl rfl rfl rfl rfl Pj P2 λbn bo v2 bp=>⟨some (.Eu (decide (IntKind.i64.wrap (v2 - v)>1000000))),by (cases decide (IntKind.i64.wrap (v2 - v)>1000000) <;> simp [Fam.BV]),?_⟩);refine zg 1 rfl (Al (v:= .int .i64 (IntKind.i64.wrap (v2 - v))) rfl (λρ h=>Yl.sub (h _ _ rfl) (h _ _ rfl)) ?_);refine zg 4 rfl ?_;generalize decide (IntKind.i64.wrap (v2 - v)>1000000)=ap;refine zg 4 rfl (Al (v:= .pointer (some F.uA)) rfl (λρ h=>Ct (a:=F.uA) 0 0 Tryz.underlying140 Dg rfl rfl rfl (h _ _ rfl)) ?_);refine G2 (kk:=kk) (p:= .Eu ap) O ac rfl rfl rfl rfl rfl GY H9 rfl ?_;intro m aZ au;have aE:CX m:=au.2.2;have am:Ch m:=aE.Ch;by_cases ag:m.s=true
       ·refine⟨some (.DY (!ap || m.w==1)),by simp [Fam.BV,ag],?_⟩;refine zg 2 rfl ?_;obtain⟨aM,aN,aO⟩:=au.1 ag;refine zg 4 rfl (Al (v:=CH (By m&&& 4)) rfl (λρ h=>Ep (c:=4) am (h _ _ rfl) (h _ _ rfl) (by decide)) ?_);refine Al (v:= .bool true) rfl (λρ h=>Yl.to (Hs (h _ _ rfl) (h _ _ rfl)) (by have aP:(((By m&&& 4:Nat):Int)≠0):=(λe=>by rw [(HA m).1 e] at ag;cases ag);rw [decide_eq_true aP])) ?_;refine zg 6 rfl (Al (v:=CH (By m&&& 3)) rfl (λρ h=>Ep (c:=3) am (h _ _ rfl) (h _ _ rfl) (by decide)) ?_);refine Al (v:= .bool false) rfl (λρ h=>Yl.to (Hs (h _ _ rfl) (h _ _ rfl)) (by rw [(NH m).2 ⟨aM,aN⟩];rfl)) (zg 2 rfl ?_);refine Al (v:=CH m.w) rfl (λρ h=>IA am (h _ _ rfl) (h _ _ rfl)) (Al (v:= .bool false) rfl (λρ h=>Yl.to (Yl.eql (h _ _ rfl) (h _ _ rfl)) (by rw [decide_eq_false (λe=>aO (by omega))])) ?_);refine zg 12 rfl (Al (v:= .bool (!ap)) rfl (λρ h=>Yl.not (h _ _ rfl)) ?_);refine zg 1 rfl (J7 (c:= !ap) (i:=119) rfl (λd1=>?_) (λd1=>?_))
        ·refine H8 rfl rfl rfl (zg 5 rfl ?_);have hex:(!ap || m.w==1)=true:=by rw [d1];simp
         rw [hex];refine zg 2 rfl (Al (v:= .int .i32 (-11)) rfl (λρ h=>Yl.to (Yl.sub (h _ _ rfl) (h _ _ rfl)) rfl) ?_);refine zg 6 rfl (Al (v:= .pointer (some F.uA)) rfl (λρ h=>Ct (a:=F.uA) 0 0 Tryz.underlying140 Dg rfl rfl rfl (h _ _ rfl)) ?_);refine zg 1 rfl (G0 (kk:=kk) (p:= .DY true) (dl:= -11) O ac rfl rfl rfl rfl rfl G7 rfl rfl λK aB al=>⟨⟨true,K.k,false,K.w - 1⟩,some .len,?_,List.mem_singleton.2 rfl,?_⟩)
         ·obtain⟨aF,aG,aH,w3⟩:=K;obtain⟨U,g2,Z,an,aI,ao⟩:=al;simp only at U g2 Z an;subst U g2 Z;have aJ:w3<134217728:=ao;have e:(⟨false,false,true,w3⟩:M4).num+(-11)=((8*(w3 - 1)+1:Nat):Int):=by simp only [M4.num,Bool.toNat_true,Bool.toNat_false];omega
          rw [e,Fo (by omega)];simp only [M4.num,Bool.toNat_true,Bool.toNat_false];omega
         exact zg 2 rfl (av X O aq _ rfl)
        ·refine Al (v:= .int .i32 (m:M4).num) rfl (λρ h=>Yl.move (h _ _ rfl)) (Al (v:=CH m.w) rfl (λρ h=>IA am (h _ _ rfl) (h _ _ rfl)) ?_);refine zg 3 rfl (F4 (p:=(m.w:Int)=1) rfl (λd2=>?_) (λd2=>?_))
         ·have hex:(!ap || m.w==1)=true:=by rw [d1];simp;omega
          rw [hex];refine zg 2 rfl (Al (v:= .int .i32 (-11)) rfl (λρ h=>Yl.to (Yl.sub (h _ _ rfl) (h _ _ rfl)) rfl) ?_);refine zg 6 rfl (Al (v:= .pointer (some F.uA)) rfl (λρ h=>Ct (a:=F.uA) 0 0 Tryz.underlying140 Dg rfl rfl rfl (h _ _ rfl)) ?_);refine zg 1 rfl (G0 (kk:=kk) (p:= .DY true) (dl:= -11) O ac rfl rfl rfl rfl rfl G7 rfl rfl λK aB al=>⟨⟨true,K.k,false,K.w - 1⟩,some .len,?_,List.mem_singleton.2 rfl,?_⟩)
          ·obtain⟨aF,aG,aH,w3⟩:=K;obtain⟨U,g2,Z,an,aI,ao⟩:=al;simp only at U g2 Z an;subst U g2 Z;have aJ:w3<134217728:=ao;have e:(⟨false,false,true,w3⟩:M4).num+(-11)=((8*(w3 - 1)+1:Nat):Int):=by simp only [M4.num,Bool.toNat_true,Bool.toNat_false];omega
           rw [e,Fo (by omega)];simp only [M4.num,Bool.toNat_true,Bool.toNat_false];omega
          exact zg 2 rfl (av X O aq _ rfl)
         ·have hex:(!ap || m.w==1)=false:=by rw [d1];simp;omega
          rw [hex];refine zg 5 rfl (Al (v:= .pointer (some F.uA)) rfl (λρ h=>Ct (a:=F.uA) 0 0 Tryz.underlying140 Dg rfl rfl rfl (h _ _ rfl)) ?_);refine zg 1 rfl (G0 (kk:=kk) (p:= .DY false) (dl:= -7) O ac rfl rfl rfl rfl rfl G7 rfl rfl λK aB al=>⟨⟨true,K.k,true,K.w - 1⟩,some .len,?_,List.mem_singleton.2 rfl,?_⟩)
          ·obtain⟨aF,aG,aH,w3⟩:=K;obtain⟨U,g2,Z,an,aI,ao⟩:=al;simp only at U g2 Z an;subst U g2 Z;have aJ:w3<134217728:=ao;have e:(⟨false,false,true,w3⟩:M4).num+(-7)=((8*(w3 - 1)+5:Nat):Int):=by simp only [M4.num,Bool.toNat_true,Bool.toNat_false];omega
           rw [e,Fo (by omega)];simp only [M4.num,Bool.toNat_true,Bool.toNat_false];omega
          exact zg 2 rfl (av X O aq _ rfl)
       ·refine⟨some (.Cg ap true 0 m),by simp [Fam.BV,ag],?_⟩;refine zg 2 rfl ?_;have aK:m.s=false:=by simpa using ag
        refine zg 4 rfl (Al (v:=CH (By m&&& 4)) rfl (λρ h=>Ep (c:=4) am (h _ _ rfl) (h _ _ rfl) (by decide)) ?_);refine Al (v:= .bool false) rfl (λρ h=>Yl.to (Hs (h _ _ rfl) (h _ _ rfl)) (by rw [(HA m).2 aK];rfl)) (zg 11 rfl ?_);refine JL.again ?_;rw [← aC];exact Et [(0,.pointer (some F.uA)),(2,iV v),(3,.bool ap),(4,.bool true),(5,iV ((0:Nat):Int)),(6,.int .i32 (m:M4).num)] rfl (aU (ap,true,0,m,v) ⟨λ_=>au.2.1 aK,Nat.zero_le _,aE⟩)
      ·rw [if_pos rfl];refine zg 15 rfl (Al (v:= .pointer (some F.uA)) rfl (λρ h=>Ct (a:=F.uA) 0 0 Tryz.underlying140 Dg rfl rfl rfl (h _ _ rfl)) ?_);refine G2 (kk:=kk) (p:= .Eu true) O ac rfl rfl rfl rfl rfl GY H9 rfl ?_;intro m aZ au;have aE:CX m:=au.2.2;have am:Ch m:=aE.Ch;by_cases ag:m.s=true
       ·refine⟨some (.DY (!true || m.w==1)),by simp [Fam.BV,ag],?_⟩;refine zg 2 rfl ?_;obtain⟨aM,aN,aO⟩:=au.1 ag;refine zg 4 rfl (Al (v:=CH (By m&&& 4)) rfl (λρ h=>Ep (c:=4) am (h _ _ rfl) (h _ _ rfl) (by decide)) ?_);refine Al (v:= .bool true) rfl (λρ h=>Yl.to (Hs (h _ _ rfl) (h _ _ rfl)) (by have aP:(((By m&&& 4:Nat):Int)≠0):=(λe=>by rw [(HA m).1 e] at ag;cases ag);rw [decide_eq_true aP])) ?_;refine zg 6 rfl (Al (v:=CH (By m&&& 3)) rfl (λρ h=>Ep (c:=3) am (h _ _ rfl) (h _ _ rfl) (by decide)) ?_);refine Al (v:= .bool false) rfl (λρ h=>Yl.to (Hs (h _ _ rfl) (h _ _ rfl)) (by rw [(NH m).2 ⟨aM,aN⟩];rfl)) (zg 2 rfl ?_);refine Al (v:=CH m.w) rfl (λρ h=>IA am (h _ _ rfl) (h _ _ rfl)) (Al (v:= .bool false) rfl (λρ h=>Yl.to (Yl.eql (h _ _ rfl) (h _ _ rfl)) (by rw [decide_eq_false (λe=>aO (by omega))])) ?_);refine zg 12 rfl (Al (v:= .bool (!true)) rfl (λρ h=>Yl.not (h _ _ rfl)) ?_);refine zg 1 rfl (J7 (c:= !true) (i:=119) rfl (λd1=>?_) (λd1=>?_))
        ·refine H8 rfl rfl rfl (zg 5 rfl ?_);have hex:(!true || m.w==1)=true:=by rw [d1];simp
         rw [hex];refine zg 2 rfl (Al (v:= .int .i32 (-11)) rfl (λρ h=>Yl.to (Yl.sub (h _ _ rfl) (h _ _ rfl)) rfl) ?_);refine zg 6 rfl (Al (v:= .pointer (some F.uA)) rfl (λρ h=>Ct (a:=F.uA) 0 0 Tryz.underlying140 Dg rfl rfl rfl (h _ _ rfl)) ?_);refine zg 1 rfl (G0 (kk:=kk) (p:= .DY true) (dl:= -11) O ac rfl rfl rfl rfl rfl G7 rfl rfl λK aB al=>⟨⟨true,K.k,false,K.w - 1⟩,some .len,?_,List.mem_singleton.2 rfl,?_⟩)
         ·obtain⟨aF,aG,aH,w3⟩:=K;obtain⟨U,g2,Z,an,aI,ao⟩:=al;simp only at U g2 Z an;subst U g2 Z;have aJ:w3<134217728:=ao;have e:(⟨false,false,true,w3⟩:M4).num+(-11)=((8*(w3 - 1)+1:Nat):Int):=by simp only [M4.num,Bool.toNat_true,Bool.toNat_false];omega
          rw [e,Fo (by omega)];simp only [M4.num,Bool.toNat_true,Bool.toNat_false];omega
         exact zg 2 rfl (av X O aq _ rfl)
        ·refine Al (v:= .int .i32 (m:M4).num) rfl (λρ h=>Yl.move (h _ _ rfl)) (Al (v:=CH m.w) rfl (λρ h=>IA am (h _ _ rfl) (h _ _ rfl)) ?_);refine zg 3 rfl (F4 (p:=(m.w:Int)=1) rfl (λd2=>?_) (λd2=>?_))
         ·have hex:(!true || m.w==1)=true:=by rw [d1];simp;omega
          rw [hex];refine zg 2 rfl (Al (v:= .int .i32 (-11)) rfl (λρ h=>Yl.to (Yl.sub (h _ _ rfl) (h _ _ rfl)) rfl) ?_);refine zg 6 rfl (Al (v:= .pointer (some F.uA)) rfl (λρ h=>Ct (a:=F.uA) 0 0 Tryz.underlying140 Dg rfl rfl rfl (h _ _ rfl)) ?_);refine zg 1 rfl (G0 (kk:=kk) (p:= .DY true) (dl:= -11) O ac rfl rfl rfl rfl rfl G7 rfl rfl λK aB al=>⟨⟨true,K.k,false,K.w - 1⟩,some .len,?_,List.mem_singleton.2 rfl,?_⟩)
          ·obtain⟨aF,aG,aH,w3⟩:=K;obtain⟨U,g2,Z,an,aI,ao⟩:=al;simp only at U g2 Z an;subst U g2 Z;have aJ:w3<134217728:=ao;have e:(⟨false,false,true,w3⟩:M4).num+(-11)=((8*(w3 - 1)+1:Nat):Int):=by simp only [M4.num,Bool.toNat_true,Bool.toNat_false];omega
           rw [e,Fo (by omega)];simp only [M4.num,Bool.toNat_true,Bool.toNat_false];omega
          exact zg 2 rfl (av X O aq _ rfl)
         ·have hex:(!true || m.w==1)=false:=by rw [d1];simp;omega
          rw [hex];refine zg 5 rfl (Al (v:= .pointer (some F.uA)) rfl (λρ h=>Ct (a:=F.uA) 0 0 Tryz.underlying140 Dg rfl rfl rfl (h _ _ rfl)) ?_);refine zg 1 rfl (G0 (kk:=kk) (p:= .DY false) (dl:= -7) O ac rfl rfl rfl rfl rfl G7 rfl rfl λK aB al=>⟨⟨true,K.k,true,K.w - 1⟩,some .len,?_,List.mem_singleton.2 rfl,?_⟩)
          ·obtain⟨aF,aG,aH,w3⟩:=K;obtain⟨U,g2,Z,an,aI,ao⟩:=al;simp only at U g2 Z an;subst U g2 Z;have aJ:w3<134217728:=ao;have e:(⟨false,false,true,w3⟩:M4).num+(-7)=((8*(w3 - 1)+5:Nat):Int):=by simp only [M4.num,Bool.toNat_true,Bool.toNat_false];omega
           rw [e,Fo (by omega)];simp only [M4.num,Bool.toNat_true,Bool.toNat_false];omega
          exact zg 2 rfl (av X O aq _ rfl)
       ·refine⟨some (.Cg true true 0 m),by simp [Fam.BV,ag],?_⟩;refine zg 2 rfl ?_;have aK:m.s=false:=by simpa using ag
        refine zg 4 rfl (Al (v:=CH (By m&&& 4)) rfl (λρ h=>Ep (c:=4) am (h _ _ rfl) (h _ _ rfl) (by decide)) ?_);refine Al (v:= .bool false) rfl (λρ h=>Yl.to (Hs (h _ _ rfl) (h _ _ rfl)) (by rw [(HA m).2 aK];rfl)) (zg 11 rfl ?_);refine JL.again ?_;rw [← aC];exact Et [(0,.pointer (some F.uA)),(2,iV v),(3,.bool true),(4,.bool true),(5,iV ((0:Nat):Int)),(6,.int .i32 (m:M4).num)] rfl (aU (true,true,0,m,v) ⟨λ_=>au.2.1 aK,Nat.zero_le _,aE⟩)
     ·refine⟨some ((.Co sv)),RJ az _ (.inr rfl),?_⟩;refine zg 6 rfl (Al (v:=CH (By old&&& 5)) rfl (λρ h=>Ep (c:=5) ay (h _ _ rfl) (h _ _ rfl) (by decide)) ?_);refine Al (v:= .bool false) rfl (λρ h=>Yl.to (Yl.eql (h _ _ rfl) (h _ _ rfl)) (by rw [decide_eq_false (λe=>az ((L8 old).1 e))])) ?_;refine zg 13 rfl (Al (v:= .bool false) rfl (λρ h=>Yl.to (Yl.eql (h _ _ rfl) (h _ _ rfl)) (by rw [decide_eq_false a8])) ?_);refine zg 7 rfl (Al (v:= .pointer (some F.qA)) rfl (λρ h=>Ct (a:=F.uA) 0 1 Tryz.underlying140 Mw rfl rfl rfl (h _ _ rfl)) ?_);refine zg 1 rfl (Q0 (kk:=kk) (sv:=sv) O ac rfl rfl rfl rfl Ta rfl rfl ?_);refine JL.done ?_;cases sv
      ·rw [if_neg (by decide)];refine zg 4 rfl (OG (kk:=kk) (p:= .FR) O ac rfl rfl rfl rfl rfl Pj P2 λbn bo v2 bp=>⟨some (.Eu (decide (IntKind.i64.wrap (v2 - wt)>1000000))),by (cases decide (IntKind.i64.wrap (v2 - wt)>1000000) <;> simp [Fam.BV]),?_⟩);refine zg 1 rfl (Al (v:= .int .i64 (IntKind.i64.wrap (v2 - wt))) rfl (λρ h=>Yl.sub (h _ _ rfl) (h _ _ rfl)) ?_);refine zg 4 rfl ?_;generalize decide (IntKind.i64.wrap (v2 - wt)>1000000)=ap;refine zg 4 rfl (Al (v:= .pointer (some F.uA)) rfl (λρ h=>Ct (a:=F.uA) 0 0 Tryz.underlying140 Dg rfl rfl rfl (h _ _ rfl)) ?_);refine G2 (kk:=kk) (p:= .Eu ap) O ac rfl rfl rfl rfl rfl GY H9 rfl ?_;intro m aZ au;have aE:CX m:=au.2.2;have am:Ch m:=aE.Ch;by_cases ag:m.s=true
       ·refine⟨some (.DY (!ap || m.w==1)),by simp [Fam.BV,ag],?_⟩;refine zg 2 rfl ?_;obtain⟨aM,aN,aO⟩:=au.1 ag;refine zg 4 rfl (Al (v:=CH (By m&&& 4)) rfl (λρ h=>Ep (c:=4) am (h _ _ rfl) (h _ _ rfl) (by decide)) ?_);refine Al (v:= .bool true) rfl (λρ h=>Yl.to (Hs (h _ _ rfl) (h _ _ rfl)) (by have aP:(((By m&&& 4:Nat):Int)≠0):=(λe=>by rw [(HA m).1 e] at ag;cases ag);rw [decide_eq_true aP])) ?_;refine zg 6 rfl (Al (v:=CH (By m&&& 3)) rfl (λρ h=>Ep (c:=3) am (h _ _ rfl) (h _ _ rfl) (by decide)) ?_);refine Al (v:= .bool false) rfl (λρ h=>Yl.to (Hs (h _ _ rfl) (h _ _ rfl)) (by rw [(NH m).2 ⟨aM,aN⟩];rfl)) (zg 2 rfl ?_);refine Al (v:=CH m.w) rfl (λρ h=>IA am (h _ _ rfl) (h _ _ rfl)) (Al (v:= .bool false) rfl (λρ h=>Yl.to (Yl.eql (h _ _ rfl) (h _ _ rfl)) (by rw [decide_eq_false (λe=>aO (by omega))])) ?_);refine zg 12 rfl (Al (v:= .bool (!ap)) rfl (λρ h=>Yl.not (h _ _ rfl)) ?_);refine zg 1 rfl (J7 (c:= !ap) (i:=119) rfl (λd1=>?_) (λd1=>?_))
        ·refine H8 rfl rfl rfl (zg 5 rfl ?_);have hex:(!ap || m.w==1)=true:=by rw [d1];simp
         rw [hex];refine zg 2 rfl (Al (v:= .int .i32 (-11)) rfl (λρ h=>Yl.to (Yl.sub (h _ _ rfl) (h _ _ rfl)) rfl) ?_);refine zg 6 rfl (Al (v:= .pointer (some F.uA)) rfl (λρ h=>Ct (a:=F.uA) 0 0 Tryz.underlying140 Dg rfl rfl rfl (h _ _ rfl)) ?_);refine zg 1 rfl (G0 (kk:=kk) (p:= .DY true) (dl:= -11) O ac rfl rfl rfl rfl rfl G7 rfl rfl λK aB al=>⟨⟨true,K.k,false,K.w - 1⟩,some .len,?_,List.mem_singleton.2 rfl,?_⟩)
         ·obtain⟨aF,aG,aH,w3⟩:=K;obtain⟨U,g2,Z,an,aI,ao⟩:=al;simp only at U g2 Z an;subst U g2 Z;have aJ:w3<134217728:=ao;have e:(⟨false,false,true,w3⟩:M4).num+(-11)=((8*(w3 - 1)+1:Nat):Int):=by simp only [M4.num,Bool.toNat_true,Bool.toNat_false];omega
          rw [e,Fo (by omega)];simp only [M4.num,Bool.toNat_true,Bool.toNat_false];omega
         exact zg 2 rfl (av X O aq _ rfl)
        ·refine Al (v:= .int .i32 (m:M4).num) rfl (λρ h=>Yl.move (h _ _ rfl)) (Al (v:=CH m.w) rfl (λρ h=>IA am (h _ _ rfl) (h _ _ rfl)) ?_);refine zg 3 rfl (F4 (p:=(m.w:Int)=1) rfl (λd2=>?_) (λd2=>?_))
         ·have hex:(!ap || m.w==1)=true:=by rw [d1];simp;omega
          rw [hex];refine zg 2 rfl (Al (v:= .int .i32 (-11)) rfl (λρ h=>Yl.to (Yl.sub (h _ _ rfl) (h _ _ rfl)) rfl) ?_);refine zg 6 rfl (Al (v:= .pointer (some F.uA)) rfl (λρ h=>Ct (a:=F.uA) 0 0 Tryz.underlying140 Dg rfl rfl rfl (h _ _ rfl)) ?_);refine zg 1 rfl (G0 (kk:=kk) (p:= .DY true) (dl:= -11) O ac rfl rfl rfl rfl rfl G7 rfl rfl λK aB al=>⟨⟨true,K.k,false,K.w - 1⟩,some .len,?_,List.mem_singleton.2 rfl,?_⟩)
          ·obtain⟨aF,aG,aH,w3⟩:=K;obtain⟨U,g2,Z,an,aI,ao⟩:=al;simp only at U g2 Z an;subst U g2 Z;have aJ:w3<134217728:=ao;have e:(⟨false,false,true,w3⟩:M4).num+(-11)=((8*(w3 - 1)+1:Nat):Int):=by simp only [M4.num,Bool.toNat_true,Bool.toNat_false];omega
           rw [e,Fo (by omega)];simp only [M4.num,Bool.toNat_true,Bool.toNat_false];omega
          exact zg 2 rfl (av X O aq _ rfl)
         ·have hex:(!ap || m.w==1)=false:=by rw [d1];simp;omega
          rw [hex];refine zg 5 rfl (Al (v:= .pointer (some F.uA)) rfl (λρ h=>Ct (a:=F.uA) 0 0 Tryz.underlying140 Dg rfl rfl rfl (h _ _ rfl)) ?_);refine zg 1 rfl (G0 (kk:=kk) (p:= .DY false) (dl:= -7) O ac rfl rfl rfl rfl rfl G7 rfl rfl λK aB al=>⟨⟨true,K.k,true,K.w - 1⟩,some .len,?_,List.mem_singleton.2 rfl,?_⟩)
          ·obtain⟨aF,aG,aH,w3⟩:=K;obtain⟨U,g2,Z,an,aI,ao⟩:=al;simp only at U g2 Z an;subst U g2 Z;have aJ:w3<134217728:=ao;have e:(⟨false,false,true,w3⟩:M4).num+(-7)=((8*(w3 - 1)+5:Nat):Int):=by simp only [M4.num,Bool.toNat_true,Bool.toNat_false];omega
           rw [e,Fo (by omega)];simp only [M4.num,Bool.toNat_true,Bool.toNat_false];omega
          exact zg 2 rfl (av X O aq _ rfl)
       ·refine⟨some (.Cg ap true 0 m),by simp [Fam.BV,ag],?_⟩;refine zg 2 rfl ?_;have aK:m.s=false:=by simpa using ag
        refine zg 4 rfl (Al (v:=CH (By m&&& 4)) rfl (λρ h=>Ep (c:=4) am (h _ _ rfl) (h _ _ rfl) (by decide)) ?_);refine Al (v:= .bool false) rfl (λρ h=>Yl.to (Hs (h _ _ rfl) (h _ _ rfl)) (by rw [(HA m).2 aK];rfl)) (zg 11 rfl ?_);refine JL.again ?_;rw [← aC];exact Et [(0,.pointer (some F.uA)),(2,iV wt),(3,.bool ap),(4,.bool true),(5,iV ((0:Nat):Int)),(6,.int .i32 (m:M4).num)] rfl (aU (ap,true,0,m,wt) ⟨λ_=>au.2.1 aK,Nat.zero_le _,aE⟩)
      ·rw [if_pos rfl];refine zg 15 rfl (Al (v:= .pointer (some F.uA)) rfl (λρ h=>Ct (a:=F.uA) 0 0 Tryz.underlying140 Dg rfl rfl rfl (h _ _ rfl)) ?_);refine G2 (kk:=kk) (p:= .Eu true) O ac rfl rfl rfl rfl rfl GY H9 rfl ?_;intro m aZ au;have aE:CX m:=au.2.2;have am:Ch m:=aE.Ch;by_cases ag:m.s=true
       ·refine⟨some (.DY (!true || m.w==1)),by simp [Fam.BV,ag],?_⟩;refine zg 2 rfl ?_;obtain⟨aM,aN,aO⟩:=au.1 ag;refine zg 4 rfl (Al (v:=CH (By m&&& 4)) rfl (λρ h=>Ep (c:=4) am (h _ _ rfl) (h _ _ rfl) (by decide)) ?_);refine Al (v:= .bool true) rfl (λρ h=>Yl.to (Hs (h _ _ rfl) (h _ _ rfl)) (by have aP:(((By m&&& 4:Nat):Int)≠0):=(λe=>by rw [(HA m).1 e] at ag;cases ag);rw [decide_eq_true aP])) ?_;refine zg 6 rfl (Al (v:=CH (By m&&& 3)) rfl (λρ h=>Ep (c:=3) am (h _ _ rfl) (h _ _ rfl) (by decide)) ?_);refine Al (v:= .bool false) rfl (λρ h=>Yl.to (Hs (h _ _ rfl) (h _ _ rfl)) (by rw [(NH m).2 ⟨aM,aN⟩];rfl)) (zg 2 rfl ?_);refine Al (v:=CH m.w) rfl (λρ h=>IA am (h _ _ rfl) (h _ _ rfl)) (Al (v:= .bool false) rfl (λρ h=>Yl.to (Yl.eql (h _ _ rfl) (h _ _ rfl)) (by rw [decide_eq_false (λe=>aO (by omega))])) ?_);refine zg 12 rfl (Al (v:= .bool (!true)) rfl (λρ h=>Yl.not (h _ _ rfl)) ?_);refine zg 1 rfl (J7 (c:= !true) (i:=119) rfl (λd1=>?_) (λd1=>?_))
        ·refine H8 rfl rfl rfl (zg 5 rfl ?_);have hex:(!true || m.w==1)=true:=by rw [d1];simp
         rw [hex];refine zg 2 rfl (Al (v:= .int .i32 (-11)) rfl (λρ h=>Yl.to (Yl.sub (h _ _ rfl) (h _ _ rfl)) rfl) ?_);refine zg 6 rfl (Al (v:= .pointer (some F.uA)) rfl (λρ h=>Ct (a:=F.uA) 0 0 Tryz.underlying140 Dg rfl rfl rfl (h _ _ rfl)) ?_);refine zg 1 rfl (G0 (kk:=kk) (p:= .DY true) (dl:= -11) O ac rfl rfl rfl rfl rfl G7 rfl rfl λK aB al=>⟨⟨true,K.k,false,K.w - 1⟩,some .len,?_,List.mem_singleton.2 rfl,?_⟩)
         ·obtain⟨aF,aG,aH,w3⟩:=K;obtain⟨U,g2,Z,an,aI,ao⟩:=al;simp only at U g2 Z an;subst U g2 Z;have aJ:w3<134217728:=ao;have e:(⟨false,false,true,w3⟩:M4).num+(-11)=((8*(w3 - 1)+1:Nat):Int):=by simp only [M4.num,Bool.toNat_true,Bool.toNat_false];omega
          rw [e,Fo (by omega)];simp only [M4.num,Bool.toNat_true,Bool.toNat_false];omega
         exact zg 2 rfl (av X O aq _ rfl)
        ·refine Al (v:= .int .i32 (m:M4).num) rfl (λρ h=>Yl.move (h _ _ rfl)) (Al (v:=CH m.w) rfl (λρ h=>IA am (h _ _ rfl) (h _ _ rfl)) ?_);refine zg 3 rfl (F4 (p:=(m.w:Int)=1) rfl (λd2=>?_) (λd2=>?_))
         ·have hex:(!true || m.w==1)=true:=by rw [d1];simp;omega
          rw [hex];refine zg 2 rfl (Al (v:= .int .i32 (-11)) rfl (λρ h=>Yl.to (Yl.sub (h _ _ rfl) (h _ _ rfl)) rfl) ?_);refine zg 6 rfl (Al (v:= .pointer (some F.uA)) rfl (λρ h=>Ct (a:=F.uA) 0 0 Tryz.underlying140 Dg rfl rfl rfl (h _ _ rfl)) ?_);refine zg 1 rfl (G0 (kk:=kk) (p:= .DY true) (dl:= -11) O ac rfl rfl rfl rfl rfl G7 rfl rfl λK aB al=>⟨⟨true,K.k,false,K.w - 1⟩,some .len,?_,List.mem_singleton.2 rfl,?_⟩)
          ·obtain⟨aF,aG,aH,w3⟩:=K;obtain⟨U,g2,Z,an,aI,ao⟩:=al;simp only at U g2 Z an;subst U g2 Z;have aJ:w3<134217728:=ao;have e:(⟨false,false,true,w3⟩:M4).num+(-11)=((8*(w3 - 1)+1:Nat):Int):=by simp only [M4.num,Bool.toNat_true,Bool.toNat_false];omega
           rw [e,Fo (by omega)];simp only [M4.num,Bool.toNat_true,Bool.toNat_false];omega
          exact zg 2 rfl (av X O aq _ rfl)
         ·have hex:(!true || m.w==1)=false:=by rw [d1];simp;omega
          rw [hex];refine zg 5 rfl (Al (v:= .pointer (some F.uA)) rfl (λρ h=>Ct (a:=F.uA) 0 0 Tryz.underlying140 Dg rfl rfl rfl (h _ _ rfl)) ?_);refine zg 1 rfl (G0 (kk:=kk) (p:= .DY false) (dl:= -7) O ac rfl rfl rfl rfl rfl G7 rfl rfl λK aB al=>⟨⟨true,K.k,true,K.w - 1⟩,some .len,?_,List.mem_singleton.2 rfl,?_⟩)
          ·obtain⟨aF,aG,aH,w3⟩:=K;obtain⟨U,g2,Z,an,aI,ao⟩:=al;simp only at U g2 Z an;subst U g2 Z;have aJ:w3<134217728:=ao;have e:(⟨false,false,true,w3⟩:M4).num+(-7)=((8*(w3 - 1)+5:Nat):Int):=by simp only [M4.num,Bool.toNat_true,Bool.toNat_false];omega
           rw [e,Fo (by omega)];simp only [M4.num,Bool.toNat_true,Bool.toNat_false];omega
          exact zg 2 rfl (av X O aq _ rfl)
       ·refine⟨some (.Cg true true 0 m),by simp [Fam.BV,ag],?_⟩;refine zg 2 rfl ?_;have aK:m.s=false:=by simpa using ag
        refine zg 4 rfl (Al (v:=CH (By m&&& 4)) rfl (λρ h=>Ep (c:=4) am (h _ _ rfl) (h _ _ rfl) (by decide)) ?_);refine Al (v:= .bool false) rfl (λρ h=>Yl.to (Hs (h _ _ rfl) (h _ _ rfl)) (by rw [(HA m).2 aK];rfl)) (zg 11 rfl ?_);refine JL.again ?_;rw [← aC];exact Et [(0,.pointer (some F.uA)),(2,iV wt),(3,.bool true),(4,.bool true),(5,iV ((0:Nat):Int)),(6,.int .i32 (m:M4).num)] rfl (aU (true,true,0,m,wt) ⟨λ_=>au.2.1 aK,Nat.zero_le _,aE⟩)
   ·refine JL.done (zg 4 rfl ?_);refine Al (v:= .pointer (some F.uA)) rfl (λρ h=>Ct (a:=F.uA) 0 0 Tryz.underlying140 Dg rfl rfl rfl (h _ _ rfl)) (G2 (kk:=kk) (p:= .Ed sv aw it) O ac rfl rfl rfl rfl rfl GY H9 rfl λaD a4 aL=>⟨some (.Cg sv aw it aD),List.mem_singleton.2 rfl,?_⟩);refine zg 3 rfl (JL.again ?_);rw [← aC];exact Et [(0,.pointer (some F.uA)),(2,iV wt),(3,.bool sv),(4,.bool aw),(5,iV (it:Int)),(6,.int .i32 (aD:M4).num)] rfl (aU (sv,aw,it,aD,wt) ⟨aL.2.2.2,aQ.2.1,aL.2.2.1⟩)
 exact λa a0=>key 5 a (by omega) a0
set_option maxHeartbeats 4000000 in
theorem UL{F:Fam}{n:Nat}{L:Env}{ds:Ld_}{k:Li_}{cs:Lf_}{s:St}{b:Frame}{ops:Ao_}{i:Nat}{rest:List Nat}{d:Option Tmp}{x:Operand}{ats:Array TypeId}{ty:TypeId}{pp:String}{af:Ae_}{g:On_}{kk:Nat}(K:s.q=false)(O:ops[i]? =some ⟨d,.call ⟨.value (.func 162),#[x],ats⟩,ty,pp,af,g⟩)(hw:AI L ops ⟨d,.call ⟨.value (.func 162),#[x],ats⟩,ty,pp,af,g⟩=some true)(U:((b.kind != .early)&&A9 n d)=true)(Y:ev L x=some (.pointer (some F.uA)))
  (h:JL (AQ Tryz.prog false) (Stop Tryz.prog F (.lk kk .Fu)) b n (Av L d (.tuple #[])) ds (.inRegion ops rest::k) cs s):
  JL (AQ Tryz.prog false) (Stop Tryz.prog F (.lk kk .FT)) b n L ds (.inRegion ops (i::rest)::k) cs s:=by
 refine G3 (vs:= [.pointer (some F.uA)]) O hw U Tryz.func162 (by decide+kernel) rfl (by simp [evs,Y]) (Nat.le_of_ble_eq_true rfl) λac back=>zg 2 rfl (KS (kk:=kk) (p:= .FT) CM.stop K rfl (λ_ _=>rfl) rfl rfl rfl rfl (by simp) TB ?_);refine zg 6 rfl (Al (v:= .pointer (some F.uA)) rfl (λρ h=>Ct (a:=F.uA) 0 0 Tryz.underlying140 Dg rfl rfl rfl (h _ _ rfl)) ?_);refine Rz (kk:=kk) (p:= .G8) (old:=M4.zero) (nw:=⟨true,false,false,0⟩) CM.stop K rfl rfl rfl rfl rfl NI rfl rfl rfl (λq Z=>⟨some .len,by simp [Fam.BV],?_⟩) (λm q hm Z=>⟨some (.Ed false false 0),by simp [Fam.BV,hm],?_⟩)
 ·refine JL.done (zg 5 rfl ?_);refine KS (kk:=kk) (p:= .len) CM.stop K rfl (λ_ _=>rfl) rfl rfl rfl rfl (by simp) NR (zg 3 rfl ?_);refine OD (kk:=kk) (p:= .Kv) CM.stop K rfl (λ_ _=>rfl) rfl rfl rfl rfl Tryz.underlying229 Tryz.underlying185 Pb rfl (O7 (kk:=kk) (p:= .JF) (ad:=F.uA) CM.stop K rfl (λ_ _=>rfl) rfl rfl rfl rfl (by simp) TF rfl rfl ?_);exact JL.done (JL.ret rfl rfl (Bs.none Tryz.func162 rfl) (back _ _ _ _ h))
 ·refine JL.done (zg 4 rfl ?_);refine Vm (kk:=kk) K rfl rfl rfl rfl (JL.done ?_);exact JL.fin rfl rfl (Bs.none Tryz.func162 rfl) (back _ _ _ _ h)
set_option maxHeartbeats 4000000 in
theorem VN{F:Fam}{n:Nat}{L:Env}{ds:Ld_}{k:Li_}{cs:Lf_}{s:St}{b:Frame}{ops:Ao_}{i:Nat}{rest:List Nat}{d:Option Tmp}{x:Operand}{ats:Array TypeId}{ty:TypeId}{pp:String}{af:Ae_}{g:On_}{kk:Nat}(K:s.q=false)(O:ops[i]? =some ⟨d,.call ⟨.value (.func 121),#[x],ats⟩,ty,pp,af,g⟩)(hw:AI L ops ⟨d,.call ⟨.value (.func 121),#[x],ats⟩,ty,pp,af,g⟩=some true)(U:((b.kind != .early)&&A9 n d)=true)(Y:ev L x=some (.pointer (some F.uA)))
  (h:JL (AQ Tryz.prog false) (Stop Tryz.prog F (.lk kk .Fu)) b n (Av L d (.tuple #[])) ds (.inRegion ops rest::k) cs s):
  JL (AQ Tryz.prog false) (Stop Tryz.prog F (.lk kk .FT)) b n L ds (.inRegion ops (i::rest)::k) cs s:=by
 refine G3 (vs:= [.pointer (some F.uA)]) O hw U Tryz.func121 (by decide+kernel) rfl (by simp [evs,Y]) (Nat.le_of_ble_eq_true rfl) λZ back=>zg 3 rfl (Al (v:= .pointer (some F.uA)) rfl (λρ h=>Ct (a:=F.uA) 1 0 Tryz.underlying142 (AM Tryz.type140) rfl rfl rfl (h _ _ rfl)) ?_);refine UL (kk:=kk) K rfl rfl rfl rfl (JL.done ?_);exact JL.fin rfl rfl (Bs.none Tryz.func121 rfl) (back _ _ _ _ h)
end Pal
namespace Pal
open Go Go.Conc Go.Conc.Lib Go.Proofs Go.ConcR.Gen
def Iq(m:M4):LP:=if m.l=false/\m.k=false/\m.s=false/\m.w≠0 then .ED m else .EV
def P9(m:M4):LP:=if m.s=true then .ET true else if m.k=false/\m.w≠0 then .ED {m with l:=false} else .EV
set_option maxHeartbeats 4000000 in
theorem Uy{F:Fam}{n:Nat}{L:Env}{ds:Ld_}{k:Li_}{cs:Lf_}{s:St}{b:Frame}{ops:Ao_}{i:Nat}{rest:List Nat}{d:Option Tmp}{x Z:Operand}{nw:M4}{ats:Array TypeId}{ty:TypeId}{pp:String}{af:Ae_}{g:On_}{kk:Nat}(U:s.q=false)(az:ops[i]? =some ⟨d,.call ⟨.value (.func 191),#[x,Z],ats⟩,ty,pp,af,g⟩)(hw:AI L ops ⟨d,.call ⟨.value (.func 191),#[x,Z],ats⟩,ty,pp,af,g⟩=some true)(aA:((b.kind != .early)&&A9 n d)=true)(aB:ev L x=some (.pointer (some F.uA)))(aC:ev L Z=some (.int .i32 nw.num))(al:nw.l=false)(aD:CX nw)(ac:Ch nw)
  (h:JL (AQ Tryz.prog false) (Stop Tryz.prog F (.lk kk .EV)) b n (Av L d (.tuple #[])) ds (.inRegion ops rest::k) cs s):
  JL (AQ Tryz.prog false) (Stop Tryz.prog F (.lk kk (if nw.s=true then .ET true else if nw.k=false/\nw.w≠0 then .ED nw else .EV))) b n L ds (.inRegion ops (i::rest)::k) cs s:=by
 refine G3 (vs:= [.pointer (some F.uA),.int .i32 nw.num]) az hw aA Tryz.func191 (by decide+kernel) rfl (by simp [evs,aB,aC]) (Nat.le_of_ble_eq_true rfl) λam back=>zg 4 rfl (Al (v:= .int .i32 ({nw with l:=true}:M4).num) rfl (λρ h=>W5 ac al (h _ _ rfl) (h _ _ rfl)) ?_);refine Al (v:=CH (By ({nw with l:=true}:M4)&&& 1)) rfl (λρ h=>Ep (c:=1) (m:={nw with l:=true}) ac (h _ _ rfl) (h _ _ rfl) (by decide)) (Al (v:= .bool false) rfl (λρ h=>Yl.to (Yl.eql (h _ _ rfl) (h _ _ rfl)) (by rw [decide_eq_false (λe=>by have q:=(PT _).1 e;cases q)])) ?_);refine zg 6 rfl (Al (v:=CH (By nw&&& 4)) rfl (λρ h=>Ep (c:=4) ac (h _ _ rfl) (h _ _ rfl) (by decide)) ?_);refine zg 2 rfl (F4 (p:=((By nw&&& 4:Nat):Int)=0) rfl (λc=>?_) (λc=>?_))
 ·have an:=(HA nw).1 c;rw [if_neg (by rw [an];exact Bool.false_ne_true)];refine zg 6 rfl ?_;refine Iw ?_;refine Et [(0,.pointer (some F.uA)),(4,.int .i32 nw.num)] rfl ?_;refine TI λao ap=>?_;have aE:(if nw.k=false/\nw.w≠0 then LP.ED nw else .EV)=Iq nw:=by unfold Iq;rw [al,an];simp
  rw [aE];refine S9 (P:=Tryz.prog) (F:=F) (s:=s) (kk:=kk) (ph:=λm=>LP.ED m) (ok:=CX) (head:=λ(X:Ph->GP) (a:M4)=>JL (AQ Tryz.prog false) (X (.lk kk (Iq a))) (base 191) Tryz.f191.ntmps ([(0,.pointer (some F.uA)),(4,.int .i32 (a:M4).num)]) [] ao (am::cs) s) ?_ nw aD;intro Y aN aq hC old ar;have K:Ch old:=ar.Ch;show JL (AQ Tryz.prog false) (Y (.lk kk (Iq old))) (base 191) Tryz.f191.ntmps [(0,.pointer (some F.uA)),(4,.int .i32 old.num)] [] ao (am::cs) s;rw [ap];refine zg 5 rfl (Al (v:=CH old.w) rfl (λρ h=>IA K (h _ _ rfl) (h _ _ rfl)) ?_);refine zg 2 rfl (Lx (q:=(old.w:Int)=0) (i:=17) rfl (λc2=>?_) (λc2=>?_))
  ·have O:Iq old= .EV:=by unfold Iq;rw [if_neg (λe=>e.2.2.2 (by omega))]
   refine zg 6 rfl ?_;rw [O];exact JL.ret rfl rfl (Bs.none Tryz.func191 rfl) (back _ _ _ _ (MN (λg s=>aq _ g s) h))
  ·refine Al (v:= .int .i32 (old:M4).num) rfl (λρ h=>Yl.move (h _ _ rfl)) (Al (v:=CH (By old&&& 7)) rfl (λρ h=>Ep (c:=7) K (h _ _ rfl) (h _ _ rfl) (by decide)) ?_);refine zg 3 rfl (F4 (p:=((By old&&& 7:Nat):Int)≠0) rfl (λc3=>?_) (λc3=>?_))
   ·have O:Iq old= .EV:=by unfold Iq;rw [if_neg (λe=>c3 ((TE old).2 ⟨e.1,e.2.1,e.2.2.1⟩))]
    rw [O];exact JL.ret rfl rfl (Bs.none Tryz.func191 rfl) (back _ _ _ _ (MN (λg s=>aq _ g s) h))
   ·have aF:=(TE old).1 (Decidable.not_not.1 c3);obtain⟨l0,aO,aP,w0⟩:=old;obtain⟨z1,au,av⟩:=aF;simp only at z1 au av c2;subst z1 au av;have aw:w0≠0:=by omega
    have O:Iq ⟨false,false,false,w0⟩= .ED ⟨false,false,false,w0⟩:=by unfold Iq;rw [if_pos ⟨rfl,rfl,rfl,aw⟩]
    rw [O];refine zg 4 rfl (Al (v:= .int .i32 (⟨false,false,false,w0 - 1⟩:M4).num) rfl (λρ h=>Xx (m:=⟨false,false,false,w0⟩) K aw (h _ _ rfl) (h _ _ rfl)) ?_);refine Al (v:= .int .i32 (⟨false,true,false,w0 - 1⟩:M4).num) rfl (λρ h=>Np (c:=2) (m:=⟨false,false,false,w0 - 1⟩) (by unfold Ch at K ⊢;simp only at K ⊢;omega) (by decide) (Qe _) rfl (h _ _ rfl) (h _ _ rfl)) (zg 7 rfl ?_);refine Al (v:= .pointer (some F.uA)) rfl (λρ h=>Ct (a:=F.uA) 0 0 Tryz.underlying140 Dg rfl rfl rfl (h _ _ rfl)) (zg 2 rfl ?_);refine λT aG=>(AQ Tryz.prog false).stop (hC ⟨false,false,false,w0⟩ _ ar λX aQ aH ay aI aJ=>?_);refine OR (kk:=kk) (p:= .ED ⟨false,false,false,w0⟩) (old:=⟨false,false,false,w0⟩) (nw:=⟨false,true,false,w0 - 1⟩) aH U rfl rfl rfl rfl rfl NI rfl rfl rfl (λq aK=>⟨some (.ET false),by simp [Fam.BV],?_⟩) (λm q hm aK=>⟨some .Hb,by simp [Fam.BV,hm],?_⟩) T aG
    ·refine JL.done (zg 5 rfl ?_);refine Al (v:= .pointer (some F.qA)) rfl (λρ h=>Ct (a:=F.uA) 0 1 Tryz.underlying140 Mw rfl rfl rfl (h _ _ rfl)) (Q8 (kk:=kk) (st:=false) ay U rfl rfl rfl rfl Tf rfl rfl ?_);exact JL.done (JL.ret rfl rfl (Bs.none Tryz.func191 rfl) (back _ _ _ _ (MN (λg s=>aI _ g s) h)))
    ·refine JL.done (zg 5 rfl ?_);refine Al (v:= .pointer (some F.uA)) rfl (λρ h=>Ct (a:=F.uA) 0 0 Tryz.underlying140 Dg rfl rfl rfl (h _ _ rfl)) (G2 (kk:=kk) (p:= .Hb) ay U rfl rfl rfl rfl rfl GY Z1 rfl λag aR aL=>⟨some (Iq ag),List.mem_singleton.2 rfl,?_⟩);refine zg 3 rfl (JL.again ?_);rw [← ap];exact Et [(0,.pointer (some F.uA)),(4,.int .i32 ag.num)] rfl (aJ ag aL)
 ·have aM:nw.s=true:=by rcases Bool.eq_false_or_eq_true nw.s with hh | hh;exact hh;exact absurd ((HA nw).2 hh) c
  rw [if_pos aM];refine zg 3 rfl (Al (v:= .pointer (some F.qA)) rfl (λρ h=>Ct (a:=F.uA) 0 1 Tryz.underlying140 Mw rfl rfl rfl (h _ _ rfl)) ?_);refine Q8 (kk:=kk) (st:=true) CM.stop U rfl rfl rfl rfl Tf rfl rfl (JL.done ?_);exact JL.fin rfl rfl (Bs.none Tryz.func191 rfl) (back _ _ _ _ h)
set_option maxHeartbeats 4000000 in
theorem Ui{F:Fam}{n:Nat}{L:Env}{ds:Ld_}{k:Li_}{cs:Lf_}{s:St}{b:Frame}{ops:Ao_}{i:Nat}{rest:List Nat}{d:Option Tmp}{x:Operand}{ats:Array TypeId}{ty:TypeId}{pp:String}{af:Ae_}{g:On_}{kk:Nat}(K:s.q=false)(al:ops[i]? =some ⟨d,.call ⟨.value (.func 163),#[x],ats⟩,ty,pp,af,g⟩)(hw:AI L ops ⟨d,.call ⟨.value (.func 163),#[x],ats⟩,ty,pp,af,g⟩=some true)(am:((b.kind != .early)&&A9 n d)=true)(an:ev L x=some (.pointer (some F.uA)))
  (h:JL (AQ Tryz.prog false) (Stop Tryz.prog F .HI) b n (Av L d (.tuple #[])) ds (.inRegion ops rest::k) cs s):
  JL (AQ Tryz.prog false) (Stop Tryz.prog F (.lk kk .Gt)) b n L ds (.inRegion ops (i::rest)::k) cs s:=by
 refine G3 (vs:= [.pointer (some F.uA)]) al hw am Tryz.func163 (by decide+kernel) rfl (by simp [evs,an]) (Nat.le_of_ble_eq_true rfl) λav back=>zg 6 rfl (Al (v:= .pointer (some F.uA)) rfl (λρ h=>Ct (a:=F.uA) 0 0 Tryz.underlying140 Dg rfl rfl rfl (h _ _ rfl)) ?_);refine G2 (kk:=kk) (p:= .Gt) CM.stop K rfl rfl rfl rfl rfl GY Zj rfl λaw ay az=>⟨some .JR,List.mem_singleton.2 rfl,?_⟩;refine zg 4 rfl (OD (kk:=kk) (p:= .JR) CM.stop K rfl (λ_ _=>rfl) rfl rfl rfl rfl Tryz.underlying229 Tryz.underlying185 Pb rfl ?_);refine O7 (kk:=kk) (p:= .JM) (ad:=F.uA) CM.stop K rfl (λ_ _=>rfl) rfl rfl rfl rfl (by simp) Z5 rfl rfl (zg 2 rfl ?_);refine KS (kk:=kk) (p:= .JJ) CM.stop K rfl (λ_ _=>rfl) rfl rfl rfl rfl (by simp) TB (zg 5 rfl ?_);refine Al (v:= .pointer (some F.uA)) rfl (λρ h=>Ct (a:=F.uA) 0 0 Tryz.underlying140 Dg rfl rfl rfl (h _ _ rfl)) (G0 (kk:=kk) (p:= .HE) (dl:= -1) CM.stop K rfl rfl rfl rfl rfl G7 rfl rfl λm q Y=>⟨{m with l:=false},some (P9 m),?_,List.mem_singleton.2 rfl,?_⟩)
 ·obtain⟨ao,O,U,w3⟩:=m;obtain⟨Z,ap⟩:=Y;simp only at Z;subst Z;have aA:w3<134217728:=ap;have aB:=Bool.toNat_le O;have aC:=Bool.toNat_le U;have e:(⟨true,O,U,w3⟩:M4).num+(-1)=((2*O.toNat+4*U.toNat+8*w3:Nat):Int):=by simp only [M4.num,Bool.toNat_true];omega
  rw [e,Fo (by omega)];simp only [M4.num,Bool.toNat_false];omega
 ·have ac:CX m:=Y.2;have aq:Ch ({m with l:=false}:M4):=(show CX ({m with l:=false}:M4) from ac).Ch;refine zg 8 rfl ?_;refine F4 (p:=({m with l:=false}:M4).num≠0) rfl (λc=>?_) (λc=>?_)
  ·refine JL.region (zg 2 rfl ?_);refine Uy (kk:=kk) (nw:={m with l:=false}) K rfl rfl rfl rfl rfl rfl ac aq (zg 2 rfl ?_);refine KS (kk:=kk) (p:= .EV) CM.stop K rfl (λ_ _=>rfl) rfl rfl rfl rfl (by simp) NR (JL.done ?_);exact JL.fin rfl rfl (Bs.none Tryz.func163 rfl) (back _ _ _ _ h)
  ·have ar:({m with l:=false}:M4).num=0:=Decidable.not_not.1 c;have ag:m.k=false/\m.s=false/\m.w=0:=by
    obtain⟨ao,O,U,w3⟩:=m;cases O <;> cases U <;> simp [M4.num] at ar ⊢ <;> omega
   have au:P9 m= .EV:=by unfold P9;rw [if_neg (by rw [ag.2.1];exact Bool.false_ne_true),if_neg (λe=>e.2 ag.2.2)]
   rw [au];refine zg 2 rfl (KS (kk:=kk) (p:= .EV) CM.stop K rfl (λ_ _=>rfl) rfl rfl rfl rfl (by simp) NR ?_);exact JL.done (JL.fin rfl rfl (Bs.none Tryz.func163 rfl) (back _ _ _ _ h))
theorem JO.W7{F:Fam}{n:Nat}{M:Env}{ds:Ld_}{cs:Lf_}{s:St}{b:Frame}{kk:Nat}(K:b.roundOf=none)(O:s.q=false)(h:JO (AQ Tryz.prog false) (Stop Tryz.prog F .HI) b n M ds cs s):
  JO (AQ Tryz.prog false) (Stop Tryz.prog F (.lk kk .Gt)) b n M (dcall 122 #[.pointer (some F.uA)]::ds) cs s:=by
 refine JO.enter (vs:= [.pointer (some F.uA)]) K Tryz.func122 (by decide+kernel) rfl (Nat.le_of_ble_eq_true rfl) λT U todo=>zg 3 rfl (Al (v:= .pointer (some F.uA)) rfl (λρ h=>Ct (a:=F.uA) 1 0 Tryz.underlying142 (AM Tryz.type140) rfl rfl rfl (h _ _ rfl)) ?_);refine Ui (kk:=kk) O rfl rfl rfl rfl (JL.done ?_);exact JL.out rfl (JO.leaveD rfl Tryz.func122 rfl (.inl rfl) (h T U todo))
end Pal
namespace Pal
open Go Go.Conc
open Go.ConcN (upd)
section
variable {P:Program}{F:Fam}{n:Nat}{L L':Env}{ds:Ld_}{k:Li_}{cs:Lf_}{s s':St}{b:Frame}
variable {ops:Ao_}{i:Nat}{rest:List Nat}{d:Option Tmp}{f:FuncId}{x y z:Operand}{ats:Array TypeId}{ty t u tw:TypeId}{pp:String}{af:Ae_}{g:On_}{kk:Nat}
theorem Ux{m:Nat}(h:Be P t=some m)(w:World):(Go.sizeOf t).run P w= .ok m w:=by
 unfold Be at h;simp only [Go.sizeOf,typeInfo,bind,Sem.bind,program,Sem.run];cases hi:P.info? t with
 | none=>rw [hi] at h;cases h
 | some j=>rw [hi] at h;simp at h;subst h;rfl
theorem Xs{w:World}{K:Nat->Value}(h:F.FD w K)(O:kk<F.n):w.cell? ⟨F.fd,kk,none⟩=some (K kk)/\w.frozen? ⟨F.fd,kk,none⟩=false:=by
 unfold Fam.FD Fam.Io at h;constructor
 ·simp [World.cell?,h,O]
 ·simp [World.frozen?,h]
theorem UR{w:World}{O:Nat->Value}{v:Value}(h:F.FD w O)(ac:kk<F.n):w.setCell ⟨F.fd,kk,none⟩ v=F.Hd w (upd O kk v):=by
 unfold Fam.Hd World.setCell;congr 1;apply Array.ext_getElem?;intro i;unfold Fam.FD Fam.Io at h;rw [Array.getElem?_modify];have U:F.fd<w.heap.size:=by
  rcases Nat.lt_or_ge F.fd w.heap.size with K | K
  ·exact K
  ·simp [Array.getElem?_eq_none K] at h
 by_cases e:F.fd=i
 ·subst e;rw [Array.getElem?_setIfInBounds_self_of_lt U,h];simp only [if_true,Option.map_some,Fam.Io,Option.some.injEq,Obj.cells.injEq,and_true];apply Array.ext
  ·simp
  ·intro j ag Y;by_cases e2:kk=j
   ·subst e2;simp [upd]
   ·have Z:¬j=kk:=λe=>e2 e.symm;simp [upd,Z];rw [Array.getElem_setIfInBounds (by simpa using Y),if_neg e2];simp
 ·rw [Array.getElem?_setIfInBounds_ne e,if_neg e]
theorem Uz{X:Ph->GP}(ap:CM P F X){a:Option Addr}{l c:Nat}(aq:s.q=false)(Y:kk<F.n)
  (ar:ops[i]? =some ⟨d,.store t x y,ty,pp,af,g⟩) (Z:b.roundOf=none) (hw:AI L ops ⟨d,.store t x y,ty,pp,af,g⟩=some true) (U:((b.kind != .early)&&A9 n d)=true)
  (au:Be P t=some 1) (av:(P.funcs[b.fn]?).any (·.norace)=false) (aw:ev L x=some (.pointer (some ⟨F.fd,kk,none⟩))) (ay:ev L y=some (.slice a l c)) (hm:F.msg kk (.slice a l c) s.E)
  (h:JL (AQ P false) (X (.lk kk .Gt)) b n (Av L d undef) ds (.inRegion ops rest::k) cs s):
  JL (AQ P false) (X (.lk kk .Fu)) b n L ds (.inRegion ops (i::rest)::k) cs s:=λT K=>by
 simp only [Bool.and_eq_true] at U
 refine(AQ P _).stop (ap _ _ _ {
  run:=rfl,offers:=rfl,quiet:=(by simp [Fam.CC]),live:=λ_=>aq,act:=(by simp [Fam.act]),IJ:=(by simp),EW:=(by simp),go:=(by simp),lk:=λk' l e az=>by cases e;exact absurd rfl az
  Co:=(by simp),store:=λk' e=>?_,fin:=(by simp)})
 cases e
 refine⟨_,hm,G (fr b (Cz T d undef) ds (.inRegion ops rest::k)) cs,rfl,λw aA ac=>?_,h _ (K.put U.2 _)⟩
 obtain⟨c1,c2⟩:=Xs ac Y
 have ag:execOp (⟨T,ds⟩:Act).eval ⟨d,.store t x y,ty,pp,af,g⟩=(do Instr.storeAt t (.pointer (some ⟨F.fd,kk,none⟩)) (.slice a l c);pure Next.skip):=by
  rw [KC];simp only [execOp,K.ev aw,K.ev ay]
 have al:(Value.slice a l c).cells= #[.slice a l c]:=rfl;have am:(Value.slice a l c).oneCell'=true:=rfl;have an:(Addr.add ⟨F.fd,kk,none⟩ 0)=⟨F.fd,kk,none⟩:=by rw [DI rfl];rfl
 have ao:=Ux (P:=P) au w;have O:=run_store P w ⟨F.fd,kk,none⟩ (.slice a l c) .plain am;rw [c1] at O;simp only [c2,Bool.false_eq_true,if_false] at O;rw [BJ Z,BJ Z,stepG_none (a:=⟨T,ds⟩) (w':=F.Hd w (upd aA kk (.slice a l c))) ar (B5 K hw) (by simpa using U.1) (by
  rw [ag]
  simp [Instr.storeAt,Instr.sureAddr,storeVar,al,ao,storeCells,an,O,UR ac Y,Result.andThen]),DW]
 have e2:listed P b.fn ⟨T,ds⟩ ⟨d,.store t x y,ty,pp,af,g⟩ w= #[⟨.cell ⟨F.fd,kk,none⟩,true,false⟩]:=by
  unfold listed;rw [ag];have aB:=events_store (P:=P) (w:=w) (es:= #[]) ⟨F.fd,kk,none⟩ (.slice a l c) .plain am;have aC:(do Instr.storeAt t (.pointer (some ⟨F.fd,kk,none⟩)) (.slice a l c);pure Next.skip:Sem Next).events P w #[]= #[⟨.cell ⟨F.fd,kk,none⟩,true,false⟩]:=by
   simp [Instr.storeAt,Instr.sureAddr,storeVar,al,ao,storeCells,an,O,c1,c2,aB,Result.evThen]
  rw [aC,seen_def];simp [seenStep,av]
 rw [e2]
end
end Pal
namespace Pal
open Go Go.Conc Go.Proofs
open Go.Proofs.Tryz
open Go.Conc.Lib Go.ConcR.Gen
theorem ZH:(Tryz.prog.funcs[117]?).any (·.norace)=false:=by rw [func117];rfl
def Kp(fu_:Nat)(K:A5)(p:Ay)(j:Nat):Option (List Int):=
 (f120 fu_ K).bind λO=>
 (f119 fu_ ([O]:List (List (AB))) ((j:Nat):Int) p ([]:List ((Nat×Bm)×Bool))).bind λU=>
 some U.1
set_option maxHeartbeats 1000000 in
theorem XR{F:Fam}{j:Nat}{E:LH}{ap a1 an:An}{Z c2 ao ac op ag al am oi kf off:Nat}{p:Ay}{O:A5}(ay:At E ac op [.slice ap p.length Z])(az:Am Au E ap Z p)(aA:At E ag al [sV a1 O.1 c2,sV an O.2 ao])(aB:Am (rL rI) E a1 c2 O.1)(aC:Am Au E an ao O.2)(hi:At E am oi [iV ((j:Nat):Int)])(aD:At E kf off [.slice (some ⟨F.fd,0,none⟩) F.n F.n]){fu_:Nat}{r:List Int}(au:Kp fu_ O p j=some r)(av:j<F.n)(aE:∀E' a c,Le E E'->Am rI E' a c r->(r= []->a=none)->F.msg j (.slice a r.length c) E'):
  Way Tryz.prog false (Stop Tryz.prog F (F.start j)) (born Tryz.prog ⟨.fn (.func 117) [.pointer (some F.sA),Ak ac op,Ak ag al,Ak am oi,.pointer (some F.uA),Ak kf off].toArray,#[]⟩) ⟨E,λ_=>none,false⟩:=by
 refine Ws (fn:=Tryz.f117) (vs:= [.pointer (some F.sA),Ak ac op,Ak ag al,Ak am oi,.pointer (some F.uA),Ak kf off]) func117 (by decide+kernel) rfl (by simp) (Nat.le_of_ble_eq_true rfl) ?_;obtain⟨H,aF⟩:∃H:LH,H=λ_=>none:=⟨_,rfl⟩;rw [← aF];have aG:Ap E H []:=trivial;refine(?_:JL (AQ Tryz.prog false) (Stop Tryz.prog F (.lk j .FT)) (baseD 117) Tryz.f117.ntmps (F6 0 [.pointer (some F.sA),Ak ac op,Ak ag al,Ak am oi,.pointer (some F.uA),Ak kf off]) [] [.code _] [Lb Tryz.prog] (Aj E H []));unfold Kp at au;refine zg 2 rfl (JL.defer (vs:= [.pointer (some F.sA)]) rfl rfl rfl rfl rfl ?_);refine zg 3 rfl (Da 0 ay BE rfl rfl rfl ?_);refine JS.makeMap rfl rfl rfl aG λr1 aH=>Al (v:= .agg #[sV ap p Z,.map (some r1)]) rfl (λρ h=>CY [(0,1),(1,1)] h (Dl type153) underlying153 ⟨rfl,AM type80,rfl,AM type151,trivial⟩ rfl rfl) (JS.box (v:= .agg #[sV ap p Z,.map (some r1)]) rfl rfl rfl aH rfl λa2 aI=>?_);refine zg 3 rfl (DG 1 aI rfl λa3 K aJ aK=>?_);refine Fb 5 λaq=>DK 0 aq rfl rfl (I5 1 aq (aA.Ag K) FY DU rfl rfl rfl ?_);refine EM 4 aq 0 (hi.Ag K) Bh rfl rfl rfl rfl ?_;obtain⟨aw,aL,aM⟩:=bs au;refine JG.call (i:=2) (vs:= [.agg #[sV a1 O.1 c2,sV an O.2 ao]]) (XP (aB.Ag K) (aC.Ag K) aL) (by decide+kernel) rfl rfl rfl (Ba func120 rfl) rfl aK ?_;rintro _ a4 _ U ⟨aN,aO,rfl,rfl,aP⟩ aQ;refine JG.one (i:=3) rfl (by decide+kernel) (Take.Dx (pp:=(rL (rM rI false rI false))) [sV aN aw aO] ([aw]:List (List AB)) aQ rfl rfl rfl underlying158 Jh Mq (by decide) rfl rfl rfl ⟨⟨_,_,rfl,aP⟩,trivial⟩ λa5 a6 aR aS=>?_);refine CE [5,6] (BO 3 aR aS rfl λa7 Y aT aU=>?_);obtain⟨aV,aW,aX⟩:=bs aM;refine Ce 0 (Yh aT (aJ.Ag (U.Ad Y)) (az.Ag ((K.Ad U).Ad Y)) BF.nil aW) rfl rfl (Ba func119 rfl) aU rfl ?_;rintro _ a8 _ ar ⟨a9,ba,bb,rfl,rfl,aY,aZ,be⟩ bf;refine zg 3 rfl ?_;have a0:r=aV.1:=(Option.some.inj aX).symm;subst a0;refine JL.region (VN (kk:=j) rfl rfl rfl rfl rfl ?_);refine zg 3 rfl (JL.defer (vs:= [.pointer (some F.uA)]) rfl rfl rfl rfl rfl ?_);refine zg 2 rfl (Da 0 (aD.Ag (((K.Ad U).Ad Y).Ad ar)) FZ rfl rfl rfl ?_);refine Da 0 (hi.Ag (((K.Ad U).Ad Y).Ad ar)) Bh rfl rfl rfl (zg 1 rfl ?_);refine Al (v:= Ak F.fd j) rfl (λρ h=>Yl.to (Fj (xs:=List.replicate F.n ()) (m:=((j:Nat):Int)) (xv:=()) (List.length_replicate) (by simp [ix,av]) underlying22 Gz (h _ _ rfl) (h _ _ rfl)) (by show Ak F.fd (j*1)=_;rw [Nat.mul_one])) (Uz (kk:=j) CM.stop rfl av rfl rfl rfl rfl Gz ZH rfl rfl (aE _ _ _ (((K.Ad U).Ad Y).Ad ar) aY aZ) ?_);exact JL.done (JL.out rfl (JO.W7 (kk:=j) rfl rfl (JO.ZM Tryz.Kg rfl rfl (JO.leaveD rfl func117 rfl (.inr rfl) UO))))
end Pal
namespace Pal
open Go Go.Conc Go.Proofs
open Go.Proofs.Tryz
open Go.Conc.Lib Go.ConcR.Gen
theorem OL.YF{e:TypeId}{E:LH}{r c:Nat}{seg:Seg}{xs:Lv_}(h:OL e rV E (AS r) c seg xs)(Y:c=xs.length):seg= [(r,.cells xs.toArray e (0,0))]:=by
 obtain⟨wss,ag,K,Z⟩:=h;rcases ag with⟨al,_⟩ | ⟨bk,f,am,e2,ac,an,O⟩
 ·cases al
 cases am;have hw:wss=xs.map λx=> [x]:=by
  apply List.ext_getElem?;intro i;rw [List.getElem?_map];cases U:xs[i]? with
  | none=>rw [List.getElem?_eq_none (by rw [K];exact List.getElem?_eq_none_iff.1 U)];rfl
  | some x=>
   have hi:i<wss.length:=by rw [K];exact(List.getElem?_eq_some_iff.1 U).1
   have:=(Z i x wss[i] U (List.getElem?_eq_getElem hi)).1;rw [List.getElem?_eq_getElem hi,this];rfl
 have ao:wss.flatten=xs:=by
  rw [hw];clear hw O Z K ac an Y
  induction xs with
  | nil=>rfl
  | cons x xs ap=>simp [ap]
 rw [ao] at O;have ar:rV.n=1:=rfl;have aq:f.toList=xs:=by
  rw [O];rw [List.take_of_length_le (by rw [Array.length_toList,ac,Y];exact Nat.le_refl _)]
 rw [e2,← aq]
noncomputable def Ks:Code:=match(Tryz.f77.body).bind (I8 0) with | some (.loop c)=>c | _=> .skip
noncomputable def TQ:Code:=match(Tryz.f77.body).bind (I8 2) with | some (.loop c)=>c | _=> .skip
set_option maxHeartbeats 1000000 in
theorem Xh{F:Fam}{n:Nat}(aq:F.n=n)(aM:0<n)(aN:n<=1000){E:LH}{ap a1 al:An}{am c2 an:Nat}{p:Ay}{O:A5}(ar:Am Au E ap am p)(au:Am (rL rI) E a1 c2 O.1)(av:Am Au E al an O.2)(hlen:p.length=n){Y Z kf:Nat}(aw:At E Y 0 [.slice ap p.length am])(ay:At E Z 0 [sV a1 O.1 c2,sV al O.2 an])(az:At E kf 0 [.slice (some ⟨F.fd,0,none⟩) F.n F.n]){fu_:Nat}{xs:Nat->List Int}(aA:∀j,j<n->Kp fu_ O p j=some (xs j))(aB:∀j,j<n->∀E' a c,Am rI E' a c (xs j)->(xs j= []->a=none)->F.msg j (.slice a (xs j).length c) E'){j:Nat}(ac:j<n){ag H:LH}(hle:Le E ag)(aC:Ap ag H []){k:Li_}{cs:Lf_}
  (h:∀U,Le E U->Ap U H []->JL (AQ Tryz.prog true) (Stop Tryz.prog F (F.Ex j)) (base 77) Tryz.f77.ntmps [(2,Ak Z 0),(3,Ak Y 0),(6,.pointer (some F.uA)),(7,.pointer (some F.sA)),(8,Ak kf 0),(19,iV (p.length:Int)),(20,iV ((j+1:Nat):Int))] [] (.inLoop Ks::k) cs (Aj U H [])):
  JL (AQ Tryz.prog true) (Stop Tryz.prog F (.F9 j)) (base 77) Tryz.f77.ntmps [(2,Ak Z 0),(3,Ak Y 0),(6,.pointer (some F.uA)),(7,.pointer (some F.sA)),(8,Ak kf 0),(19,iV (p.length:Int)),(20,iV ((j:Nat):Int))] [] (.code Ks:: .inLoop Ks::k) cs (Aj ag H []):=by
 refine zg 2 rfl (Al (v:= .bool true) rfl (λρ h=>Yl.to (Yl.lss (h _ _ rfl) (h _ _ rfl)) (by rw [decide_eq_true (show((j:Nat):Int)<(p.length:Int) by omega)])) ?_);refine zg 9 rfl (BU aC CR λrn aD=>?_);refine Br 0 aD AK λaE=>?_;refine DG 0 aE rfl λU aF aG aH=>H0 (S':= []) (by simp) aH λaI=>?_;have K:=hle.trans aF;refine zg 3 rfl (U6 Tryz.Kg rfl rfl rfl rfl rfl rfl ?_);refine zg 2 rfl (Al (v:= .func (.func 117) #[] ([.pointer (some F.sA),Ak Y 0,Ak Z 0,Ak rn 0,.pointer (some F.uA),Ak kf 0]:Lv_).toArray) rfl (λρ h=>KG (by simp) (by simp [h (.tmp 7) _ rfl,h (.tmp 3) _ rfl,h (.tmp 2) _ rfl,h (.tmp 9) _ rfl,h (.tmp 6) _ rfl,h (.tmp 8) _ rfl])) ?_);have ao:=XR (F:=F) (j:=j) (aw.Ag K) (ar.Ag K) (ay.Ag K) (au.Ag K) (av.Ag K) aG (az.Ag K) (aA j ac) (by rw [aq];exact ac) (λE' a c _ aJ aK=>aB j ac E' a c aJ aK);refine Yj (fi:= #[]) rfl rfl rfl rfl rfl rfl rfl (by first | exact ao | (simp only [List.append_toArray,List.nil_append,Array.append_empty,Array.empty_append];exact ao)) ?_
 refine zg 3 rfl ?_;have aL:Ax (((j:Nat):Int)+1)=some (((j+1:Nat)):Int):=by unfold Ax;rw [if_pos (by omega)];simp
 refine Bt aL rfl rfl rfl (zg 2 rfl ?_);exact AE (h U K aI) rfl
theorem UX{F:Fam}{n:Nat}(Y:F.n=n)(aq:0<n)(ar:n<=1000){E:LH}{ap a1 ag:An}{al c2 am:Nat}{p:Ay}{O:A5}(au:Am Au E ap al p)(av:Am (rL rI) E a1 c2 O.1)(aw:Am Au E ag am O.2)(hlen:p.length=n){Z ac kf:Nat}(ay:At E Z 0 [.slice ap p.length al])(az:At E ac 0 [sV a1 O.1 c2,sV ag O.2 am])(aA:At E kf 0 [.slice (some ⟨F.fd,0,none⟩) F.n F.n]){fu_:Nat}{xs:Nat->List Int}(aB:∀j,j<n->Kp fu_ O p j=some (xs j))(aC:∀j,j<n->∀E' a c,Am rI E' a c (xs j)->(xs j= []->a=none)->F.msg j (.slice a (xs j).length c) E'){H:LH}{k:Li_}{cs:Lf_}
  (h:∀K,Le E K->Ap K H []->JL (AQ Tryz.prog true) (Stop Tryz.prog F .Db) (base 77) Tryz.f77.ntmps [(2,Ak ac 0),(3,Ak Z 0),(6,.pointer (some F.uA)),(7,.pointer (some F.sA)),(8,Ak kf 0),(19,iV (p.length:Int)),(20,iV (p.length:Int))] [] (.code Ks:: .inLoop Ks::k) cs (Aj K H [])):
  ∀(m j:Nat),j+m=n->0<m->∀U,Le E U->Ap U H []->JL (AQ Tryz.prog true) (Stop Tryz.prog F (.F9 j)) (base 77) Tryz.f77.ntmps [(2,Ak ac 0),(3,Ak Z 0),(6,.pointer (some F.uA)),(7,.pointer (some F.sA)),(8,Ak kf 0),(19,iV (p.length:Int)),(20,iV ((j:Nat):Int))] [] (.code Ks:: .inLoop Ks::k) cs (Aj U H []):=by
 intro m
 induction m with
 | zero=>intro j _ aD;cases aD
 | succ m aE=>
  intro j aH _ U hle aF;refine Xh Y aq ar au av aw hlen ay az aA aB aC (by omega) hle aF λK an ao=>JL.again ?_;by_cases hm:m=0
  ·subst hm;have aG:j+1=F.n:=by rw [Y];omega
   have e:F.Ex j= .Db:=by unfold Fam.Ex;rw [if_pos aG]
   rw [e];have e2:((j+1:Nat):Int)=(p.length:Int):=by rw [hlen];omega
   rw [e2];exact h K an ao
  ·have e:F.Ex j= .F9 (j+1):=by unfold Fam.Ex;rw [if_neg (by rw [Y];omega)]
   rw [e];exact aE (j+1) (by omega) (by omega) K an ao
def NS(fu_:Nat)(K:A5)(p:Ay)(j:Nat):List Int:=(Kp fu_ K p j).getD []
def LQ(n:Nat)(xs:Nat->List Int):(List Int)×Bool:=match(List.range n).find? (λj=> !(xs j).isEmpty) with | some j=>(xs j,true) | none=>([],false)
def f77(fu_:Nat)(K:A5)(p:Ay):Option ((List Int)×Bool):= if p.length=0 then some ([],true) else if p.length<=1000/\(List.range p.length).all (λj=>(Kp fu_ K p j).isSome)=true then some (LQ p.length (NS fu_ K p)) else none
theorem Vb{n:Nat}{xs:Nat->List Int}{i:Nat}(hi:i<n)(K:xs i≠ [])(O:∀k,k<i->xs k= []):LQ n xs=(xs i,true):=by
 unfold LQ;have:(List.range n).find? (λj=> !(xs j).isEmpty)=some i:=by
  rw [List.find?_range_eq_some];refine⟨by simp [K],by simpa using hi,λj U=>by simp [O j U]⟩
 rw [this]
theorem U2{n:Nat}{xs:Nat->List Int}(K:∀k,k<n->xs k= []):LQ n xs=([],false):=by
 unfold LQ;have:(List.range n).find? (λj=> !(xs j).isEmpty)=none:=by
  rw [List.find?_eq_none];intro j O;simp [K j (List.mem_range.1 O)]
 rw [this]
theorem Xf{E:LH}{a:An}{c:Nat}{xs:List Int}(h:Am rI E a c xs)(K:xs≠ []):a.isNone=false:=by
 rcases h.2 with⟨e,_⟩ | ⟨bk,off,e,_⟩
 ·exact absurd e K
 ·rw [e];rfl
set_option maxHeartbeats 1000000 in
theorem Yw{J:Judge Tryz.prog}{Q:Gs_}{Y:Frame}{cs:Lf_}{fd n:Nat}{f:Nat->Value}{xs:Nat->List Int}(ar:n<=1000){E H:LH}{k:Li_}(ag:Ap E H [[(fd,.cells (Array.ofFn λi:Fin n=>f i) 28 (0,0))]])(hm:∀k,k<n->∃a c,f k= .slice a (xs k).length c/\Am rI E a c (xs k)/\(xs k= []->a=none))
  (al:∀i a c L',i<n->xs i≠ []->(∀k,k<i->xs k= [])->Am rI E a c (xs i)->look L' 4=some (.slice a (xs i).length c)->look L' 5=some (.bool true)->∀k',JL J Q (base 77) Tryz.f77.ntmps L' [] (.code .ret::k') (Y::cs) (Aj E H [[(fd,.cells (Array.ofFn λi:Fin n=>f i) 28 (0,0))]]))
  (am:(∀k,k<n->xs k= [])->JL J Q (base 77) Tryz.f77.ntmps [] [] k (Y::cs) (Aj E H [[(fd,.cells (Array.ofFn λi:Fin n=>f i) 28 (0,0))]])):
  ∀m i,i+m=n->(∀k,k<i->xs k= [])->JL J Q (base 77) Tryz.f77.ntmps [(27,.slice (AS fd) n n),(28,iV (n:Int)),(29,iV (i:Int))] [] (.code TQ:: .inLoop TQ:: .inBlock 2::k) (Y::cs) (Aj E H [[(fd,.cells (Array.ofFn λi:Fin n=>f i) 28 (0,0))]]):=by
 intro m
 induction m with
 | zero=>
  intro i hi K;refine zg 2 rfl (Al (v:= .bool false) rfl (λρ h=>Yl.to (Yl.lss (h _ _ rfl) (h _ _ rfl)) (by rw [decide_eq_false (show ¬((i:Int)<(n:Int)) by omega)])) ?_);refine zg 4 rfl (Et [] rfl ?_);exact am λk au=>K k (by omega)
 | succ m an=>
  intro i hi K;have O:i<n:=by omega
  obtain⟨a,c,ao,ac,ap⟩:=hm i O;refine zg 2 rfl (Al (v:= .bool true) rfl (λρ h=>Yl.to (Yl.lss (h _ _ rfl) (h _ _ rfl)) (by rw [decide_eq_true (show(i:Int)<(n:Int) by omega)])) ?_);refine zg 8 rfl (Al (v:= Ak fd i) rfl (λρ h=>Yl.to (Fj (xs:=List.replicate n ()) (m:=((i:Nat):Int)) (xv:=()) (List.length_replicate) (by simp [ix,O]) underlying22 Gz (h _ _ rfl) (h _ _ rfl)) (by show Ak fd (i*1)=_;rw [Nat.mul_one])) ?_);refine Al (v:= .slice a (xs i).length c) rfl (λρ h=>Yl.load JY (h _ _ rfl) (BS (j:=0) (off:=i) ag rfl (by simp [O,ao]))) (zg 5 rfl ?_);refine Al (v:= .bool (!a.isNone)) rfl (λρ h=>Vv underlying28 (h _ _ rfl) (h _ _ rfl)) (JL.done ?_);by_cases U:xs i= []
  ·have Z:(!a.isNone)=false:=by rw [ap U];rfl
   rw [Z];refine zg 4 rfl ?_;have aq:Ax (((i:Nat):Int)+1)=some (((i+1:Nat)):Int):=by unfold Ax;rw [if_pos (by omega)];simp
   refine Bt aq rfl rfl rfl ?_;refine zg 2 rfl ?_;refine JL.again ?_;refine Fi ?_ (an (i+1) (by omega) (λk av=>by
    by_cases e:k=i
    ·subst e;exact U
    ·exact K k (by omega)))
   exact⟨rfl,rfl,rfl,trivial⟩
  ·have Z:(!a.isNone)=true:=by rw [Xf ac U];rfl
   rw [Z];exact zg 7 rfl (al i a c _ O U K ac rfl rfl _)
end Pal
namespace Pal
open Go Go.Conc Go.Proofs
open Go.Proofs.Tryz
open Go.Conc.Lib Go.ConcR.Gen
set_option maxHeartbeats 2000000 in
theorem ZP{E:LH}{a1:An}{c2:Nat}{aD:An}{aE:Nat}{ap:An}{aF:Nat}{O:A5}{p:Ay}(aW:Am (rL rI) E a1 c2 O.1)(aX:Am Au E aD aE O.2)(aY:Am Au E ap aF p){fu_:Nat}{r:(List Int)×Bool}(U:f77 fu_ O p=some r):
  AR (GC Tryz.prog) 77 [.agg #[sV a1 O.1 c2,sV aD O.2 aE],sV ap p aF] E [] (λw E' B'=>∃(aG:An) (aH:Nat),w= .tuple #[sV aG r.1 aH,.bool r.2]/\B'= []/\Am rI E' aG aH r.1):=by
 refine PC func77 rfl rfl λQ bC cs H aZ Y=>?_;unfold f77 at U;refine zg 2 rfl (Dp aZ λa0 bD a2 a3 a4=>?_);refine Dp a4 λa5 bE aI am a6=>?_;refine H0 (S':= []) (by simp) a6 λaJ=>?_;have aK:=a2.Ad aI;refine zg 6 rfl (Da 0 am BE rfl rfl rfl ?_);refine JL.ln underlying80 rfl rfl rfl (zg 2 rfl ?_);refine F4 (p:=(p.length:Int)=0) rfl (λa7=>?_) (λa7=>?_)
 ·rw [if_pos (by omega)] at U;have Z:=(Option.some.inj U).symm;subst Z;refine zg 5 rfl (A3 func77 rfl rfl ?_);exact Y _ _ _ _ aK rfl ⟨none,0,rfl,rfl,Am.nil⟩ aJ
 rw [if_neg (by omega)] at U;split at U
 rotate_left
 ·cases U
 rename_i hb;obtain⟨aL,a8⟩:=hb;have Z:=(Option.some.inj U).symm;have ag:∀j,j<p.length->Kp fu_ O p j=some (NS fu_ O p j):=λj au=>by
  have an:=List.all_eq_true.1 a8 j (List.mem_range.2 au);obtain⟨x,av⟩:=Option.isSome_iff_exists.1 an;unfold NS;rw [av];rfl
 generalize bF:NS fu_ O p=xs at ag Z;have aM:0<p.length:=by omega
 refine zg 3 rfl (BU aJ (Dl type142) λmu a9=>?_);refine zg 3 rfl (BU a9 (Dl type148) λwg ba=>?_);refine JL.done (H0 (S':= [[(mu,.cells #[.int .i32 0,.int .u32 0] 142 (0,0))],[(wg,.cells #[.int .u64 0,.int .u32 0] 148 (0,0))]]) (by simp [Value.cells]) ba λbb=>?_);refine zg 2 rfl (Da 0 am BE rfl rfl rfl ?_);refine JL.ln underlying80 rfl rfl rfl ?_;have be:K6 (p.length:Int) (Value.slice none 0 0)=some (List.replicate p.length nS):=by unfold K6;rw [if_pos (by omega)];simp
 refine JS.make (pp:=rV) be rfl rfl rfl rfl rfl underlying22 Gz (Ck type28) (by decide) Lp (by decide) ⟨rfl,rfl⟩ bb λfd bG bf aN=>?_;have bg:=OL.YF bf rfl;subst bg;obtain⟨K,aO⟩:∃K,K=List.replicate p.length (Value.slice none 0 0):=⟨_,rfl⟩;have aP:(List.replicate p.length (Value.slice none 0 0)).length=p.length:=by simp
 rw [← aO] at aN aP ⊢;rw [aP];refine BU aN (Dl type22) λkf bh=>?_;refine Br 3 bh FL λbi=>?_;refine DG 3 bi rfl λac ao aQ bj=>H0 (S':= [[(mu,.cells #[.int .i32 0,.int .u32 0] 142 (0,0))],[(wg,.cells #[.int .u64 0,.int .u32 0] 148 (0,0))],[(fd,.cells K.toArray 28 (0,0))]]) (by simp) bj λal=>?_;have aq:=aK.Ad ao;refine zg 4 rfl (Da 0 (am.Ag ao) BE rfl rfl rfl ?_);refine JL.ln underlying80 rfl rfl rfl (zg 3 rfl ?_);refine Iw (Et [(2,Ak a0 0),(3,Ak a5 0),(6,.pointer (some (⟨mu,0,none⟩:Addr))),(7,.pointer (some (⟨wg,0,none⟩:Addr))),(8,Ak kf 0),(19,iV (p.length:Int)),(20,iV ((0:Nat):Int))] rfl ?_);have aR:=Nd.iff.1 al;intro T bl;let F:Fam:=⟨wg,mu,fd,148,142,28,p.length,λkk v E=>kk<p.length/\∃a c,v= .slice a (xs kk).length c/\Am rI E a c (xs kk)/\(xs kk= []->a=none),λg s=>(GC Tryz.prog).ok Q g s⟩;have ar:=aR.1;simp only [List.flatten_cons,List.flatten_nil,List.append_nil,List.cons_append,List.nil_append,List.map_cons,List.map_nil,List.nodup_cons,List.mem_cons,List.not_mem_nil,not_or,or_false,not_false_eq_true,and_true,List.nodup_nil] at ar;have bm:(Aj ac H [[(mu,.cells #[.int .i32 0,.int .u32 0] 142 (0,0))],[(wg,.cells #[.int .u64 0,.int .u32 0] 148 (0,0))],[(fd,.cells K.toArray 28 (0,0))]]).H fd=some (F.Io λ_=> nS):=by
  rw [Jz (j:=2) al rfl];have:(Array.ofFn λ_:Fin p.length=>Value.slice none 0 0)=K.toArray:=by
   rw [aO];apply Array.ext
   ·simp
   ·intro i an aS;simp
  show some (Obj.cells K.toArray 28 (0,0))=some (Obj.cells (Array.ofFn λ_:Fin p.length=>Value.slice none 0 0) 28 (0,0));rw [this]
 refine Xg F (f₀:=λ_=> .slice none 0 0) (show 1<=p.length by omega) (show p.length<134217728 by omega) ?_ ar.1.1 (λe=>ar.2 e.symm) (λe=>ar.1.2 e.symm) (Jz (j:=1) al rfl) (Jz (j:=0) al rfl) bm ?_ (λg s h=>h)
 ·rintro kk v bH bI bn ⟨an,a,c,aS,aw,ay⟩;exact⟨an,a,c,aS,aw.Ag bn,ay⟩
 have bo:=UU al;show Way Tryz.prog true (Stop Tryz.prog F (.F9 0)) _ (⟨(Aj ac H [[(mu,.cells #[.int .i32 0,.int .u32 0] 142 (0,0))],[(wg,.cells #[.int .u64 0,.int .u32 0] 148 (0,0))],[(fd,.cells K.toArray 28 (0,0))]]).E,Jq (Aj ac H [[(mu,.cells #[.int .i32 0,.int .u32 0] 142 (0,0))],[(wg,.cells #[.int .u64 0,.int .u32 0] 148 (0,0))],[(fd,.cells K.toArray 28 (0,0))]]).H wg mu fd,false⟩:St);rw [show(Aj ac H [[(mu,.cells #[.int .i32 0,.int .u32 0] 142 (0,0))],[(wg,.cells #[.int .u64 0,.int .u32 0] 148 (0,0))],[(fd,.cells K.toArray 28 (0,0))]]).E=ac from rfl,bo];have bp:Ap ac H []:=trivial;have bq:H fd=none:=(aR.2 (fd,.cells K.toArray 28 (0,0)) (by simp)).2;refine UX (F:=F) (n:=p.length) rfl aM aL (aY.Ag aq) (aW.Ag aq) (aX.Ag aq) rfl (am.Ag ao) (a3.Ag (aI.Ad ao)) aQ ag (λj au E' a c br bu=>⟨au,a,c,rfl,br,bu⟩) (λbv aT bJ=>?_) p.length 0 (by omega) aM ac Az bp T bl;refine zg 2 rfl ?_;refine Al (v:= .bool false) rfl (λρ h=>Yl.to (Yl.lss (h _ _ rfl) (h _ _ rfl)) (by rw [decide_eq_false (show ¬((p.length:Int)<(p.length:Int)) by omega)])) ?_;refine zg 6 rfl ?_;refine JL.wait Tryz.Kg (F:=F) (show p.length<2147483648 by omega) rfl rfl rfl rfl rfl (Q:=Q) (λg s h=>h) λaz f aU bw bK bx=>?_;have aA:Ap az H [[(fd,F.Io f)]]:=Nd.iff.2 ⟨by simp,λq ag=>by
  simp at ag;subst ag;exact⟨bw,bq⟩⟩
 have es:(⟨az,F.Ju (Aj bv H []).H f,false⟩:St)=Aj az H [[(fd,F.Io f)]]:=by
  unfold Aj mk;congr 1
 rw [es];have aV:=(aq.Ad aT).Ad aU;refine zg 4 rfl (Da 0 (aQ.Ag (aT.Ad aU)) FZ rfl rfl rfl ?_);refine JL.ln underlying22 rfl rfl rfl (zg 3 rfl ?_);refine Iw (Et [(27,.slice (AS fd) p.length p.length),(28,iV (p.length:Int)),(29,iV ((0:Nat):Int))] rfl ?_);refine Yw (n:=p.length) (f:=f) (xs:=xs) aL aA (λk Y=>?_) (λi a c L' hi av aB bz aw ay k'=>?_) (λaB=>?_) p.length 0 (by omega) (λk Y=>absurd Y (Nat.not_lt_zero _))
 ·obtain⟨_,a,c,bA,e2,bB⟩:=bx k Y;exact⟨a,c,bA,e2,bB⟩
 ·rw [Vb hi av aB] at Z;subst Z;exact JL.ret (v:= .tuple #[.slice a (xs i).length c,.bool true]) rfl rfl (Bs.list func77 rfl (vs:= [.slice a (xs i).length c,.bool true]) ⟨aw,ay,trivial⟩) (QL aA λaC=>Y _ _ _ _ aV rfl ⟨a,c,rfl,rfl,bz⟩ aC)
 ·rw [U2 aB] at Z;subst Z;refine zg 5 rfl (A3 func77 rfl rfl ?_);exact QL aA λaC=>Y _ _ _ _ aV rfl ⟨none,0,rfl,rfl,Am.nil⟩ aC
end Pal
namespace Pal
open Go Go.Conc Go.Proofs
open Go.Proofs.Tryz
def Ts(fu_:Nat)(Z:A5×Int)(O:AT)(K:Int):Option (Bp Int ((Ay×(List Int)×Int)⊕(Unit))):= if K<(O.length:Int) then((ix O K).bind λU=> (f77 fu_ Z.1 U).bind λY=> if Y.2=true then(some (.done (Sum.inl (U,Y.1,0)))) else((Ax (K+1)).bind λac=> some (.more ac))) else(some (.done (Sum.inr ())))
def f27(fu_:Nat)(p0:A5):Option (Ay×(List Int)×Int):= (f70 fu_ p0 ([])).bind λK=> if K.2≠0 then(some ([],[],K.2)) else((f71 fu_ K.1 0).bind λO=> (f76 fu_ O).bind λU=> Option.bind (iter (Ts fu_ K U) fu_ 0) λY=> Sum.elim (λr=>some r) (λZ=> some ([],[],11)) Y)
theorem Zp{E:LH}{a1:An}{c2:Nat}{al:An}{am:Nat}{p0:A5}(aX:Am (rL rI) E a1 c2 p0.1)(aY:Am Au E al am p0.2){fu_:Nat}{r:Ay×(List Int)×Int}(aD:f27 fu_ p0=some r):AR (GC Tryz.prog) 27 [.agg #[sV a1 p0.1 c2,sV al p0.2 am]] E [] (λw E' B'=>∃(aE:An) (aF:Nat) (aG:An) (aH:Nat),w= .tuple #[sV aE r.1 aF,sV aG r.2.1 aH,iV r.2.2]/\B'= []/\Am Au E' aE aF r.1/\Am rI E' aG aH r.2.1):=by
 refine Bi func27 λQ bW cs H aZ aw=>?_;unfold f27 at aD;refine zg 2 rfl (Dp aZ λa0 bY Y a2 a3=>?_);refine zg 6 rfl (Cd a2 Ci BC rfl rfl ?_);obtain⟨K,a4,a5⟩:=bs aD;refine BX (K9 (aX.Ag Y) (aY.Ag Y) Am.nil a4) rfl rfl KB a3 ?_;rintro _ bZ _ ay ⟨an,ao,ap,aq,rfl,rfl,aI,aJ⟩ a6;refine zg 3 rfl (BU a6 HS λaK a7=>?_);refine Br 3 a7 DU λa8=>?_;refine DG 3 a8 rfl λb0 O aL aM=>zg 8 rfl (A2 a5 (λa9 ba=>?_) (λa9 bb=>?_))
 ·refine zg 7 rfl ?_;obtain rfl:=oi ba;exact A3 func27 rfl rfl (aw ((Y.Ad ay).Ad O) rfl ⟨none,0,none,0,rfl,rfl,Am.nil,Am.nil⟩ aM)
 ·refine zg 3 rfl (Cd aL FY DU rfl rfl ?_);obtain⟨b1,be,bf⟩:=bs bb;refine BX (PO (aI.Ag O) (aJ.Ag O) be) rfl rfl Ob aM ?_;rintro _ b2 b3 Z ⟨ar,au,_,rfl,rfl,bg⟩ bh;obtain⟨ac,bi,bj⟩:=bs bf;refine zg 5 rfl (Ce 4 (Yp bg bi) rfl rfl (Ba func76 rfl) bh rfl ?_);rintro _ bl bm ag ⟨rfl,bn,az⟩ bo;refine Fi (L':= [(23,.tuple #[]),(0,.agg #[.slice a1 p0.1.length c2,.slice al p0.2.length am]),(1,Ak a0 0),(2,.slice none 0 0),(3,.slice none 0 0),(4,iV 0),(13,.agg #[.slice a1 p0.1.length c2,.slice al p0.2.length am]),(14,.tuple #[.agg #[.slice an K.1.1.length ao,.slice ap K.1.2.length aq],iV K.2]),(12,.tuple #[.agg #[.slice an K.1.1.length ao,.slice ap K.1.2.length aq],iV K.2]),(15,.agg #[.slice an K.1.1.length ao,.slice ap K.1.2.length aq]),(16,iV K.2),(5,Ak aK 0),(6,iV K.2),(17,iV K.2),(18,.bool (decide (K.2≠0))),(20,.agg #[.slice an K.1.1.length ao,.slice ap K.1.2.length aq]),(21,.slice ar ac.length au),(7,.slice ar ac.length au),(22,.slice ar ac.length au)]) ⟨rfl,rfl,rfl,rfl,rfl,rfl,rfl,rfl,rfl,rfl,rfl,rfl,rfl,rfl,rfl,rfl,by rw [az];rfl,by rw [az];rfl,by rw [az];rfl,trivial⟩ ?_;refine zg 5 rfl (JL.ln underlying83 rfl rfl rfl ?_);obtain⟨aN,bp,aO⟩:=bs bj;refine zg 2 rfl (Bw (λL s=>∃(aP:Unit) (aQ:LH),aN=Sum.inr aP/\Jm bl H aQ [] [] L s) ?_ ?_)
  ·rintro _ _ ⟨aP,aQ,rfl,rfl,rfl,bq,br⟩;have bu:=elim_inr aO;refine zg 6 rfl ?_;obtain rfl:=oi bu;exact A3 func27 rfl rfl (aw (((((Y.Ad ay).Ad O).Ad Z).Ad ag).Ad bq) rfl ⟨none,0,none,0,rfl,rfl,Am.nil,Am.nil⟩ br)
  ·intro bv;refine JL.block (Ek bp (λaA=> [bm]) (λaA=> [(5,Ak aK 0),(24,sV ar ac au),(25,iV (ac.length:Int)),(26,iV aA)]) Az bo ?_);rintro aA bw U aB aR ⟨b4,av⟩ bx;have aS:=av;unfold Ts at aS;refine zg 5 rfl (A2 aS (λbz bA=>?_) (λbz bB=>?_))
   ·obtain⟨bC,bD,bE⟩:=bs bA;refine zg 5 rfl (OV 0 (bn.Ag U) bD rfl rfl rfl rfl rfl rfl underlying83 Bc ?_);rintro b5 b6 f93 _ bF ⟨aT,aU,rfl,aV⟩ bG b7 b8 b9 ca;refine Al (v:= sV aT bC aU) rfl (λρ h=>Yl.load BE (h _ _ rfl) (BS (j:=0) aB bF (bG 0 _ rfl))) (zg 4 rfl ?_);refine Cd (aL.Ag ((Z.Ad ag).Ad U)) FY DU rfl rfl ?_;obtain⟨cb,bH,bI⟩:=bs bE;refine zg 1 rfl (BX (ZP (aI.Ag (((O.Ad Z).Ad ag).Ad U)) (aJ.Ag (((O.Ad Z).Ad ag).Ad U)) aV bH) rfl rfl (Ba func77 rfl) aB ?_);rintro _ cc _ aC ⟨bJ,bK,rfl,rfl,bL⟩ aW;refine zg 10 rfl (CV bI (λbM bN=>?_) (λbM bO=>?_))
    ·refine zg 8 rfl (JS.drop 0 aW rfl λbP=>?_);obtain rfl:=oi bN;obtain rfl:=aR _ av;have bQ:=elim_inl aO;obtain rfl:=oi bQ;exact A3 func27 rfl rfl (aw ((((((Y.Ad ay).Ad O).Ad Z).Ad ag).Ad U).Ad aC) rfl ⟨aT,aU,bJ,bK,rfl,rfl,(aV.Ag aC),bL⟩ bP)
    ·obtain⟨bR,bS,bT⟩:=bs bO;refine zg 3 rfl (Bt bS rfl rfl rfl ?_);refine zg 2 rfl ?_;obtain rfl:=oi bT;exact bx bR (U.Ad aC) aW rfl av
   ·refine JL.exit rfl (JS.drop 0 aB rfl λbU=>?_);obtain rfl:=oi bB;have bV:aN=(Sum.inr ()):=(aR _ av).symm;exact AE (bv _ _ ⟨(),bw,bV,rfl,rfl,U,bU⟩) rfl
end Pal
namespace Pal
open Go Go.Conc Go.Proofs
open Go.Proofs.Tryz
variable {J:Judge Tryz.prog}{E:LH}
def SS(fu_:Nat)(p0:List Int)(K:Ay×Int):Option (Bp (Ay×Int) (Ay)):= (Ax (K.2+2)).bind λO=> if O<(p0.length:Int) then((ix p0 K.2).bind λU=> (Ax (K.2+1)).bind λY=> (ix p0 Y).bind λZ=> (Ax (K.2+2)).bind λac=> (ix p0 ac).bind λag=> (Dr K.1 ([(U,Z,ag)]:Ay)).bind λal=> (Ax (K.2+3)).bind λam=> some (.more (al,am))) else(some (.done K.1))
def f67(fu_:Nat)(p0:List Int):Option (Ay):= Option.bind (iter (SS fu_ p0) fu_ ([],0)) λK=> some K
theorem NB{a1:An}{c2:Nat}{p0:List Int}(ao:Am rI E a1 c2 p0){fu_:Nat}{r:Ay}(aw:f67 fu_ p0=some r):AR J 67 [sV a1 p0 c2] E [] (λw E' B'=>∃(ay:An) (az:Nat) (g0:Seg),w= sV ay r az/\B'=g0/\OL 27 Au E' ay az g0 r):=by
 refine Bi func67 λQ bw cs H aG aH=>?_;unfold f67 at aw;obtain⟨aA,aI,aJ⟩:=bs aw;refine zg 13 rfl (Bw (λL s=>∃(ap:LH) (Y:An) (Z:Nat) (ac:Seg),Jn E H ap [ac] [(3,sV Y aA Z)] L s (OL 27 Au ap Y Z ac aA)) ?_ ?_)
 ·rintro _ _ ⟨ap,Y,Z,ac,rfl,rfl,aK,aL,aM⟩;refine zg 5 rfl ?_;obtain rfl:=oi aJ;exact A3 func67 rfl rfl (aH aK rfl ⟨Y,Z,ac,rfl,(by first | rfl | simp | (simp [Value.cells])),aM⟩ aL)
 ·intro aN;refine JL.block (CZ aI (λL s ag=>∃(al:LH) (am:An) (an:Nat) (O:Seg),Jn E H al [O] [(0,sV a1 p0 c2),(3,sV am ag.1 an),(4,iV ag.2)] L s (OL 27 Au al am an O ag.1)) ⟨E,none,0,[],rfl,rfl,Az,aG,OL.nil⟩ ?_);rintro _ _ ag ⟨al,am,an,O,rfl,rfl,U,aB,aC⟩ aO ⟨bx,aq⟩ aP;have aD:=aq;unfold SS at aD;obtain⟨bz,aQ,aR⟩:=bs aD;refine zg 4 rfl (Bt aQ rfl rfl rfl ?_);refine zg 1 rfl (JL.ln underlying28 rfl rfl rfl ?_);refine zg 2 rfl (A2 aR (λaS aT=>?_) (λaS aU=>?_))
  ·refine zg 3 rfl (Fb 17 λK=>?_);refine A7 K rfl [0,1,2] rfl ?_;obtain⟨ar,aV,aW⟩:=bs aT;refine FA 3 (ao.Ag U) aV K underlying28 AK ?_;rintro bA bB _ rfl aX;refine EM 4 K 0 aX Bh rfl rfl rfl rfl (A7 K rfl [5,6] rfl ?_);obtain⟨bC,aY,aZ⟩:=bs aW;refine AP 7 K rfl rfl (λρ h s' aE=>F2 (h _ _ rfl) (h _ _ rfl) aY) ?_;obtain⟨au,a0,a2⟩:=bs aZ;refine FA 8 (ao.Ag U) a0 K underlying28 AK ?_;rintro bD bE _ rfl a3;refine EM 9 K 0 a3 Bh rfl rfl rfl rfl (A7 K rfl [10,11] rfl ?_);obtain⟨bF,a4,a5⟩:=bs a2;refine AP 12 K rfl rfl (λρ h s' aE=>F2 (h _ _ rfl) (h _ _ rfl) a4) ?_;obtain⟨av,a6,a7⟩:=bs a5;refine FA 13 (ao.Ag U) a6 K underlying28 AK ?_;rintro bG bH _ rfl a8;refine EM 14 K 0 a8 Bh rfl rfl rfl rfl (AP (v:= .agg #[iV ar,iV au,iV av]) 15 K rfl rfl (λρ h s' aE=>CY [(0,1),(1,1),(2,1)] h Bn underlying27 ⟨rfl,AM type3,rfl,AM type3,rfl,AM type3,trivial⟩ rfl rfl) ?_);refine JG.one (i:=16) rfl (by decide+kernel) (Take.Dx (pp:=Au) [.agg #[iV ar,iV au,iV av]] ([(ar,au,av)]:Ay) aB rfl rfl rfl underlying23 A1 Bn (by decide) rfl rfl rfl ⟨⟨_,_,rfl,rfl,⟨_,_,rfl,rfl,rfl⟩⟩,trivial⟩ λbI a9 ba bb=>?_);refine CE [17,18] (Bf (S':= [O,a9]) rfl bb λbe=>?_);refine BO 1 ba be rfl λbf aF bg bh=>?_;obtain⟨bi,bj,bl⟩:=bs a7;refine F3 (pp:=Au) 0 bj rfl rfl rfl rfl rfl rfl rfl underlying23 underlying23 A1 (Ck type27) Bn rfl (by decide) (by decide) (aC.Ag aF) bg bh rfl λbm bn bo bp bq=>?_;obtain⟨br,bu,bv⟩:=bs bl;refine zg 5 rfl (Bt bu rfl rfl rfl ?_);refine zg 2 rfl ?_;obtain rfl:=oi bv;exact AE (aP _ _ (bi,br) ⟨bf,bm,bn,bo,rfl,rfl,(U.Ad aF),bq,bp⟩ aq) rfl
  ·refine JL.exit rfl ?_;obtain rfl:=oi aU;obtain rfl:=aO _ aq;exact AE (aN _ _ ⟨al,am,an,O,rfl,rfl,U,aB,aC⟩) rfl
def f110(fu_:Nat)(p0:List Int)(p1:List Int):Option (A5):= (f67 fu_ ([0,1,5,1,2,5,2,3,2,0,3,1,3,1,1]:List Int)).bind λK=> (f67 fu_ p1).bind λO=> (Dr K O).bind λU=> some (([p0,[],([3]:List Int),([1]:List Int)]:Bm),U)
theorem Pv{a1:An}{c2:Nat}{aq:An}{ar:Nat}{p0:List Int}{p1:List Int}(aD:Am rI E a1 c2 p0)(aE:Am rI E aq ar p1){fu_:Nat}{r:A5}(au:f110 fu_ p0 p1=some r):AR J 110 [sV a1 p0 c2,sV aq p1 ar] E [] (λw E' B'=>∃(av:An) (aw:Nat) (ay:An) (az:Nat),w= .agg #[sV av r.1 aw,sV ay r.2 az]/\B'= []/\Am (rL rI) E' av aw r.1/\Am Au E' ay az r.2):=by
 refine Bi func110 λQ bw cs H aF aG=>?_;unfold f110 at au;refine zg 2 rfl (BU aF HR λY aH=>?_);refine zg 4 rfl (FO (pp:=rI) [iV 3] [3] rfl rfl rfl underlying28 AK CR (by decide) rfl rfl rfl ⟨rfl,trivial⟩ aH λaI aJ aK aL=>?_);refine FO (pp:=rI) [iV 1] [1] rfl rfl rfl underlying28 AK CR (by decide) rfl rfl rfl ⟨rfl,trivial⟩ aL λaM aN aO aP=>Bf (S':= [[],[(Y,.cells #[nS,nS] 25 (0,0))],aJ,aN]) rfl aP λaQ=>BO 2 aK aQ rfl λbx ac aR aS=>BO 3 (aO.Ag ac) aS rfl λbz ag aT aU=>FO (pp:=(rL rI)) [sV a1 p0 c2,nS,.slice (AS aI) (([3]:List Int)).length 1,.slice (AS aM) (([1]:List Int)).length 1] [p0,[],([3]:List Int),([1]:List Int)] rfl rfl rfl underlying22 Gz Lp (by decide) rfl rfl rfl ⟨⟨_,_,rfl,(aD.Ag (ac.Ad ag))⟩,⟨_,_,rfl,Am.nil⟩,⟨_,_,rfl,(aR.Ag ag)⟩,⟨_,_,rfl,aT⟩,trivial⟩ aU λK al aV aW=>Bf (S':= [[],[(Y,.cells #[nS,nS] 25 (0,0))],[],[],al]) rfl aW λaX=>FO (pp:=rI) [iV 0,iV 1,iV 5,iV 1,iV 2,iV 5,iV 2,iV 3,iV 2,iV 0,iV 3,iV 1,iV 3,iV 1,iV 1] [0,1,5,1,2,5,2,3,2,0,3,1,3,1,1] rfl rfl rfl underlying28 AK CR (by decide) rfl rfl rfl ⟨rfl,rfl,rfl,rfl,rfl,rfl,rfl,rfl,rfl,rfl,rfl,rfl,rfl,rfl,rfl,trivial⟩ aX λbA bB aY aZ=>BO 5 aY aZ rfl λbC am a0 a2=>?_;obtain⟨bD,a3,a4⟩:=bs au;refine BX (NB a0 a3) rfl rfl Mr a2 ?_;rintro _ bE a5 an ⟨bF,bG,_,rfl,rfl,a6⟩ a7;refine Bf (S':= [[],[(Y,.cells #[nS,nS] 25 (0,0))],[],[],al,[],a5]) rfl a7 λa8=>?_;obtain⟨bH,a9,ba⟩:=bs a4;refine zg 1 rfl (BX (NB (aE.Ag (((ac.Ad ag).Ad am).Ad an)) a9) rfl rfl Mr a8 ?_);rintro _ bI bJ ao ⟨bK,bL,_,rfl,rfl,bb⟩ be;refine BO 7 bb be rfl λbM ap bf bg=>?_;obtain⟨Z,bh,bi⟩:=bs ba;refine F3 (pp:=Au) 6 bh rfl rfl rfl rfl rfl rfl rfl underlying23 underlying23 A1 (Ck type27) Bn rfl (by decide) (by decide) (a6.Ag (ao.Ad ap)) bf bg rfl λO U bj bl bm=>Bf (S':= [[],[(Y,.cells #[nS,nS] 25 (0,0))],[],[],al,[],bj,[]]) rfl bm λbn=>Al (v:= .agg #[.slice (AS K) (([p0,[],([3]:List Int),([1]:List Int)]:Bm)).length 4,sV O Z U]) rfl (λρ h=>CY [(0,1),(1,1)] h HR underlying25 ⟨rfl,AM type22,rfl,AM type23,trivial⟩ rfl rfl) (Br 1 bn BC λbo=>?_);refine JL.done (BO 4 (aV.Ag (((am.Ad an).Ad ao).Ad ap)) bo rfl λbN aA bp bq=>?_);refine BO 6 (bl.Ag aA) bq rfl λbO aB br bu=>Bf (S':= [[],[(Y,.cells #[.slice (AS K) (([p0,[],([3]:List Int),([1]:List Int)]:Bm)).length 4,sV O Z U] 25 (0,0))],[],[],[],[],[],[]]) rfl bu λaC=>?_;obtain rfl:=oi bi;refine JL.ret (v:= .agg #[.slice (AS K) (([p0,[],([3]:List Int),([1]:List Int)]:Bm)).length 4,sV O Z U]) rfl rfl (Bs.list func110 rfl (vs:= [.agg #[.slice (AS K) (([p0,[],([3]:List Int),([1]:List Int)]:Bm)).length 4,sV O Z U]]) ⟨⟨_,rfl,Ld.many (vs:= [.slice (AS K) (([p0,[],([3]:List Int),([1]:List Int)]:Bm)).length 4,sV O Z U]) Ci BC (Dh (off:=0) 1 aC rfl rfl)⟩,trivial⟩) (C5 1 aC rfl λbv=>?_);exact aG (((((((ac.Ad ag).Ad am).Ad an).Ad ao).Ad ap).Ad aA).Ad aB) rfl ⟨(AS K),4,O,U,rfl,rfl,(bp.Ag aB),br⟩ bv
def f63(fu_:Nat):Option (A5):= (f110 fu_ ([1,2,3]:List Int) ([])).bind λK=> some K
theorem NO{fu_:Nat}{r:A5}(ac:f63 fu_=some r):AR J 63 [] E [] (λw E' B'=>∃(ag:An) (al:Nat) (am:An) (an:Nat),w= .agg #[sV ag r.1 al,sV am r.2 an]/\B'= []/\Am (rL rI) E' ag al r.1/\Am Au E' am an r.2):=by
 refine Bi func63 λQ aH cs H ap aq=>?_;unfold f63 at ac;refine zg 2 rfl (BU ap HR λr1 ar=>?_);refine zg 3 rfl (FO (pp:=rI) [iV 1,iV 2,iV 3] [1,2,3] rfl rfl rfl underlying28 AK CR (by decide) rfl rfl rfl ⟨rfl,rfl,rfl,trivial⟩ ar λaI aJ au av=>?_);refine BO 2 au av rfl λaK aw ay az=>?_;obtain⟨K,aA,aB⟩:=bs ac;refine BX (Pv ay Am.nil aA) rfl rfl N6 az ?_;rintro _ aL _ aC ⟨O,U,Y,Z,rfl,rfl,aD,aE⟩ aF;refine Br 1 aF BC λao=>?_;refine JL.done ?_;obtain rfl:=oi aB;refine JL.ret (v:= .agg #[sV O K.1 U,sV Y K.2 Z]) rfl rfl (Bs.list func63 rfl (vs:= [.agg #[sV O K.1 U,sV Y K.2 Z]]) ⟨⟨_,rfl,Ld.many (vs:= [sV O K.1 U,sV Y K.2 Z]) Ci BC (Dh (off:=0) 1 ao rfl rfl)⟩,trivial⟩) (C5 1 ao rfl λaG=>?_);exact aq (aw.Ad aC) rfl ⟨O,U,Y,Z,rfl,rfl,aD,aE⟩ aG
def f64(fu_:Nat):Option (A5):= (f110 fu_ ([]) ([])).bind λK=> some K
theorem Zu{fu_:Nat}{r:A5}(ac:f64 fu_=some r):AR J 64 [] E [] (λw E' B'=>∃(ag:An) (al:Nat) (am:An) (an:Nat),w= .agg #[sV ag r.1 al,sV am r.2 an]/\B'= []/\Am (rL rI) E' ag al r.1/\Am Au E' am an r.2):=by
 refine Bi func64 λQ aC cs H ap aq=>?_;unfold f64 at ac;refine zg 2 rfl (BU ap HR λr1 ar=>?_);obtain⟨K,au,av⟩:=bs ac;refine zg 3 rfl (BX (Pv Am.nil Am.nil au) rfl rfl N6 ar ?_);rintro _ aD _ aw ⟨O,U,Y,Z,rfl,rfl,ay,az⟩ aA;refine Br 1 aA BC λao=>?_;refine JL.done ?_;obtain rfl:=oi av;refine JL.ret (v:= .agg #[sV O K.1 U,sV Y K.2 Z]) rfl rfl (Bs.list func64 rfl (vs:= [.agg #[sV O K.1 U,sV Y K.2 Z]]) ⟨⟨_,rfl,Ld.many (vs:= [sV O K.1 U,sV Y K.2 Z]) Ci BC (Dh (off:=0) 1 ao rfl rfl)⟩,trivial⟩) (C5 1 ao rfl λaB=>?_);exact aq aw rfl ⟨O,U,Y,Z,rfl,rfl,ay,az⟩ aB
def f65(fu_:Nat):Option (A5):= (f110 fu_ ([5,1]:List Int) ([])).bind λK=> some K
theorem ZY{fu_:Nat}{r:A5}(ac:f65 fu_=some r):AR J 65 [] E [] (λw E' B'=>∃(ag:An) (al:Nat) (am:An) (an:Nat),w= .agg #[sV ag r.1 al,sV am r.2 an]/\B'= []/\Am (rL rI) E' ag al r.1/\Am Au E' am an r.2):=by
 refine Bi func65 λQ aH cs H ap aq=>?_;unfold f65 at ac;refine zg 2 rfl (BU ap HR λr1 ar=>?_);refine zg 3 rfl (FO (pp:=rI) [iV 5,iV 1] [5,1] rfl rfl rfl underlying28 AK CR (by decide) rfl rfl rfl ⟨rfl,rfl,trivial⟩ ar λaI aJ au av=>?_);refine BO 2 au av rfl λaK aw ay az=>?_;obtain⟨K,aA,aB⟩:=bs ac;refine BX (Pv ay Am.nil aA) rfl rfl N6 az ?_;rintro _ aL _ aC ⟨O,U,Y,Z,rfl,rfl,aD,aE⟩ aF;refine Br 1 aF BC λao=>?_;refine JL.done ?_;obtain rfl:=oi aB;refine JL.ret (v:= .agg #[sV O K.1 U,sV Y K.2 Z]) rfl rfl (Bs.list func65 rfl (vs:= [.agg #[sV O K.1 U,sV Y K.2 Z]]) ⟨⟨_,rfl,Ld.many (vs:= [sV O K.1 U,sV Y K.2 Z]) Ci BC (Dh (off:=0) 1 ao rfl rfl)⟩,trivial⟩) (C5 1 ao rfl λaG=>?_);exact aq (aw.Ad aC) rfl ⟨O,U,Y,Z,rfl,rfl,aD,aE⟩ aG
def f66(fu_:Nat):Option (Ay):= (f67 fu_ ([0,1,1,0,2,3,0,3,2]:List Int)).bind λK=> some K
theorem ZS{fu_:Nat}{r:Ay}(K:f66 fu_=some r):AR J 66 [] E [] (λw E' B'=>∃(O:An) (U:Nat),w= sV O r U/\B'= []/\Am Au E' O U r):=by
 refine Bi func66 λQ aB cs H Y Z=>?_;unfold f66 at K;refine zg 6 rfl (FO (pp:=rI) [iV 0,iV 1,iV 1,iV 0,iV 2,iV 3,iV 0,iV 3,iV 2] [0,1,1,0,2,3,0,3,2] rfl rfl rfl underlying28 AK CR (by decide) rfl rfl rfl ⟨rfl,rfl,rfl,rfl,rfl,rfl,rfl,rfl,rfl,trivial⟩ Y λr1 g2 ac ag=>?_);refine BO 1 ac ag rfl λaC al am an=>?_;obtain⟨aD,ao,ap⟩:=bs K;refine BX (NB am ao) rfl rfl Mr an ?_;rintro _ aE aF aq ⟨ar,au,_,rfl,rfl,av⟩ aw;refine zg 2 rfl (BO 2 av aw rfl λaG ay az aA=>?_);obtain rfl:=oi ap;exact A3 func66 rfl rfl (Z ((al.Ad aq).Ad ay) rfl ⟨ar,au,rfl,rfl,az⟩ aA)
def Nj(fu_:Nat)(p0:List Int)(p1:List Int)(K:Int):Option (Bp Int ((Bool)⊕(Unit))):= Option.bind (if K<(p0.length:Int) then(some (decide (K<(p1.length:Int)))) else(some false)) λO=> if O=true then((ix p0 K).bind λU=> (ix p1 K).bind λY=> if U≠Y then(some (.done (Sum.inl false))) else((Ax (K+1)).bind λZ=> some (.more Z))) else(some (.done (Sum.inr ())))
def f29(fu_:Nat)(p0:List Int)(p1:List Int):Option Bool:= Option.bind (iter (Nj fu_ p0 p1) fu_ 0) λK=> Sum.elim (λr=>some r) (λO=> some (decide ((p0.length:Int)=(p1.length:Int)))) K
theorem LZ{a1:An}{c2:Nat}{O:An}{U:Nat}{p0:List Int}{p1:List Int}(aB:Am rI E a1 c2 p0)(aC:Am rI E O U p1){fu_:Nat}{r:Bool}(ao:f29 fu_ p0 p1=some r):AR J 29 [sV a1 p0 c2,sV O p1 U] E [] (λw E' B'=>w= .bool r/\B'= []):=by
 refine Bi func29 λQ a8 cs H aD ap=>?_;unfold f29 at ao;obtain⟨aq,aE,ar⟩:=bs ao;refine zg 9 rfl (Bw (λL s=>∃(au:Unit) (av:LH),aq=Sum.inr au/\Jm E H av [] [(0,sV a1 p0 c2),(1,sV O p1 U)] L s) ?_ ?_)
 ·rintro _ _ ⟨au,av,rfl,rfl,rfl,aF,aG⟩;have aH:=elim_inr ar;refine zg 3 rfl (JL.ln underlying28 rfl rfl rfl ?_);refine zg 1 rfl (JL.ln underlying28 rfl rfl rfl ?_);refine zg 3 rfl ?_;obtain rfl:=oi aH;exact A3 func29 rfl rfl (ap aF rfl ⟨rfl,rfl⟩ aG)
 ·intro aI;refine JL.block (Ek aE (λac=> []) (λac=> [(0,sV a1 p0 c2),(1,sV O p1 U),(5,iV ac)]) Az aD ?_);rintro ac al Y aw ay ⟨a9,ag⟩ aJ;have az:=ag;unfold Nj at az;refine zg 5 rfl (JL.ln underlying28 rfl rfl rfl ?_);obtain⟨aK,aL,aM⟩:=bs az;refine zg 2 rfl (Ix [] (λL s=>∃(am:LH),Jm al H am [] [(0,sV a1 p0 c2),(1,sV O p1 U),(5,iV ac),(15,.bool aK)] L s) ?_ ?_)
  ·rintro _ _ ⟨am,rfl,rfl,Z,an⟩;refine JL.done (CV aM (λaN aO=>?_) (λaN aP=>?_))
   ·refine zg 4 rfl (Fb 8 λK=>?_);refine A7 K rfl [0,1] rfl ?_;obtain⟨ba,aQ,aR⟩:=bs aO;refine FA 2 (aB.Ag (Y.Ad Z)) aQ K underlying28 AK ?_;rintro bb be _ rfl aS;refine EM 3 K 0 aS Bh rfl rfl rfl rfl (A7 K rfl [4,5] rfl ?_);obtain⟨bf,aT,aU⟩:=bs aR;refine FA 6 (aC.Ag (Y.Ad Z)) aT K underlying28 AK ?_;rintro bg bh _ rfl aV;refine EM 7 K 0 aV Bh rfl rfl rfl rfl (CE [8] ?_);refine zg 2 rfl (A2 aU (λaW aX=>?_) (λaW aY=>?_))
    ·refine zg 4 rfl ?_;obtain rfl:=oi aX;obtain rfl:=ay _ ag;have aZ:=elim_inl ar;obtain rfl:=oi aZ;exact A3 func29 rfl rfl (ap (Y.Ad Z) rfl ⟨rfl,rfl⟩ an)
    ·obtain⟨a0,a2,a3⟩:=bs aY;refine zg 4 rfl (Bt a2 rfl rfl rfl ?_);refine zg 2 rfl ?_;obtain rfl:=oi a3;exact aJ a0 (Y.Ad Z) an rfl ag
   ·refine JL.exit rfl ?_;obtain rfl:=oi aP;have a4:aq=(Sum.inr ()):=(ay _ ag).symm;exact AE (aI _ _ ⟨(),am,a4,rfl,rfl,(Y.Ad Z),an⟩) rfl
  ·intro aA;refine I9 10 aL (λa5 a6=>?_) (λa5 a7=>?_)
   ·refine zg 2 rfl (JL.ln underlying28 rfl rfl rfl ?_);refine zg 2 rfl ?_;obtain rfl:=oi a6;exact AE (aA _ _ ⟨al,rfl,rfl,Az,aw⟩) rfl
   ·refine zg 5 rfl ?_;obtain rfl:=oi a7;exact AE (aA _ _ ⟨al,rfl,rfl,Az,aw⟩) rfl
def Ni(fu_:Nat)(p0:Ay)(p1:Ay)(K:Int):Option (Bp Int ((Bool)⊕(Unit))):= Option.bind (if K<(p0.length:Int) then(some (decide (K<(p1.length:Int)))) else(some false)) λO=> if O=true then((ix p0 K).bind λU=> (ix p1 K).bind λY=> if U≠Y then(some (.done (Sum.inl false))) else((Ax (K+1)).bind λZ=> some (.more Z))) else(some (.done (Sum.inr ())))
def f26(fu_:Nat)(p0:Ay)(p1:Ay):Option Bool:= Option.bind (iter (Ni fu_ p0 p1) fu_ 0) λK=> Sum.elim (λr=>some r) (λO=> some (decide ((p0.length:Int)=(p1.length:Int)))) K
theorem PW{a1:An}{c2:Nat}{O:An}{U:Nat}{p0:Ay}{p1:Ay}(aD:Am Au E a1 c2 p0)(aE:Am Au E O U p1){fu_:Nat}{r:Bool}(aq:f26 fu_ p0 p1=some r):AR J 26 [sV a1 p0 c2,sV O p1 U] E [] (λw E' B'=>w= .bool r/\B'= []):=by
 refine Bi func26 λQ ba cs H aF ar=>?_;unfold f26 at aq;obtain⟨au,aG,av⟩:=bs aq;refine zg 9 rfl (Bw (λL s=>∃(aw:Unit) (ay:LH),au=Sum.inr aw/\Jm E H ay [] [(0,sV a1 p0 c2),(1,sV O p1 U)] L s) ?_ ?_)
 ·rintro _ _ ⟨aw,ay,rfl,rfl,rfl,aH,aI⟩;have aJ:=elim_inr av;refine zg 3 rfl (JL.ln underlying23 rfl rfl rfl ?_);refine zg 1 rfl (JL.ln underlying23 rfl rfl rfl ?_);refine zg 3 rfl ?_;obtain rfl:=oi aJ;exact A3 func26 rfl rfl (ar aH rfl ⟨rfl,rfl⟩ aI)
 ·intro aK;refine JL.block (Ek aG (λam=> []) (λam=> [(0,sV a1 p0 c2),(1,sV O p1 U),(5,iV am)]) Az aF ?_);rintro am ao Y az aA ⟨bb,an⟩ aL;have aB:=an;unfold Ni at aB;refine zg 5 rfl (JL.ln underlying23 rfl rfl rfl ?_);obtain⟨aM,aN,aO⟩:=bs aB;refine zg 2 rfl (Ix [] (λL s=>∃(Z:LH),Jm ao H Z [] [(0,sV a1 p0 c2),(1,sV O p1 U),(5,iV am),(15,.bool aM)] L s) ?_ ?_)
  ·rintro _ _ ⟨Z,rfl,rfl,ac,ap⟩;refine JL.done (CV aO (λaP aQ=>?_) (λaP aR=>?_))
   ·refine zg 4 rfl (Fb 8 λK=>?_);refine A7 K rfl [0,1] rfl ?_;obtain⟨ag,aS,aT⟩:=bs aQ;refine FA 2 (aD.Ag (Y.Ad ac)) aS K underlying23 A1 ?_;rintro be bf _ ⟨_,_,rfl,rfl,⟨_,_,rfl,rfl,rfl⟩⟩ aU;refine I5 3 K aU Ee A1 rfl rfl rfl (A7 K rfl [4,5] rfl ?_);obtain⟨al,aV,aW⟩:=bs aT;refine FA 6 (aE.Ag (Y.Ad ac)) aV K underlying23 A1 ?_;rintro bg bh _ ⟨_,_,rfl,rfl,⟨_,_,rfl,rfl,rfl⟩⟩ aX;refine I5 7 K aX Ee A1 rfl rfl rfl (CE [8] ?_);refine Al (v:= .bool (decide (ag≠al))) rfl (λρ h=>SG (E:=Z) (E':=Z) (ws:= [iV ag.1,iV ag.2.1,iV ag.2.2]) (ws':= [iV al.1,iV al.2.1,iV al.2.2]) (a:=ag) (b:=al) ZB (by decide) (by decide+kernel) ⟨_,_,rfl,rfl,⟨_,_,rfl,rfl,rfl⟩⟩ ⟨_,_,rfl,rfl,⟨_,_,rfl,rfl,rfl⟩⟩ (h _ _ rfl) (h _ _ rfl)) (JL.done ?_);refine A2 aW (λaY aZ=>?_) (λaY a0=>?_)
    ·refine zg 4 rfl ?_;obtain rfl:=oi aZ;obtain rfl:=aA _ an;have a2:=elim_inl av;obtain rfl:=oi a2;exact A3 func26 rfl rfl (ar (Y.Ad ac) rfl ⟨rfl,rfl⟩ ap)
    ·obtain⟨a3,a4,a5⟩:=bs a0;refine zg 4 rfl (Bt a4 rfl rfl rfl ?_);refine zg 2 rfl ?_;obtain rfl:=oi a5;exact aL a3 (Y.Ad ac) ap rfl an
   ·refine JL.exit rfl ?_;obtain rfl:=oi aR;have a6:au=(Sum.inr ()):=(aA _ an).symm;exact AE (aK _ _ ⟨(),Z,a6,rfl,rfl,(Y.Ad ac),ap⟩) rfl
  ·intro aC;refine I9 10 aN (λa7 a8=>?_) (λa7 a9=>?_)
   ·refine zg 2 rfl (JL.ln underlying23 rfl rfl rfl ?_);refine zg 2 rfl ?_;obtain rfl:=oi a8;exact AE (aC _ _ ⟨ao,rfl,rfl,Az,az⟩) rfl
   ·refine zg 5 rfl ?_;obtain rfl:=oi a9;exact AE (aC _ _ ⟨ao,rfl,rfl,Az,az⟩) rfl
def f18(fu_:Nat):Option Bool:= (f63 fu_).bind λag=> (f43 fu_ ag).bind λO=> (f63 fu_).bind λal=> (f33 fu_ al).bind λU=> (f63 fu_).bind λam=> (f22 fu_ am).bind λY=> (f63 fu_).bind λan=> (f24 fu_ an).bind λZ=> (f64 fu_).bind λao=> (f39 fu_ ao).bind λac=> (f65 fu_).bind λap=> (f27 fu_ ap).bind λK=> Option.bind (if O.2=0 then(some (decide (U.2=0))) else(some false)) λaq=> Option.bind (if aq=true then(some (decide (Y.2=0))) else(some false)) λar=> Option.bind (if ar=true then(some (decide (Z.2=0))) else(some false)) λau=> Option.bind (if au=true then(some (decide (ac.2=0))) else(some false)) λav=> Option.bind (if av=true then(some (decide (K.2.2=0))) else(some false)) λaw=> Option.bind (if aw=true then(some (decide (Z.1=16))) else(some false)) λay=> Option.bind (if ay=true then((f29 fu_ O.1 ([(-6),1,3,2]:List Int)).bind λaz=> some az) else(some false)) λaA=> Option.bind (if aA=true then((f29 fu_ U.1 ([1,2,3]:List Int)).bind λaB=> some aB) else(some false)) λaC=> Option.bind (if aC=true then((f66 fu_).bind λaD=> (f26 fu_ Y.1 aD).bind λaE=> some aE) else(some false)) λaF=> Option.bind (if aF=true then((f29 fu_ ac.1 ([0]:List Int)).bind λaG=> some aG) else(some false)) λaH=> Option.bind (if aH=true then((f67 fu_ ([0,2,6,2,3,3,3,1,1]:List Int)).bind λaI=> (f26 fu_ K.1 aI).bind λaJ=> some aJ) else(some false)) λaK=> Option.bind (if aK=true then((f29 fu_ K.2.1 ([0,1,2]:List Int)).bind λaL=> some aL) else(some false)) λaM=> some aM
theorem ZN{E:LH}{fu_:Nat}{r:Bool}(aR:f18 fu_=some r):AR (GC Tryz.prog) 18 [] E [] (λw E' B'=>w= .bool r/\B'= []):=by
 refine Bi func18 λQ e8 cs H bw bx=>?_;unfold f18 at aR;obtain⟨e9,bz,bA⟩:=bs aR;refine zg 6 rfl (BX (NO bz) rfl rfl Ms bw ?_);rintro _ fa _ bB ⟨fb,fc,fe,ff,rfl,rfl,bC,bD⟩ bE;obtain⟨aC,bF,bG⟩:=bs bA;refine BX (PF bC bD bF) rfl rfl Oa bE ?_;rintro _ fg _ bH ⟨aD,aE,rfl,rfl,bI⟩ bJ;obtain⟨fh,bK,bL⟩:=bs bG;refine zg 8 rfl (BX (NO bK) rfl rfl Ms bJ ?_);rintro _ fj _ aS ⟨fk,fl,fm,fo,rfl,rfl,bM,bN⟩ bO;refine Bf (S':= [[],[],[],[]]) rfl bO λbP=>?_;obtain⟨ap,bQ,bR⟩:=bs bL;refine BX (Zz bM bN bQ) rfl rfl (Ba func33 rfl) bP ?_;rintro _ fp _ aT ⟨aq,ar,rfl,rfl,bS⟩ bT;obtain⟨fq,bU,bV⟩:=bs bR;refine zg 8 rfl (BX (NO bU) rfl rfl Ms bT ?_);rintro _ fs _ aO ⟨fu,fv,fw,fx,rfl,rfl,bW,bY⟩ bZ;obtain⟨ag,b0,b1⟩:=bs bV;refine BX (P0 bW bY b0) rfl rfl Od bZ ?_;rintro _ fy _ aP ⟨an,ao,rfl,rfl,b2⟩ b3;refine Bf (S':= [[],[],[],[],[],[],[]]) rfl b3 λb4=>?_;obtain⟨fz,b5,b6⟩:=bs b1;refine zg 8 rfl (BX (NO b5) rfl rfl Ms b4 ?_);rintro _ fA _ aJ ⟨fB,fC,fD,fE,rfl,rfl,b7,b8⟩ b9;obtain⟨au,ca,cb⟩:=bs b6;refine CG (PM b7 b8 ca) rfl rfl Oh b9 λfF aK cc=>?_;obtain⟨fG,cd,ce⟩:=bs cb;refine zg 8 rfl (BX (Zu cd) rfl rfl (Ba func64 rfl) cc ?_);rintro _ fH _ aL ⟨fI,fJ,fK,fL,rfl,rfl,cf,cg⟩ ci;refine Bf (S':= [[],[],[],[],[],[],[],[],[],[]]) rfl ci λck=>?_;obtain⟨O,cm,cn⟩:=bs ce;refine BX (Zo cf cg cm) rfl rfl (Ba func39 rfl) ck ?_;rintro _ fM _ aM ⟨al,am,rfl,rfl,co⟩ cp;obtain⟨fN,cq,cr⟩:=bs cn;refine zg 8 rfl (BX (ZY cq) rfl rfl (Ba func65 rfl) cp ?_);rintro _ fO _ aG ⟨fP,fQ,fR,fS,rfl,rfl,ct,cu⟩ cv;obtain⟨K,cw,cy⟩:=bs cr;refine BX (Zp ct cu cw) rfl rfl (Ba func27 rfl) cv ?_;rintro _ fT _ aH ⟨Z,ac,U,Y,rfl,rfl,cz,cA⟩ cB;refine Bf (S':= [[],[],[],[],[],[],[],[],[],[],[],[],[]]) rfl cB λaU=>?_;obtain⟨cC,cD,cE⟩:=bs cy;refine zg 13 rfl (Es 6 52 [] [(1,sV aD aC.1 aE),(3,sV aq ap.1 ar),(5,sV an ag.1 ao),(6,iV ag.2),(7,iV au.1),(8,iV au.2),(9,sV al O.1 am),(10,iV O.2),(11,sV Z K.1 ac),(12,sV U K.2.1 Y),(13,iV K.2.2),(50,.bool cC)] (λfU av aV=>?_) (λaW=>?_))
 ·obtain⟨cF,cG,cH⟩:=bs cE;refine zg 1 rfl (Es 10 48 [] [(1,sV aD aC.1 aE),(3,sV aq ap.1 ar),(5,sV an ag.1 ao),(7,iV au.1),(8,iV au.2),(9,sV al O.1 am),(10,iV O.2),(11,sV Z K.1 ac),(12,sV U K.2.1 Y),(13,iV K.2.2),(54,.bool cF)] (λfW aw aX=>?_) (λaY=>?_))
  ·obtain⟨cI,cJ,cK⟩:=bs cH;refine zg 1 rfl (Es 14 44 [] [(1,sV aD aC.1 aE),(3,sV aq ap.1 ar),(5,sV an ag.1 ao),(7,iV au.1),(9,sV al O.1 am),(10,iV O.2),(11,sV Z K.1 ac),(12,sV U K.2.1 Y),(13,iV K.2.2),(58,.bool cI)] (λfX ay aZ=>?_) (λa0=>?_))
   ·obtain⟨cM,cN,cO⟩:=bs cK;refine zg 1 rfl (Es 18 40 [] [(1,sV aD aC.1 aE),(3,sV aq ap.1 ar),(5,sV an ag.1 ao),(7,iV au.1),(9,sV al O.1 am),(11,sV Z K.1 ac),(12,sV U K.2.1 Y),(13,iV K.2.2),(62,.bool cM)] (λfY az a1=>?_) (λa2=>?_))
    ·obtain⟨cP,cQ,cR⟩:=bs cO;refine zg 1 rfl (Es 22 36 [] [(1,sV aD aC.1 aE),(3,sV aq ap.1 ar),(5,sV an ag.1 ao),(7,iV au.1),(9,sV al O.1 am),(11,sV Z K.1 ac),(12,sV U K.2.1 Y),(66,.bool cP)] (λfZ aA a3=>?_) (λa4=>?_))
     ·obtain⟨cT,cV,cW⟩:=bs cR;refine zg 1 rfl (Es 26 32 [] [(1,sV aD aC.1 aE),(3,sV aq ap.1 ar),(5,sV an ag.1 ao),(9,sV al O.1 am),(11,sV Z K.1 ac),(12,sV U K.2.1 Y),(70,.bool cT)] (λga aB a5=>?_) (λa6=>?_))
      ·obtain⟨cX,cY,cZ⟩:=bs cW;refine zg 1 rfl (Es 31 27 [] [(3,sV aq ap.1 ar),(5,sV an ag.1 ao),(9,sV al O.1 am),(11,sV Z K.1 ac),(12,sV U K.2.1 Y),(75,.bool cX)] (λgb aF a7=>?_) (λa8=>?_))
       ·obtain⟨c0,c1,c2⟩:=bs cZ;refine zg 1 rfl (Es 36 22 [] [(5,sV an ag.1 ao),(9,sV al O.1 am),(11,sV Z K.1 ac),(12,sV U K.2.1 Y),(80,.bool c0)] (λgc aI a9=>?_) (λba=>?_))
        ·obtain⟨c3,c4,c5⟩:=bs c2;refine zg 1 rfl (Es 41 17 [] [(9,sV al O.1 am),(11,sV Z K.1 ac),(12,sV U K.2.1 Y),(85,.bool c3)] (λgd aN bb=>?_) (λbe=>?_))
         ·obtain⟨c6,c7,c8⟩:=bs c5;refine zg 1 rfl (Es 46 12 [] [(11,sV Z K.1 ac),(12,sV U K.2.1 Y),(90,.bool c6)] (λge aQ bf=>?_) (λbg=>?_))
          ·obtain⟨c9,da,db⟩:=bs c8;refine zg 1 rfl (Es 52 6 [] [(12,sV U K.2.1 Y),(96,.bool c9)] (λgf bh bi=>?_) (λbj=>?_))
           ·obtain⟨dc,dd,de⟩:=bs db;refine zg 1 rfl (Es 57 1 [] [(101,.bool dc)] (λgg df dg=>?_) (λbl=>?_))
            ·refine zg 2 rfl ?_;obtain rfl:=oi de;exact A3 func18 rfl rfl (bx (((((((((((((((((((((((bB.Ad bH).Ad aS).Ad aT).Ad aO).Ad aP).Ad aJ).Ad aK).Ad aL).Ad aM).Ad aG).Ad aH).Ad av).Ad aw).Ad ay).Ad az).Ad aA).Ad aB).Ad aF).Ad aI).Ad aN).Ad aQ).Ad bh).Ad df) rfl ⟨rfl,rfl⟩ dg)
            ·refine DX 97 dd (λdh di=>?_) (λdh dj=>?_)
             ·refine zg 1 rfl (FO (pp:=rI) [iV 0,iV 1,iV 2] [0,1,2] rfl rfl rfl underlying28 AK CR (by decide) rfl rfl rfl ⟨rfl,rfl,rfl,trivial⟩ bi λgh gi dk dn=>?_);refine BO 0 dk dn rfl λgj bm dp dq=>?_;obtain⟨gk,dr,dt⟩:=bs di;refine CG (LZ (cA.Ag (((((((((((av.Ad aw).Ad ay).Ad az).Ad aA).Ad aB).Ad aF).Ad aI).Ad aN).Ad aQ).Ad bh).Ad bm)) dp dr) rfl rfl Ln dq λgl du dv=>Bf (S':= [[],[]]) rfl dv λdw=>zg 1 rfl ?_;obtain rfl:=oi dt;exact bl (bm.Ad du) dw rfl
             ·refine zg 4 rfl ?_;obtain rfl:=oi dj;exact bl Az bi rfl
           ·refine DX 91 da (λdx dy=>?_) (λdx dz=>?_)
            ·refine zg 1 rfl (FO (pp:=rI) [iV 0,iV 2,iV 6,iV 2,iV 3,iV 3,iV 3,iV 1,iV 1] [0,2,6,2,3,3,3,1,1] rfl rfl rfl underlying28 AK CR (by decide) rfl rfl rfl ⟨rfl,rfl,rfl,rfl,rfl,rfl,rfl,rfl,rfl,trivial⟩ bf λgm gn dA dB=>?_);refine BO 0 dA dB rfl λgp bn dC dD=>?_;obtain⟨gq,dE,dF⟩:=bs dy;refine BX (NB dC dE) rfl rfl Mr dD ?_;rintro _ gr dG bo ⟨gt,gu,_,rfl,rfl,dH⟩ dI;refine Bf (S':= [[],dG]) rfl dI λdJ=>BO 1 dH dJ rfl λgv bp dK dL=>?_;obtain⟨gw,dM,dN⟩:=bs dF;refine CG (PW (cz.Ag ((((((((((((av.Ad aw).Ad ay).Ad az).Ad aA).Ad aB).Ad aF).Ad aI).Ad aN).Ad aQ).Ad bn).Ad bo).Ad bp)) dK dM) rfl rfl Of dL λgx dO dQ=>zg 1 rfl ?_;obtain rfl:=oi dN;exact bj (((bn.Ad bo).Ad bp).Ad dO) dQ rfl
            ·refine zg 5 rfl ?_;obtain rfl:=oi dz;exact bj Az bf rfl
          ·refine DX 86 c7 (λdR dS=>?_) (λdR dT=>?_)
           ·refine zg 1 rfl (FO (pp:=rI) [iV 0] [0] rfl rfl rfl underlying28 AK CR (by decide) rfl rfl rfl ⟨rfl,trivial⟩ bb λgy gz dU dV=>?_);refine BO 0 dU dV rfl λgA bq dW dX=>?_;obtain⟨gB,dY,dZ⟩:=bs dS;refine CG (LZ (co.Ag (((((((((((aG.Ad aH).Ad av).Ad aw).Ad ay).Ad az).Ad aA).Ad aB).Ad aF).Ad aI).Ad aN).Ad bq)) dW dY) rfl rfl Ln dX λgC ea eb=>Bf (S':= [[],[]]) rfl eb λec=>zg 1 rfl ?_;obtain rfl:=oi dZ;exact bg (bq.Ad ea) ec rfl
           ·refine zg 4 rfl ?_;obtain rfl:=oi dT;exact bg Az bb rfl
         ·refine DX 81 c4 (λed ee=>?_) (λed ef=>?_)
          ·obtain⟨gD,eg,eh⟩:=bs ee;refine zg 1 rfl (BX (ZS eg) rfl rfl (Ba func66 rfl) a9 ?_);rintro _ gE _ br ⟨gF,gG,rfl,rfl,ei⟩ ej;obtain⟨gH,ek,el⟩:=bs eh;refine CG (PW (b2.Ag ((((((((((((((aJ.Ad aK).Ad aL).Ad aM).Ad aG).Ad aH).Ad av).Ad aw).Ad ay).Ad az).Ad aA).Ad aB).Ad aF).Ad aI).Ad br)) ei ek) rfl rfl Of ej λgI em en=>zg 1 rfl ?_;obtain rfl:=oi el;exact be (br.Ad em) en rfl
          ·refine zg 4 rfl ?_;obtain rfl:=oi ef;exact be Az a9 rfl
        ·refine DX 76 c1 (λeo ep=>?_) (λeo er=>?_)
         ·refine zg 1 rfl (FO (pp:=rI) [iV 1,iV 2,iV 3] [1,2,3] rfl rfl rfl underlying28 AK CR (by decide) rfl rfl rfl ⟨rfl,rfl,rfl,trivial⟩ a7 λgJ gK et eu=>?_);refine BO 0 et eu rfl λgL bu ew ex=>?_;obtain⟨gM,ey,ez⟩:=bs ep;refine CG (LZ (bS.Ag (((((((((((((((aO.Ad aP).Ad aJ).Ad aK).Ad aL).Ad aM).Ad aG).Ad aH).Ad av).Ad aw).Ad ay).Ad az).Ad aA).Ad aB).Ad aF).Ad bu)) ew ey) rfl rfl Ln ex λgO eA eB=>Bf (S':= [[],[]]) rfl eB λeC=>zg 1 rfl ?_;obtain rfl:=oi ez;exact ba (bu.Ad eA) eC rfl
         ·refine zg 4 rfl ?_;obtain rfl:=oi er;exact ba Az a7 rfl
       ·refine DX 71 cY (λeD eE=>?_) (λeD eF=>?_)
        ·refine zg 1 rfl (FO (pp:=rI) [iV (-6),iV 1,iV 3,iV 2] [(-6),1,3,2] rfl rfl rfl underlying28 AK CR (by decide) rfl rfl rfl ⟨rfl,rfl,rfl,rfl,trivial⟩ a5 λgP gQ eG eH=>?_);refine BO 0 eG eH rfl λgR bv eI eJ=>?_;obtain⟨gS,eK,eL⟩:=bs eE;refine CG (LZ (bI.Ag ((((((((((((((((aS.Ad aT).Ad aO).Ad aP).Ad aJ).Ad aK).Ad aL).Ad aM).Ad aG).Ad aH).Ad av).Ad aw).Ad ay).Ad az).Ad aA).Ad aB).Ad bv)) eI eK) rfl rfl Ln eJ λgT eM eN=>Bf (S':= [[],[]]) rfl eN λeO=>zg 1 rfl ?_;obtain rfl:=oi eL;exact a8 (bv.Ad eM) eO rfl
        ·refine zg 4 rfl ?_;obtain rfl:=oi eF;exact a8 Az a5 rfl
      ·refine DX 67 cV (λeP eQ=>?_) (λeP eR=>?_)
       ·refine zg 3 rfl ?_;obtain rfl:=oi eQ;exact a6 Az a3 rfl
       ·refine zg 3 rfl ?_;obtain rfl:=oi eR;exact a6 Az a3 rfl
     ·refine DX 63 cQ (λeS eT=>?_) (λeS eU=>?_)
      ·refine zg 3 rfl ?_;obtain rfl:=oi eT;exact a4 Az a1 rfl
      ·refine zg 3 rfl ?_;obtain rfl:=oi eU;exact a4 Az a1 rfl
    ·refine DX 59 cN (λeV eW=>?_) (λeV eX=>?_)
     ·refine zg 3 rfl ?_;obtain rfl:=oi eW;exact a2 Az aZ rfl
     ·refine zg 3 rfl ?_;obtain rfl:=oi eX;exact a2 Az aZ rfl
   ·refine DX 55 cJ (λeY eZ=>?_) (λeY e0=>?_)
    ·refine zg 3 rfl ?_;obtain rfl:=oi eZ;exact a0 Az aX rfl
    ·refine zg 3 rfl ?_;obtain rfl:=oi e0;exact a0 Az aX rfl
  ·refine DX 51 cG (λe1 e3=>?_) (λe1 e4=>?_)
   ·refine zg 3 rfl ?_;obtain rfl:=oi e3;exact aY Az aV rfl
   ·refine zg 3 rfl ?_;obtain rfl:=oi e4;exact aY Az aV rfl
 ·refine I9 47 cD (λe5 e6=>?_) (λe5 e7=>?_)
  ·refine zg 3 rfl ?_;obtain rfl:=oi e6;exact aW Az aU rfl
  ·refine zg 3 rfl ?_;obtain rfl:=oi e7;exact aW Az aU rfl
end Pal
namespace Pal
open Go Go.Conc Go.Proofs
open Go.Proofs.Tryz
variable {J:Judge Tryz.prog}{E:LH}
def f20(fu_:Nat)(p0:List Int):Option ((CO)):= some (p0,0,2685821657736338717)
theorem ZA{a1:An}{c2:Nat}{p0:List Int}(Z:Am rI E a1 c2 p0){fu_:Nat}{r:(CO)}(K:f20 fu_ p0=some r):AR J 20 [sV a1 p0 c2] E [] (λw E' B'=>∃(O:Nat) (U:An) (Y:Nat),w= Ak O 0/\B'= [(O,.cells #[sV U r.1 Y,iV r.2.1,.int .u64 ((r.2.2:Nat):Int)] 74 (0,0))]/\Am rI E' U Y r.1):=by
 refine Bi func20 λQ an cs H ac ag=>?_;unfold f20 at K;refine zg 7 rfl (Al (v:= .agg #[sV a1 p0 c2,iV 0,.int .u64 ((2685821657736338717:Nat):Int)]) rfl (λρ h=>CY [(0,1),(1,1),(2,1)] h (Dl type74) underlying74 ⟨rfl,AM type28,rfl,AM type3,rfl,AM type72,trivial⟩ rfl rfl) ?_);refine JS.box (v:= .agg #[sV a1 p0 c2,iV 0,.int .u64 ((2685821657736338717:Nat):Int)]) rfl rfl rfl ac rfl λal am=>zg 2 rfl ?_;obtain rfl:=oi K;exact A3 func20 rfl rfl (ag Az rfl ⟨al,a1,c2,rfl,(by first | rfl | simp | (simp [Value.cells])),Z⟩ am)
def f92(fu_:Nat)(p0:Int)(p1:Int)(p2:Int):Option Bool:= Option.bind (if p1<=p0 then(some (decide (p0<=p2))) else(some false)) λK=> some K
def f88(fu_:Nat)(p0:Int)(p1:Int×Int×Int)(p2:Int):Option Int:= (Ax (p0 - 1)).bind λK=> (f92 fu_ p1.1 0 K).bind λO=> Option.bind (if(!O)=true then(some true) else((Ax (p0 - 1)).bind λU=> (f92 fu_ p1.2.1 0 U).bind λY=> some (!Y))) λZ=> if Z=true then(some 3) else(if p1.1=p1.2.1 then(some 8) else((f92 fu_ p1.2.2 1 p2).bind λac=> if(!ac)=true then(some 1) else(some 0)))
def LW(fu_:Nat)(p0:A5)(O:Int)(K:Int):Option (Bp Int ((Int)⊕(Unit))):= (ix p0.1 O).bind λU=> if K<(U.length:Int) then((ix p0.1 O).bind λY=> (ix Y K).bind λZ=> (f92 fu_ Z 1 9).bind λac=> if(!ac)=true then(some (.done (Sum.inl 1))) else((Ax (K+1)).bind λag=> some (.more ag))) else(some (.done (Sum.inr ())))
def LM(fu_:Nat)(p0:A5)(K:Int):Option (Bp Int ((Int)⊕(Unit))):= if K<(p0.1.length:Int) then((ix p0.1 K).bind λO=> if 3<(O.length:Int) then(some (.done (Sum.inl 6))) else(Option.bind (iter (LW fu_ p0 K) fu_ 0) λU=> Sum.elim (λr=>some (.done (Sum.inl r))) (λZ=> (Ax (K+1)).bind λY=> some (.more Y)) U)) else(some (.done (Sum.inr ())))
def Pk(fu_:Nat)(p0:A5)(K:Int):Option (Bp Int ((Int)⊕(Unit))):= if K<(p0.2.length:Int) then((ix p0.2 K).bind λU=> (f88 fu_ (p0.1.length:Int) U 9).bind λO=> if O≠0 then(some (.done (Sum.inl O))) else((Ax (K+1)).bind λY=> some (.more Y))) else(some (.done (Sum.inr ())))
def f48(fu_:Nat)(p0:A5):Option Int:= if(p0.1.length:Int)<2 then(some 7) else(if 5<(p0.1.length:Int) then(some 6) else(Option.bind (iter (LM fu_ p0) fu_ 0) λK=> Sum.elim (λr=>some r) (λU=> if 8<(p0.2.length:Int) then(some 6) else(Option.bind (iter (Pk fu_ p0) fu_ 0) λO=> Sum.elim (λr=>some r) (λY=> some 0) O)) K))
end Pal
namespace Pal
open Go Go.Conc Go.Proofs
open Go.Proofs.Tryz
variable {J:Judge Tryz.prog}{E:LH}
def f83(fu_:Nat)(p0:CO):Option (Nat×(CO)):= (Ax (p0.2.1+1)).bind λO=> Option.bind (if O<=(p0.1.length:Int) then((Ax (O - 1)).bind λU=> (ix p0.1 U).bind λY=> some (((((CP O)*11400714819323198485) % 2 ^ 64) ^^^ (((CP Y)*14029467366897019727) % 2 ^ 64)) % 2 ^ 64)) else(some (((CP O)*11400714819323198485) % 2 ^ 64))) λK=> some (((((((((((p0.2.2 ^^^ K) % 2 ^ 64)*18397679294719823053) % 2 ^ 64) ^^^ (((((p0.2.2 ^^^ K) % 2 ^ 64)*18397679294719823053) % 2 ^ 64)>>>33)) % 2 ^ 64)*14181476777654086739) % 2 ^ 64) ^^^ (((((((((p0.2.2 ^^^ K) % 2 ^ 64)*18397679294719823053) % 2 ^ 64) ^^^ (((((p0.2.2 ^^^ K) % 2 ^ 64)*18397679294719823053) % 2 ^ 64)>>>33)) % 2 ^ 64)*14181476777654086739) % 2 ^ 64)>>>29)) % 2 ^ 64)>>>11,(p0.1,O,(((((p0.2.2 ^^^ K) % 2 ^ 64)*18397679294719823053) % 2 ^ 64) ^^^ (((((p0.2.2 ^^^ K) % 2 ^ 64)*18397679294719823053) % 2 ^ 64)>>>33)) % 2 ^ 64))
theorem Zw{bk:Nat}{a1:An}{c2:Nat}{p0:CO}(al:Am rI E a1 c2 p0.1){fu_:Nat}{r:Nat×(CO)}(am:f83 fu_ p0=some r):AR J 83 [Ak bk 0] E [(bk,.cells #[sV a1 p0.1 c2,iV p0.2.1,.int .u64 ((p0.2.2:Nat):Int)] 74 (0,0))] (λw E' B'=>∃(an:An) (ao:Nat),w= .int .u64 ((r.1:Nat):Int)/\B'= [(bk,.cells #[sV an r.2.1 ao,iV r.2.2.1,.int .u64 ((r.2.2.2:Nat):Int)] 74 (0,0))]/\Am rI E' an ao r.2.1):=by
 refine Bi func83 λQ aK cs H ap aw=>?_;unfold f83 at am;refine zg 8 rfl (JL.fd underlying74 AK rfl rfl rfl ?_);refine Al (v:=iV p0.2.1) rfl (λρ h=>Yl.load Bh (h _ _ rfl) (BS (j:=0) (off:=1) ap rfl rfl)) ?_;obtain⟨Y,ay,az⟩:=bs am;refine Bt ay rfl rfl rfl (zg 1 rfl ?_);refine JL.fd underlying74 AK rfl rfl rfl (Br 0 ap AK λU=>?_);refine zg 5 rfl (JL.fd underlying74 AK rfl rfl rfl ?_);refine Al (v:=iV Y) rfl (λρ h=>Yl.load Bh (h _ _ rfl) (BS (j:=0) (off:=1) U rfl rfl)) (Al (v:= .int .u64 ((CP Y:Nat):Int)) rfl (λρ h=>Yl.CP underlying3 underlying72 (h _ _ rfl)) ?_);refine Al (v:= .int .u64 ((((CP Y)*11400714819323198485) % 2 ^ 64:Nat):Int)) rfl (λρ h=>M6 (h _ _ rfl) (h _ _ rfl)) (zg 4 rfl ?_);refine Fl 9 [bk] ⟨⟨0,_,rfl⟩,trivial⟩ U λK=>A7 K rfl [0,1] rfl (JG.fd 2 K underlying74 AK rfl rfl rfl rfl ?_);refine Kj 3 K 1 0 U Bh ?_;refine A7 K rfl [4,5] rfl (JG.fd 6 K underlying74 Gz rfl rfl rfl rfl ?_);refine Kj 7 K 0 0 U JY ?_;refine AP 8 K rfl rfl (λρ h s' Z=>Yl.len rfl underlying28 (h _ _ rfl)) (CE [9] ?_);obtain⟨O,aA,aB⟩:=bs az;refine zg 2 rfl (ES [bX bk #[sV a1 p0.1 c2,iV Y,.int .u64 ((p0.2.2:Nat):Int)] 74] [(0,Ak bk 0),(3,.int .u64 ((O:Nat):Int))] (λaL aq ar=>?_) (λau=>?_))
 ·refine zg 5 rfl (JL.fd underlying74 Ji rfl rfl rfl ?_);refine Al (v:= .int .u64 ((p0.2.2:Nat):Int)) rfl (λρ h=>Yl.load Mn (h _ _ rfl) (BS (j:=0) (off:=2) ar rfl rfl)) (zg 1 rfl ?_);refine Al (v:= .int .u64 (((p0.2.2 ^^^ O) % 2 ^ 64:Nat):Int)) rfl (λρ h=>MS (h _ _ rfl) (h _ _ rfl)) (Al (v:= .int .u64 (((((p0.2.2 ^^^ O) % 2 ^ 64)*18397679294719823053) % 2 ^ 64:Nat):Int)) rfl (λρ h=>M6 (h _ _ rfl) (h _ _ rfl)) ?_);refine zg 1 rfl (JL.fd underlying74 Ji rfl rfl rfl ?_);refine Br 0 ar Ji λac=>?_;refine zg 2 rfl (Fl 11 [bk] ⟨⟨0,_,rfl⟩,trivial⟩ ac λK=>?_);refine A7 K rfl [0,1,2] rfl (JG.fd 3 K underlying74 Ji rfl rfl rfl rfl ?_);refine Kj 4 K 2 0 ac Mn ?_;refine A7 K rfl [5,6] rfl (JG.fd 7 K underlying74 Ji rfl rfl rfl rfl ?_);refine Kj 8 K 2 0 ac Mn ?_;refine AP (v:= .int .u64 ((((((p0.2.2 ^^^ O) % 2 ^ 64)*18397679294719823053) % 2 ^ 64)>>>33:Nat):Int)) 9 K rfl rfl (λρ h s' Z=>KV 33 (h _ _ rfl) (h _ _ rfl) (by decide)) (AP (v:= .int .u64 (((((((p0.2.2 ^^^ O) % 2 ^ 64)*18397679294719823053) % 2 ^ 64) ^^^ (((((p0.2.2 ^^^ O) % 2 ^ 64)*18397679294719823053) % 2 ^ 64)>>>33)) % 2 ^ 64:Nat):Int)) 10 K rfl rfl (λρ h s' Z=>MS (h _ _ rfl) (h _ _ rfl)) ?_);refine CE [11,12,13] (zg 1 rfl ?_);refine JL.fd underlying74 Ji rfl rfl rfl (Br 0 ac Ji λav=>?_);refine zg 5 rfl (JL.fd underlying74 Ji rfl rfl rfl ?_);refine Al (v:= .int .u64 (((((((p0.2.2 ^^^ O) % 2 ^ 64)*18397679294719823053) % 2 ^ 64) ^^^ (((((p0.2.2 ^^^ O) % 2 ^ 64)*18397679294719823053) % 2 ^ 64)>>>33)) % 2 ^ 64:Nat):Int)) rfl (λρ h=>Yl.load Mn (h _ _ rfl) (BS (j:=0) (off:=2) av rfl rfl)) (Al (v:= .int .u64 (((((((((p0.2.2 ^^^ O) % 2 ^ 64)*18397679294719823053) % 2 ^ 64) ^^^ (((((p0.2.2 ^^^ O) % 2 ^ 64)*18397679294719823053) % 2 ^ 64)>>>33)) % 2 ^ 64)*14181476777654086739) % 2 ^ 64:Nat):Int)) rfl (λρ h=>M6 (h _ _ rfl) (h _ _ rfl)) ?_);refine zg 6 rfl (Al (v:= .int .u64 ((((((((((p0.2.2 ^^^ O) % 2 ^ 64)*18397679294719823053) % 2 ^ 64) ^^^ (((((p0.2.2 ^^^ O) % 2 ^ 64)*18397679294719823053) % 2 ^ 64)>>>33)) % 2 ^ 64)*14181476777654086739) % 2 ^ 64)>>>29:Nat):Int)) rfl (λρ h=>KV 29 (h _ _ rfl) (h _ _ rfl) (by decide)) ?_);refine Al (v:= .int .u64 (((((((((((p0.2.2 ^^^ O) % 2 ^ 64)*18397679294719823053) % 2 ^ 64) ^^^ (((((p0.2.2 ^^^ O) % 2 ^ 64)*18397679294719823053) % 2 ^ 64)>>>33)) % 2 ^ 64)*14181476777654086739) % 2 ^ 64) ^^^ (((((((((p0.2.2 ^^^ O) % 2 ^ 64)*18397679294719823053) % 2 ^ 64) ^^^ (((((p0.2.2 ^^^ O) % 2 ^ 64)*18397679294719823053) % 2 ^ 64)>>>33)) % 2 ^ 64)*14181476777654086739) % 2 ^ 64)>>>29)) % 2 ^ 64:Nat):Int)) rfl (λρ h=>MS (h _ _ rfl) (h _ _ rfl)) (Al (v:= .int .u64 ((((((((((((p0.2.2 ^^^ O) % 2 ^ 64)*18397679294719823053) % 2 ^ 64) ^^^ (((((p0.2.2 ^^^ O) % 2 ^ 64)*18397679294719823053) % 2 ^ 64)>>>33)) % 2 ^ 64)*14181476777654086739) % 2 ^ 64) ^^^ (((((((((p0.2.2 ^^^ O) % 2 ^ 64)*18397679294719823053) % 2 ^ 64) ^^^ (((((p0.2.2 ^^^ O) % 2 ^ 64)*18397679294719823053) % 2 ^ 64)>>>33)) % 2 ^ 64)*14181476777654086739) % 2 ^ 64)>>>29)) % 2 ^ 64)>>>11:Nat):Int)) rfl (λρ h=>KV 11 (h _ _ rfl) (h _ _ rfl) (by decide)) ?_);refine zg 2 rfl ?_;obtain rfl:=oi aB;exact A3 func83 rfl rfl (aw aq rfl ⟨a1,c2,rfl,rfl,(al.Ag aq)⟩ av)
 ·refine A2 aA (λaC aD=>?_) (λaC aE=>?_)
  ·refine Fl 14 [bk] ⟨⟨0,_,rfl⟩,trivial⟩ U λK=>A7 K rfl [0,1,2] rfl (JG.fd 3 K underlying74 Gz rfl rfl rfl rfl ?_);refine Kj 4 K 0 0 U JY ?_;refine A7 K rfl [5,6] rfl (JG.fd 7 K underlying74 AK rfl rfl rfl rfl ?_);refine Kj 8 K 1 0 U Bh ?_;obtain⟨aM,aF,aG⟩:=bs aD;refine AP 9 K rfl rfl (λρ h s' Z=>Eh (h _ _ rfl) (h _ _ rfl) aF) ?_;obtain⟨ag,aH,aI⟩:=bs aG;refine FA 10 al aH K underlying28 AK ?_;rintro aN aO _ rfl aJ;refine JG.lp 11 K 0 aJ U ⟨⟨0,_,rfl⟩,trivial⟩ Bh ?_;refine AP (v:= .int .u64 ((CP ag:Nat):Int)) 12 K rfl rfl (λρ h s' Z=>Yl.CP underlying3 underlying72 (h _ _ rfl)) (AP (v:= .int .u64 ((((CP ag)*14029467366897019727) % 2 ^ 64:Nat):Int)) 13 K rfl rfl (λρ h s' Z=>M6 (h _ _ rfl) (h _ _ rfl)) ?_);refine CE [14,15] (Al (v:= .int .u64 ((((((CP Y)*11400714819323198485) % 2 ^ 64) ^^^ (((CP ag)*14029467366897019727) % 2 ^ 64)) % 2 ^ 64:Nat):Int)) rfl (λρ h=>MS (h _ _ rfl) (h _ _ rfl)) ?_);refine zg 2 rfl ?_;obtain rfl:=oi aI;exact au Az U rfl
  ·refine JL.skip ?_;obtain rfl:=oi aE;exact au Az U rfl
def f36(fu_:Nat)(p0:CO)(p1:Int):Option (Int×(CO)):= (f83 fu_ p0).bind λK=> if p1<1 then(some (0,K.2)) else((NL K.1 ((CP p1+1) % 2 ^ 64)).bind λO=> some (Me O,K.2))
theorem Kf{bk:Nat}{a1:An}{c2:Nat}{p0:CO}{p1:Int}(ao:Am rI E a1 c2 p0.1){fu_:Nat}{r:Int×(CO)}(K:f36 fu_ p0 p1=some r):AR J 36 [Ak bk 0,iV p1] E [(bk,.cells #[sV a1 p0.1 c2,iV p0.2.1,.int .u64 ((p0.2.2:Nat):Int)] 74 (0,0))] (λw E' B'=>∃(O:An) (U:Nat),w=iV r.1/\B'= [(bk,.cells #[sV O r.2.1 U,iV r.2.2.1,.int .u64 ((r.2.2.2:Nat):Int)] 74 (0,0))]/\Am rI E' O U r.2.1):=by
 refine Bi func36 λQ aA cs H ap Y=>?_;unfold f36 at K;obtain⟨aB,aq,ar⟩:=bs K;refine zg 7 rfl (Ce 0 (Zw ao aq) rfl rfl (Ba func83 rfl) ap rfl ?_);rintro _ aC _ Z ⟨ac,ag,rfl,rfl,al⟩ am;refine zg 8 rfl (A2 ar (λau av=>?_) (λau aw=>?_))
 ·refine zg 4 rfl ?_;obtain rfl:=oi av;exact A3 func36 rfl rfl (Y Z rfl ⟨ac,ag,rfl,rfl,al⟩ am)
 ·refine zg 5 rfl (Al (v:= .int .u64 ((CP p1:Nat):Int)) rfl (λρ h=>Yl.CP underlying3 underlying72 (h _ _ rfl)) ?_);refine Al (v:= .int .u64 (((CP p1+1) % 2 ^ 64:Nat):Int)) rfl (λρ h=>W3 (h _ _ rfl) (h _ _ rfl)) ?_;obtain⟨an,ay,az⟩:=bs aw;refine Al (v:= .int .u64 ((an:Nat):Int)) rfl (λρ h=>VW (h _ _ rfl) (h _ _ rfl) ay) (Al (v:=iV (Me an)) rfl (λρ h=>XV underlying72 underlying3 (h _ _ rfl)) ?_);refine zg 2 rfl ?_;obtain rfl:=oi az;exact A3 func36 rfl rfl (Y Z rfl ⟨ac,ag,rfl,rfl,al⟩ am)
def f37(fu_:Nat)(p0:CO)(p1:Int)(p2:Int):Option (Int×(CO)):= (Ax (p2 - p1)).bind λO=> (f36 fu_ p0 O).bind λK=> (Ax (p1+K.1)).bind λU=> some (U,K.2)
theorem K7{bk:Nat}{a1:An}{c2:Nat}{p0:CO}{p1:Int}{p2:Int}(Y:Am rI E a1 c2 p0.1){fu_:Nat}{r:Int×(CO)}(K:f37 fu_ p0 p1 p2=some r):AR J 37 [Ak bk 0,iV p1,iV p2] E [(bk,.cells #[sV a1 p0.1 c2,iV p0.2.1,.int .u64 ((p0.2.2:Nat):Int)] 74 (0,0))] (λw E' B'=>∃(O:An) (U:Nat),w=iV r.1/\B'= [(bk,.cells #[sV O r.2.1 U,iV r.2.2.1,.int .u64 ((r.2.2.2:Nat):Int)] 74 (0,0))]/\Am rI E' O U r.2.1):=by
 refine Bi func37 λQ ay cs H Z ac=>?_;unfold f37 at K;obtain⟨az,ag,al⟩:=bs K;refine zg 10 rfl (Ca ag rfl rfl rfl ?_);obtain⟨aA,am,an⟩:=bs al;refine Ce 0 (Kf Y am) rfl rfl JZ Z rfl ?_;rintro _ aB _ ao ⟨ap,aq,rfl,rfl,ar⟩ au;obtain⟨aC,av,aw⟩:=bs an;refine Bt av rfl rfl rfl (zg 2 rfl ?_);obtain rfl:=oi aw;exact A3 func37 rfl rfl (ac ao rfl ⟨ap,aq,rfl,rfl,ar⟩ au)
def f32(fu_:Nat)(p0:CO)(p1:Int):Option (Bool×(CO)):= (Ax (p1 - 1)).bind λO=> (f36 fu_ p0 O).bind λK=> some (decide (K.1=0),K.2)
theorem Zn{bk:Nat}{a1:An}{c2:Nat}{p0:CO}{p1:Int}(Y:Am rI E a1 c2 p0.1){fu_:Nat}{r:Bool×(CO)}(K:f32 fu_ p0 p1=some r):AR J 32 [Ak bk 0,iV p1] E [(bk,.cells #[sV a1 p0.1 c2,iV p0.2.1,.int .u64 ((p0.2.2:Nat):Int)] 74 (0,0))] (λw E' B'=>∃(O:An) (U:Nat),w= .bool r.1/\B'= [(bk,.cells #[sV O r.2.1 U,iV r.2.2.1,.int .u64 ((r.2.2.2:Nat):Int)] 74 (0,0))]/\Am rI E' O U r.2.1):=by
 refine Bi func32 λQ av cs H Z ac=>?_;unfold f32 at K;obtain⟨aw,ag,al⟩:=bs K;refine zg 8 rfl (Ca ag rfl rfl rfl ?_);obtain⟨ay,am,an⟩:=bs al;refine Ce 0 (Kf Y am) rfl rfl JZ Z rfl ?_;rintro _ az _ ao ⟨ap,aq,rfl,rfl,ar⟩ au;refine zg 3 rfl ?_;obtain rfl:=oi an;exact A3 func32 rfl rfl (ac ao rfl ⟨ap,aq,rfl,rfl,ar⟩ au)
def f81(fu_:Nat)(p0:CO)(p1:List Int):Option (Int×(CO)):= (Ax ((p1.length:Int) - 1)).bind λO=> (f36 fu_ p0 O).bind λK=> (ix p1 K.1).bind λU=> some (U,K.2)
theorem Tw{bk:Nat}{a1:An}{c2:Nat}{K:An}{O:Nat}{p0:CO}{p1:List Int}(ag:Am rI E a1 c2 p0.1)(al:Am rI E K O p1){fu_:Nat}{r:Int×(CO)}(U:f81 fu_ p0 p1=some r):AR J 81 [Ak bk 0,sV K p1 O] E [(bk,.cells #[sV a1 p0.1 c2,iV p0.2.1,.int .u64 ((p0.2.2:Nat):Int)] 74 (0,0))] (λw E' B'=>∃(Y:An) (Z:Nat),w=iV r.1/\B'= [(bk,.cells #[sV Y r.2.1 Z,iV r.2.2.1,.int .u64 ((r.2.2.2:Nat):Int)] 74 (0,0))]/\Am rI E' Y Z r.2.1):=by
 refine Bi func81 λQ aC cs H am an=>?_;unfold f81 at U;refine zg 9 rfl (JL.ln underlying28 rfl rfl rfl ?_);obtain⟨aD,ao,ap⟩:=bs U;refine Ca ao rfl rfl rfl ?_;obtain⟨aE,aq,ar⟩:=bs ap;refine Ce 0 (Kf ag aq) rfl rfl JZ am rfl ?_;rintro _ aF _ ac ⟨au,av,rfl,rfl,aw⟩ ay;obtain⟨aG,az,aA⟩:=bs ar;refine JS.ix (al.Ag ac) az underlying28 AK ?_;rintro aH aI _ rfl aB;refine Da 0 aB Bh rfl rfl rfl (zg 2 rfl ?_);obtain rfl:=oi aA;exact A3 func81 rfl rfl (an ac rfl ⟨au,av,rfl,rfl,aw⟩ ay)
def f40(fu_:Nat)(p0:CO)(p1:Int):Option (Dq×(CO)):= (Ax (p1 - 1)).bind λZ=> (f36 fu_ p0 Z).bind λK=> (f37 fu_ K.2 1 9).bind λO=> (f81 fu_ O.2 ([1,2,2,3,O.1]:List Int)).bind λU=> (Ax (p1 - 1)).bind λac=> (f37 fu_ U.2 1 ac).bind λY=> (Ax (K.1+Y.1)).bind λag=> (JH ag p1).bind λal=> some ((K.1,al,U.1),Y.2)
theorem TK{bk:Nat}{a1:An}{c2:Nat}{p0:CO}{p1:Int}(ar:Am rI E a1 c2 p0.1){fu_:Nat}{r:Dq×(CO)}(ac:f40 fu_ p0 p1=some r):AR J 40 [Ak bk 0,iV p1] E [(bk,.cells #[sV a1 p0.1 c2,iV p0.2.1,.int .u64 ((p0.2.2:Nat):Int)] 74 (0,0))] (λw E' B'=>∃(ag:An) (al:Nat),w= .agg #[iV r.1.1,iV r.1.2.1,iV r.1.2.2]/\B'= [(bk,.cells #[sV ag r.2.1 al,iV r.2.2.1,.int .u64 ((r.2.2.2:Nat):Int)] 74 (0,0))]/\Am rI E' ag al r.2.1):=by
 refine Bi func40 λQ bf cs H au av=>?_;unfold f40 at ac;refine zg 2 rfl (BU au Bn λbg aw=>?_);obtain⟨bh,ay,az⟩:=bs ac;refine zg 5 rfl (Ca ay rfl rfl rfl ?_);obtain⟨O,aA,aB⟩:=bs az;refine Ce 0 (Kf ar aA) rfl rfl JZ aw rfl ?_;rintro _ bi _ aC ⟨bj,bl,rfl,rfl,aD⟩ aE;obtain⟨am,aF,aG⟩:=bs aB;refine zg 2 rfl (Ce 0 (K7 aD aF) rfl rfl Kz aE rfl ?_);rintro _ bm _ aH ⟨bn,bo,rfl,rfl,aI⟩ aJ;refine FO (pp:=rI) [iV 1,iV 2,iV 2,iV 3,iV am.1] [1,2,2,3,am.1] rfl rfl rfl underlying28 AK CR (by decide) rfl rfl rfl ⟨rfl,rfl,rfl,rfl,rfl,trivial⟩ aJ λbp bq aK aL=>BO 2 aK aL rfl λbr an aM aN=>?_;obtain⟨U,aO,aP⟩:=bs aG;refine Ce 0 (Tw (aI.Ag an) aM aO) rfl rfl (Ba func81 rfl) aN rfl ?_;rintro _ bu _ aQ ⟨bv,bw,rfl,rfl,aR⟩ aS;refine Al (v:= .agg #[iV O.1,iV 0,iV U.1]) rfl (λρ h=>CY [(0,1),(1,1),(2,1)] h Bn underlying27 ⟨rfl,AM type3,rfl,AM type3,rfl,AM type3,trivial⟩ rfl rfl) (BU aS Bn λao aT=>?_);refine Br 3 aT A1 λZ=>?_;refine zg 2 rfl (Fl 8 [ao] ⟨⟨3,_,rfl⟩,trivial⟩ Z λK=>?_);refine JG.fd 0 K underlying27 AK rfl rfl rfl rfl (Kj 1 K 0 3 Z Bh ?_);refine A7 K rfl [2,3] rfl ?_;obtain⟨aU,aV,aW⟩:=bs aP;refine AP 4 K rfl rfl (λρ h s' aX=>Eh (h _ _ rfl) (h _ _ rfl) aV) (DK 7 K rfl rfl ?_);obtain⟨bx,aY,aZ⟩:=bs aW;refine Q2 (i:=5) (vs:= [Ak bk 0,iV 1,iV aU]) 0 (by exact λx a0=>HD.mem (bks:= [ao]) (by exact⟨⟨3,_,rfl⟩,trivial⟩) x (by simpa [AX] using a0)) (K7 aR aY) (by decide+kernel) rfl rfl rfl Kz rfl Z rfl ?_;rintro _ bz _ a2 ⟨a3,a4,rfl,rfl,a5⟩ a6;obtain⟨bA,a7,a8⟩:=bs aZ;refine AP 6 K rfl rfl (λρ h s' aX=>F2 (h _ _ rfl) (h _ _ rfl) a7) (CE [8,9,10] ?_);obtain⟨Y,a9,ba⟩:=bs a8;refine Al (v:=iV Y) rfl (λρ h=>Pa (h _ _ rfl) (h _ _ rfl) a9) (JL.fd underlying27 AK rfl rfl rfl ?_);refine Br 3 a6 AK λap=>?_;refine zg 3 rfl (Al rfl (λρ h=>Fz (vs:= [iV O.1,iV Y,iV U.1]) Ee A1 (h _ _ rfl) (Dh (off:=0) 3 ap rfl rfl)) ?_);refine Br 1 ap A1 λbb=>?_;refine JL.done (JS.drop 3 bb rfl λaq=>?_);obtain rfl:=oi ba;refine JL.ret (v:= .agg #[iV O.1,iV Y,iV U.1]) rfl rfl (Bs.list func40 rfl (vs:= [.agg #[iV O.1,iV Y,iV U.1]]) ⟨⟨_,rfl,Ld.many (vs:= [iV O.1,iV Y,iV U.1]) Ee A1 (Dh (off:=0) 1 aq rfl rfl)⟩,trivial⟩) (C5 1 aq rfl λbe=>?_);exact av ((((aC.Ad aH).Ad an).Ad aQ).Ad a2) rfl ⟨a3,a4,rfl,rfl,a5⟩ be
end Pal
namespace Pal
open Go Go.Conc
section
variable {P:Program}{J:Judge P}{Q:Gs_}{b:Frame}{n:Nat}{ds:Ld_}{ops:Ao_}{k:Li_}{cs:Lf_}{m fuel:Nat}{D:Nat->Bool}{listed:Array Bool}{L:Env}{s:St}{E E' H:LH}{S:List Seg}
variable {d:Option Tmp}{x y:Operand}{t u ty e:TypeId}{p:String}{af:Ae_}{g:On_}{v:Value}{i:Nat}{kd:IntKind}
theorem Take.SV{f:FuncId}{args:Array Operand}{ats:Array TypeId}{vs:Lv_}{seg:Seg}{R:Value->LH->Seg->Prop}(j:Nat)(O:Ap E H S)(an:AR J f vs E seg R)
  (ao:ops[i]? =some ⟨d,.call ⟨.value (.func f),args,ats⟩,ty,p,af,g⟩) (hw:AI L ops ⟨d,.call ⟨.value (.func f),args,ats⟩,ty,p,af,g⟩=some true) (ap:A9 n d=true) (hb:Dw P f=true) (aq:evs L args.toList=some vs) (U:S[j]? =some seg)
  (ar:∀v E' seg',Le E E'->R v E' seg'->Ap E' H (S.set j seg')->AJ J Q b n ds ops k cs m CN fuel (A4 listed i) (Av L d v) (Aj E' H (S.set j seg'))):
  Take J Q b n ds ops k cs m CN fuel listed L (Aj E H S) i:=by
 have Y:S.flatten.Perm (seg++(S.set j []).flatten):=(Ef (seg':=seg) U).1.trans List.perm_append_comm;have Z:Nd E H (seg++(S.set j []).flatten):=Nd.perm O Y;have au:Aj E H S=mk E (Bb (S.set j []).flatten H) seg:=by
  rw [show Aj E H S=mk E H S.flatten from rfl,Fa O Y];unfold mk;rw [FN]
 have ac:=EF.Lj (an (Bb (S.set j []).flatten H) (Nd.front Z)) (by rintro v s' ⟨E',B',_,_,_,rfl⟩;rfl);rw [← au] at ac;refine⟨_,ao,by simp [DL],ap,hw,λρ ag=>?_⟩;have av:args.map ρ=vs.toArray:=by
  rw [← Gj ag aq];apply Array.ext';simp
 have aw:ρ (.func f)= .func (.func f) #[] #[]:=ag _ _ rfl;simp only [execOp,resolve,bind,Sem.bind,Deferred.ofValue,aw,pure,invoke];have e: #[]++args.map ρ++ #[]=vs.toArray:=by rw [av];simp
 rw [e];refine IT hb ?_;rw [KD];refine⟨_,ac,?_⟩;rintro v aH ⟨⟨E',B',hle,ay,az,rfl⟩,w,aA⟩;have e2:mk E' (Bb (S.set j []).flatten H) B'=mk E' H (B'++(S.set j []).flatten):=by unfold mk;rw [FN]
 have aB:Nd E H (S.set j []).flatten:=by
  have:=Z;rw [Nd.iff] at this ⊢;rw [List.map_append,List.nodup_append] at this;exact⟨this.1.2.1,λq aC=>this.2 q (List.mem_append_right _ aC)⟩
 have aD:Nd E' H (S.set j []).flatten:=aB.grow λx K=>by
  have aE:=aA.d x K;have aF:Bb B' (Bb (S.set j []).flatten H) x=none:=aE;exact(HT aF).1
 have al:Nd E' H (B'++(S.set j []).flatten):=Nd.glue az aD;have am:(B'++(S.set j []).flatten).Perm (S.set j B').flatten:=List.perm_append_comm.trans (Ef U).2.symm;have aG:Ap E' H (S.set j B'):=Nd.perm al am;rw [e2,Fa al am];exact⟨rfl,λx o K=>hle _ _ K,ar v E' B' hle ay aG⟩
end
end Pal
namespace Pal
open Go Go.Conc Go.Proofs
open Go.Proofs.Tryz
variable {J:Judge Tryz.prog}{E:LH}
def Nu(fu_:Nat)(Y:Bool×(CO))(K:(List Int)×Int×Nat×(List Int)×Int):Option (Bp ((List Int)×Int×Nat×(List Int)×Int) ((List Int)×CO)):= if 0<K.2.2.2.2 then(Option.bind (if Y.1=true then((room K.2.2.2.1 1).bind λZ=> some (Z,K.1,K.2.1,K.2.2.1)) else((f81 fu_ (K.1,K.2.1,K.2.2.1) ([1,1,2,2,3,5]:List Int)).bind λO=> (room K.2.2.2.1 O.1).bind λac=> some (ac,O.2.1,O.2.2.1,O.2.2.2))) λU=> (Ax (K.2.2.2.2 - 1)).bind λag=> some (.more (U.2.1,U.2.2.1,U.2.2.2,U.1,ag))) else(some (.done (K.2.2.2.1,K.1,K.2.1,K.2.2.1)))
def No(fu_:Nat)(Y:Int×(CO))(Z:Bool×(CO))(K:Bm×(List Int)×Int×Nat×Int):Option (Bp (Bm×(List Int)×Int×Nat×Int) ((List Int)×Int×Nat×Bm)):= if K.2.2.2.2<Y.1 then((f36 fu_ (K.2.1,K.2.2.1,K.2.2.2.1) 3).bind λO=> Option.bind (iter (Nu fu_ Z) fu_ (O.2.1,O.2.2.1,O.2.2.2,[],O.1)) λU=> (room K.1 U.1).bind λac=> (Ax (K.2.2.2.2+1)).bind λag=> some (.more (ac,U.2.1,U.2.2.1,U.2.2.2,ag))) else(some (.done (K.2.1,K.2.2.1,K.2.2.2.1,K.1)))
def Nn(fu_:Nat)(U:Int×(CO))(K:Ay×(List Int)×Int×Nat×Int):Option (Bp (Ay×(List Int)×Int×Nat×Int) ((List Int)×Int×Nat×Ay)):= if 0<K.2.2.2.2 then((f40 fu_ (K.2.1,K.2.2.1,K.2.2.2.1) U.1).bind λO=> (Dr K.1 ([O.1]:Ay)).bind λY=> (Ax (K.2.2.2.2 - 1)).bind λZ=> some (.more (Y,O.2.1,O.2.2.1,O.2.2.2,Z))) else(some (.done (K.2.1,K.2.2.1,K.2.2.2.1,K.1)))
def f31(fu_:Nat)(p0:CO)(p1:Int)(p2:Int):Option (A5×(CO)):= (f37 fu_ p0 2 p1).bind λZ=> (f32 fu_ Z.2 3).bind λK=> Option.bind (iter (No fu_ Z K) fu_ ([],K.2.1,K.2.2.1,K.2.2.2,0)) λO=> (f36 fu_ (O.1,O.2.1,O.2.2.1) p2).bind λU=> Option.bind (iter (Nn fu_ Z) fu_ ([],U.2.1,U.2.2.1,U.2.2.2,U.1)) λY=> some ((O.2.2.2,Y.2.2.2),(Y.1,Y.2.1,Y.2.2.1))
theorem ZV{bk:Nat}{a1:An}{c2:Nat}{p0:CO}{p1:Int}{p2:Int}(cy:Am rI E a1 c2 p0.1){fu_:Nat}{r:A5×(CO)}(bJ:f31 fu_ p0 p1 p2=some r):AR J 31 [Ak bk 0,iV p1,iV p2] E [(bk,.cells #[sV a1 p0.1 c2,iV p0.2.1,.int .u64 ((p0.2.2:Nat):Int)] 74 (0,0))] (λw E' B'=>∃(bK:An) (bL:Nat) (bM:An) (bN:Nat) (bO:An) (bP:Nat),w= .agg #[sV bK r.1.1 bL,sV bM r.1.2 bN]/\B'= [(bk,.cells #[sV bO r.2.1 bP,iV r.2.2.1,.int .u64 ((r.2.2.2:Nat):Int)] 74 (0,0))]/\Am (rL rI) E' bK bL r.1.1/\Am Au E' bM bN r.1.2/\Am rI E' bO bP r.2.1):=by
 refine Bi func31 λQ fM cs H cz cA=>?_;unfold f31 at bJ;refine zg 2 rfl (BU cz HR λO cB=>?_);refine zg 3 rfl (BU cB HR λU cC=>?_);obtain⟨au,cD,cE⟩:=bs bJ;refine zg 5 rfl (Ce 0 (K7 cy cD) rfl rfl Kz cC rfl ?_);rintro _ fN _ cF ⟨cG,cH,rfl,rfl,cI⟩ cJ;refine Bf (S':= [[(bk,.cells #[sV cG au.2.1 cH,iV au.2.2.1,.int .u64 ((au.2.2.2:Nat):Int)] 74 (0,0))],[(O,.cells #[nS,nS] 25 (0,0))],[(U,.cells #[nS,nS] 25 (0,0))]]) rfl cJ λcK=>?_;obtain⟨aT,cM,cN⟩:=bs cE;refine zg 5 rfl (Ce 0 (Zn cI cM) rfl rfl (Ba func32 rfl) cK rfl ?_);rintro _ bh _ cO ⟨cP,cQ,rfl,rfl,cR⟩ cT;obtain⟨Y,cV,cW⟩:=bs cN;refine zg 7 rfl (Bw (λL s=>∃(aU:LH) (bi:An) (bj:Nat) (ac:An) (ag:Nat) (ar:Seg),Jn bh H aU [bX bk #[sV bi Y.1 bj,iV Y.2.1,.int .u64 ((Y.2.2.1:Nat):Int)] 74,bX O #[nS,nS] 25,bX U #[sV ac Y.2.2.2 ag,nS] 25,ar] [(0,Ak bk 0),(2,iV p2),(6,Ak O 0),(7,Ak U 0),(8,iV au.1)] L s (Am rI aU bi bj Y.1/\OL 28 (rL rI) aU ac ag ar Y.2.2.2)) ?_ ?_)
 ·rintro _ _ ⟨aU,bi,bj,ac,ag,ar,rfl,rfl,cX,cY,cZ,c0⟩;obtain⟨fO,c1,c3⟩:=bs cW;refine zg 5 rfl (Ce 0 (Kf cZ c1) rfl rfl JZ cY rfl ?_);rintro _ bl _ bQ ⟨c4,c5,rfl,rfl,c6⟩ c7;obtain⟨al,c8,c9⟩:=bs c3;refine zg 2 rfl (Bw (λL s=>∃(aV:LH) (aK:An) (aL:Nat) (aw:An) (ay:Nat) (aW:Seg),Jn bl H aV [bX bk #[sV aK al.1 aL,iV al.2.1,.int .u64 ((al.2.2.1:Nat):Int)] 74,bX O #[nS,nS] 25,bX U #[sV ac Y.2.2.2 ag,sV aw al.2.2.2 ay] 25,ar,aW] [(6,Ak O 0),(7,Ak U 0)] L s (Am rI aV aK aL al.1/\OL 27 Au aV aw ay aW al.2.2.2)) ?_ ?_)
  ·rintro _ _ ⟨aV,aK,aL,aw,ay,aW,rfl,rfl,bR,bS,da,db⟩;refine zg 2 rfl (Al rfl (λρ h=>Fz (vs:= [sV ac Y.2.2.2 ag,sV aw al.2.2.2 ay]) Ci BC (h _ _ rfl) (Dh (off:=0) 2 bS rfl rfl)) ?_);refine Br 1 bS BC λdc=>?_;refine Bf (S':= [[(bk,.cells #[sV aK al.1 aL,iV al.2.1,.int .u64 ((al.2.2.1:Nat):Int)] 74 (0,0))],[(O,.cells #[sV ac Y.2.2.2 ag,sV aw al.2.2.2 ay] 25 (0,0))],[(U,.cells #[sV ac Y.2.2.2 ag,sV aw al.2.2.2 ay] 25 (0,0))],ar,aW]) rfl dc λdd=>JL.done (BO 3 (c0.Ag (bQ.Ad bR)) dd rfl λfP bm de df=>?_);refine BO 4 (db.Ag bm) df rfl λfQ bn dg dh=>JS.drop 2 dh rfl λbT=>?_;obtain rfl:=oi c9;refine JL.ret (v:= .agg #[sV ac Y.2.2.2 ag,sV aw al.2.2.2 ay]) rfl rfl (Bs.list func31 rfl (vs:= [.agg #[sV ac Y.2.2.2 ag,sV aw al.2.2.2 ay]]) ⟨⟨_,rfl,Ld.many (vs:= [sV ac Y.2.2.2 ag,sV aw al.2.2.2 ay]) Ci BC (Dh (off:=0) 1 bT rfl rfl)⟩,trivial⟩) (C5 1 bT rfl λdi=>?_);exact cA ((((((cF.Ad cO).Ad cX).Ad bQ).Ad bR).Ad bm).Ad bn) rfl ⟨ac,ag,aw,ay,aK,aL,rfl,rfl,(de.Ag bn),dg,(da.Ag (bm.Ad bn))⟩ di
  ·intro dj;refine JL.block (CZ c8 (λL s an=>∃(aM:LH) (az:An) (aA:Nat) (aC:Seg) (aX:An) (aY:Nat),Jn bl H aM [bX bk #[sV aX an.2.1 aY,iV an.2.2.1,.int .u64 ((an.2.2.2.1:Nat):Int)] 74,bX O #[nS,nS] 25,bX U #[sV ac Y.2.2.2 ag,sV az an.1 aA] 25,ar,aC] [(0,Ak bk 0),(6,Ak O 0),(7,Ak U 0),(8,iV au.1),(13,iV an.2.2.2.2)] L s (OL 27 Au aM az aA aC an.1/\Am rI aM aX aY an.2.1)) ⟨bl,none,0,[],c4,c5,rfl,rfl,Az,c7,OL.nil,c6⟩ ?_);rintro _ _ an ⟨aM,az,aA,aC,aX,aY,rfl,rfl,aZ,a0,a2,bo⟩ dk ⟨fR,aN⟩ bp;have bU:=aN;unfold Nn at bU;refine zg 6 rfl (A2 bU (λdn dp=>?_) (λdn dq=>?_))
   ·refine zg 3 rfl (Fb 6 λbV=>?_);refine JG.fd 0 bV underlying25 Dv rfl rfl rfl rfl (A7 bV rfl [2,3] rfl ?_);obtain⟨K,bW,bq⟩:=bs dp;refine EP (i:=1) (j:=4) rfl (by decide+kernel) ?_ ?_
    ·refine Take.y0 (v:= sV az an.1 aA) rfl rfl rfl (λρ h=>Yl.load Hl (h _ _ rfl) (BS (j:=2) a0 rfl rfl)) (JG.one (i:=4) rfl (by decide+kernel) ?_);refine Take.SV (vs:= [Ak bk 0,iV au.1]) 0 a0 (TK bo bW) rfl rfl rfl (Ba func40 rfl) rfl rfl ?_;rintro _ fS _ bY ⟨br,bu,rfl,rfl,dr⟩ dt;refine JG.one (i:=5) rfl (by decide+kernel) (Take.Dx (pp:=Au) [.agg #[iV K.1.1,iV K.1.2.1,iV K.1.2.2]] ([K.1]:Ay) dt rfl rfl rfl underlying23 A1 Bn (by decide) rfl rfl rfl ⟨⟨_,_,rfl,rfl,⟨_,_,rfl,rfl,rfl⟩⟩,trivial⟩ λfT du dv dw=>?_);refine CE [6,7,8] (Bf (S':= [[(bk,.cells #[sV br K.2.1 bu,iV K.2.2.1,.int .u64 ((K.2.2.2:Nat):Int)] 74 (0,0))],[(O,.cells #[nS,nS] 25 (0,0))],[(U,.cells #[sV ac Y.2.2.2 ag,sV az an.1 aA] 25 (0,0))],ar,aC,du]) rfl dw λdx=>?_);refine BO 5 dv dx rfl λdy bv dz dA=>?_;obtain⟨bZ,dB,dC⟩:=bs bq;refine F3 (pp:=Au) 4 dB rfl rfl rfl rfl rfl rfl rfl underlying23 underlying23 A1 (Ck type27) Bn rfl (by decide) (by decide) (a2.Ag (bY.Ad bv)) dz dA rfl λb0 b1 b2 dD dE=>JL.fd underlying25 Dv rfl rfl rfl (Br 2 dE Dv λdF=>?_);refine Bf (S':= [[(bk,.cells #[sV br K.2.1 bu,iV K.2.2.1,.int .u64 ((K.2.2.2:Nat):Int)] 74 (0,0))],[(O,.cells #[nS,nS] 25 (0,0))],[(U,.cells #[sV ac Y.2.2.2 ag,sV b0 bZ b1] 25 (0,0))],ar,b2,[]]) rfl dF λdG=>?_;obtain⟨dH,dI,dJ⟩:=bs dC;refine zg 4 rfl (Ca dI rfl rfl rfl ?_);refine zg 2 rfl ?_;obtain rfl:=oi dJ;exact AE (bp _ _ (bZ,K.2.1,K.2.2.1,K.2.2.2,dH) ⟨dy,b0,b1,b2,br,bu,rfl,rfl,((aZ.Ad bY).Ad bv),dG,dD,(dr.Ag bv)⟩ aN) rfl
    ·refine Take.SV (vs:= [Ak bk 0,iV au.1]) 0 a0 (TK bo bW) rfl rfl rfl (Ba func40 rfl) rfl rfl ?_;rintro _ fU _ a3 ⟨aG,aH,rfl,rfl,b3⟩ bw;refine EP (i:=1) (j:=5) rfl (by decide+kernel) ?_ ?_
     ·refine Take.y0 (v:= sV az an.1 aA) rfl rfl rfl (λρ h=>Yl.load Hl (h _ _ rfl) (BS (j:=2) bw rfl rfl)) (JG.one (i:=5) rfl (by decide+kernel) ?_);refine Take.Dx (pp:=Au) [.agg #[iV K.1.1,iV K.1.2.1,iV K.1.2.2]] ([K.1]:Ay) bw rfl rfl rfl underlying23 A1 Bn (by decide) rfl rfl rfl ⟨⟨_,_,rfl,rfl,⟨_,_,rfl,rfl,rfl⟩⟩,trivial⟩ λfW dK dL dM=>CE [6,7,8] (Bf (S':= [[(bk,.cells #[sV aG K.2.1 aH,iV K.2.2.1,.int .u64 ((K.2.2.2:Nat):Int)] 74 (0,0))],[(O,.cells #[nS,nS] 25 (0,0))],[(U,.cells #[sV ac Y.2.2.2 ag,sV az an.1 aA] 25 (0,0))],ar,aC,dK]) rfl dM λdN=>?_);refine BO 5 dL dN rfl λdO bx dQ dR=>?_;obtain⟨b4,dS,dT⟩:=bs bq;refine F3 (pp:=Au) 4 dS rfl rfl rfl rfl rfl rfl rfl underlying23 underlying23 A1 (Ck type27) Bn rfl (by decide) (by decide) (a2.Ag (a3.Ad bx)) dQ dR rfl λb5 b6 b7 dU dV=>JL.fd underlying25 Dv rfl rfl rfl (Br 2 dV Dv λdW=>?_);refine Bf (S':= [[(bk,.cells #[sV aG K.2.1 aH,iV K.2.2.1,.int .u64 ((K.2.2.2:Nat):Int)] 74 (0,0))],[(O,.cells #[nS,nS] 25 (0,0))],[(U,.cells #[sV ac Y.2.2.2 ag,sV b5 b4 b6] 25 (0,0))],ar,b7,[]]) rfl dW λdX=>?_;obtain⟨dY,dZ,ea⟩:=bs dT;refine zg 4 rfl (Ca dZ rfl rfl rfl ?_);refine zg 2 rfl ?_;obtain rfl:=oi ea;exact AE (bp _ _ (b4,K.2.1,K.2.2.1,K.2.2.2,dY) ⟨dO,b5,b6,b7,aG,aH,rfl,rfl,((aZ.Ad a3).Ad bx),dX,dU,(b3.Ag bx)⟩ aN) rfl
     ·refine Take.Dx (pp:=Au) [.agg #[iV K.1.1,iV K.1.2.1,iV K.1.2.2]] ([K.1]:Ay) bw rfl rfl rfl underlying23 A1 Bn (by decide) rfl rfl rfl ⟨⟨_,_,rfl,rfl,⟨_,_,rfl,rfl,rfl⟩⟩,trivial⟩ λfX eb ec b8=>JG.one (i:=1) rfl (by decide+kernel) (Take.y0 (v:= sV az an.1 aA) rfl rfl rfl (λρ h=>Yl.load Hl (h _ _ rfl) (BS (j:=2) b8 rfl rfl)) ?_);refine CE [6,7,8] (Bf (S':= [[(bk,.cells #[sV aG K.2.1 aH,iV K.2.2.1,.int .u64 ((K.2.2.2:Nat):Int)] 74 (0,0))],[(O,.cells #[nS,nS] 25 (0,0))],[(U,.cells #[sV ac Y.2.2.2 ag,sV az an.1 aA] 25 (0,0))],ar,aC,eb]) rfl b8 λed=>?_);refine BO 5 ec ed rfl λee bz ef eg=>?_;obtain⟨b9,eh,ei⟩:=bs bq;refine F3 (pp:=Au) 4 eh rfl rfl rfl rfl rfl rfl rfl underlying23 underlying23 A1 (Ck type27) Bn rfl (by decide) (by decide) (a2.Ag (a3.Ad bz)) ef eg rfl λca cb cc ej ek=>JL.fd underlying25 Dv rfl rfl rfl (Br 2 ek Dv λel=>?_);refine Bf (S':= [[(bk,.cells #[sV aG K.2.1 aH,iV K.2.2.1,.int .u64 ((K.2.2.2:Nat):Int)] 74 (0,0))],[(O,.cells #[nS,nS] 25 (0,0))],[(U,.cells #[sV ac Y.2.2.2 ag,sV ca b9 cb] 25 (0,0))],ar,cc,[]]) rfl el λem=>?_;obtain⟨en,eo,ep⟩:=bs ei;refine zg 4 rfl (Ca eo rfl rfl rfl ?_);refine zg 2 rfl ?_;obtain rfl:=oi ep;exact AE (bp _ _ (b9,K.2.1,K.2.2.1,K.2.2.2,en) ⟨ee,ca,cb,cc,aG,aH,rfl,rfl,((aZ.Ad a3).Ad bz),em,ej,(b3.Ag bz)⟩ aN) rfl
   ·refine JL.exit rfl ?_;obtain rfl:=oi dq;obtain rfl:=dk _ aN;exact AE (dj _ _ ⟨aM,aX,aY,az,aA,aC,rfl,rfl,aZ,a0,bo,a2⟩) rfl
 ·intro er;refine JL.block (CZ cV (λL s Z=>∃(aO:LH) (ao:An) (ap:Nat) (av:Seg) (a4:An) (a5:Nat),Jn bh H aO [bX bk #[sV a4 Z.2.1 a5,iV Z.2.2.1,.int .u64 ((Z.2.2.2.1:Nat):Int)] 74,bX O #[nS,nS] 25,bX U #[sV ao Z.1 ap,nS] 25,av] [(0,Ak bk 0),(2,iV p2),(6,Ak O 0),(7,Ak U 0),(8,iV au.1),(9,.bool aT.1),(10,iV Z.2.2.2.2)] L s (OL 28 (rL rI) aO ao ap av Z.1/\Am rI aO a4 a5 Z.2.1)) ⟨bh,none,0,[],cP,cQ,rfl,rfl,Az,cT,OL.nil,cR⟩ ?_);rintro _ _ Z ⟨aO,ao,ap,av,a4,a5,rfl,rfl,cd,ce,cf,cg⟩ et ⟨fY,bA⟩ eu;have ci:=bA;unfold No at ci;refine zg 7 rfl (A2 ci (λew ex=>?_) (λew ey=>?_))
  ·obtain⟨fZ,ez,eA⟩:=bs ex;refine zg 11 rfl (Ce 0 (Kf cg ez) rfl rfl JZ ce rfl ?_);rintro _ bB _ ck ⟨eB,eC,rfl,rfl,eD⟩ eE;obtain⟨aq,eF,eG⟩:=bs eA;refine zg 2 rfl (Bw (λL s=>∃(a6:LH) (a7:An) (a8:Nat) (bC:Seg) (aP:An) (aQ:Nat),Jn bB H a6 [bX bk #[sV aP aq.2.1 aQ,iV aq.2.2.1,.int .u64 ((aq.2.2.2:Nat):Int)] 74,bX O #[nS,nS] 25,bX U #[sV ao Z.1 ap,nS] 25,av,bC] [(0,Ak bk 0),(2,iV p2),(6,Ak O 0),(7,Ak U 0),(8,iV au.1),(9,.bool aT.1),(10,iV Z.2.2.2.2),(11,sV a7 aq.1 a8)] L s (OL 3 rI a6 a7 a8 bC aq.1/\Am rI a6 aP aQ aq.2.1)) ?_ ?_)
   ·rintro _ _ ⟨a6,a7,a8,bC,aP,aQ,rfl,rfl,cm,cn,eH,eI⟩;refine JL.region (JL.fd underlying25 FL rfl rfl rfl ?_);refine Al (v:= sV ao Z.1 ap) rfl (λρ h=>Yl.load FZ (h _ _ rfl) (BS (j:=2) (off:=0) cn rfl rfl)) (zg 1 rfl ?_);refine BO 4 eH cn rfl λeJ bD eK eL=>Bf (S':= [[(bk,.cells #[sV aP aq.2.1 aQ,iV aq.2.2.1,.int .u64 ((aq.2.2.2:Nat):Int)] 74 (0,0))],[(O,.cells #[nS,nS] 25 (0,0))],[(U,.cells #[sV ao Z.1 ap,nS] 25 (0,0))],av,[]]) rfl eL λeM=>?_;obtain⟨eN,eO,eP⟩:=bs eG;refine JS.app (pp:=(rL rI)) (v:= sV a7 aq.1 a8) (a:=ao) (c:=ap) 3 eO rfl rfl rfl rfl (λ_=>rfl) rfl (λ_=>rfl) rfl rfl rfl underlying22 underlying22 underlying22 Gz (Ck type28) Lp rfl (by decide) (by decide) (by decide) (by decide) (cf.Ag ((ck.Ad cm).Ad bD)) ⟨_,_,rfl,eK⟩ eM rfl λga eQ eR eS eT eU=>JL.fd underlying25 FL rfl rfl rfl (Br 2 eU FL λeV=>?_);obtain⟨eW,eX,eY⟩:=bs eP;refine zg 4 rfl (Bt eX rfl rfl rfl ?_);refine zg 2 rfl ?_;obtain rfl:=oi eY;exact AE (eu _ _ (eN,aq.2.1,aq.2.2.1,aq.2.2.2,eW) ⟨eJ,eQ,eR,eS,aP,aQ,rfl,rfl,(((cd.Ad ck).Ad cm).Ad bD),eV,eT,(eI.Ag bD)⟩ bA) rfl
   ·intro eZ;refine JL.block (CZ eF (λL s am=>∃(aD:LH) (aE:An) (aF:Nat) (aI:An) (aJ:Nat) (aR:Seg),Jn bB H aD [bX bk #[sV aE am.1 aF,iV am.2.1,.int .u64 ((am.2.2.1:Nat):Int)] 74,bX O #[nS,nS] 25,bX U #[sV ao Z.1 ap,nS] 25,av,aR] [(0,Ak bk 0),(2,iV p2),(6,Ak O 0),(7,Ak U 0),(8,iV au.1),(9,.bool aT.1),(10,iV Z.2.2.2.2),(11,sV aI am.2.2.2.1 aJ),(12,iV am.2.2.2.2)] L s (Am rI aD aE aF am.1/\OL 3 rI aD aI aJ aR am.2.2.2.1)) ⟨bB,eB,eC,none,0,[],rfl,rfl,Az,eE,eD,OL.nil⟩ ?_);rintro _ _ am ⟨aD,aE,aF,aI,aJ,aR,rfl,rfl,co,bE,bF,bG⟩ e0 ⟨gb,bH⟩ e1;have cp:=bH;unfold Nu at cp;refine zg 6 rfl (A2 cp (λe3 e4=>?_) (λe3 e5=>?_))
    ·obtain⟨aB,e6,e7⟩:=bs e4;refine zg 7 rfl (Bw (λL s=>∃(aS:LH) (a9:An) (ba:Nat) (bb:Seg) (be:An) (bf:Nat),Jn aD H aS [bX bk #[sV be aB.2.1 bf,iV aB.2.2.1,.int .u64 ((aB.2.2.2:Nat):Int)] 74,bX O #[nS,nS] 25,bX U #[sV ao Z.1 ap,nS] 25,av,bb] [(0,Ak bk 0),(2,iV p2),(6,Ak O 0),(7,Ak U 0),(8,iV au.1),(9,.bool aT.1),(10,iV Z.2.2.2.2),(11,sV a9 aB.1 ba),(12,iV am.2.2.2.2)] L s (OL 3 rI aS a9 ba bb aB.1/\Am rI aS be bf aB.2.1)) ?_ ?_)
     ·rintro _ _ ⟨aS,a9,ba,bb,be,bf,rfl,rfl,e8,e9,fa,fb⟩;obtain⟨fc,fe,ff⟩:=bs e7;refine zg 3 rfl (Ca fe rfl rfl rfl ?_);refine zg 2 rfl ?_;obtain rfl:=oi ff;exact AE (e1 _ _ (aB.2.1,aB.2.2.1,aB.2.2.2,aB.1,fc) ⟨aS,be,bf,a9,ba,bb,rfl,rfl,(co.Ad e8),e9,fb,fa⟩ bH) rfl
     ·intro cq;refine CV e6 (λfg fh=>?_) (λfg fj=>?_)
      ·obtain⟨gc,fk,fl⟩:=bs fh;refine zg 2 rfl (JS.app (pp:=rI) (v:=iV 1) (a:=aI) (c:=aJ) 4 fk rfl rfl rfl rfl (λ_=>rfl) rfl (λ_=>rfl) rfl rfl rfl underlying28 underlying28 underlying28 AK (Ck type3) CR rfl (by decide) (by decide) (by decide) (by decide) bG rfl bE rfl λgd fm fo cr fp fq=>?_);refine Bf (S':= [[(bk,.cells #[sV aE am.1 aF,iV am.2.1,.int .u64 ((am.2.2.1:Nat):Int)] 74 (0,0))],[(O,.cells #[nS,nS] 25 (0,0))],[(U,.cells #[sV ao Z.1 ap,nS] 25 (0,0))],av,cr]) rfl fq λfs=>zg 2 rfl ?_;obtain rfl:=oi fl;exact AE (cq _ _ ⟨aD,fm,fo,cr,aE,aF,rfl,rfl,Az,fs,fp,bF⟩) rfl
      ·refine zg 3 rfl (FO (pp:=rI) [iV 1,iV 1,iV 2,iV 2,iV 3,iV 5] [1,1,2,2,3,5] rfl rfl rfl underlying28 AK CR (by decide) rfl rfl rfl ⟨rfl,rfl,rfl,rfl,rfl,rfl,trivial⟩ bE λge fu fv fw=>?_);refine Bf (S':= [[(bk,.cells #[sV aE am.1 aF,iV am.2.1,.int .u64 ((am.2.2.1:Nat):Int)] 74 (0,0))],[(O,.cells #[nS,nS] 25 (0,0))],[(U,.cells #[sV ao Z.1 ap,nS] 25 (0,0))],av,aR,fu]) rfl fw λfx=>BO 5 fv fx rfl λgf bI fy fz=>?_;obtain⟨bg,fA,fB⟩:=bs fj;refine Ce 0 (Tw (bF.Ag bI) fy fA) rfl rfl (Ba func81 rfl) fz rfl ?_;rintro _ fC _ ct ⟨cu,cv,rfl,rfl,fD⟩ fE;obtain⟨gg,fF,fG⟩:=bs fB;refine JS.app (pp:=rI) (v:=iV bg.1) (a:=aI) (c:=aJ) 4 fF rfl rfl rfl rfl (λ_=>rfl) rfl (λ_=>rfl) rfl rfl rfl underlying28 underlying28 underlying28 AK (Ck type3) CR rfl (by decide) (by decide) (by decide) (by decide) (bG.Ag (bI.Ad ct)) rfl fE rfl λgh fH fI cw fJ fK=>Bf (S':= [[(bk,.cells #[sV cu bg.2.1 cv,iV bg.2.2.1,.int .u64 ((bg.2.2.2:Nat):Int)] 74 (0,0))],[(O,.cells #[nS,nS] 25 (0,0))],[(U,.cells #[sV ao Z.1 ap,nS] 25 (0,0))],av,cw,[]]) rfl fK λfL=>zg 2 rfl ?_;obtain rfl:=oi fG;exact AE (cq _ _ ⟨fC,fH,fI,cw,cu,cv,rfl,rfl,(bI.Ad ct),fL,fJ,fD⟩) rfl
    ·refine JL.exit rfl ?_;obtain rfl:=oi e5;obtain rfl:=e0 _ bH;exact AE (eZ _ _ ⟨aD,aI,aJ,aR,aE,aF,rfl,rfl,co,bE,bG,bF⟩) rfl
  ·refine JL.exit rfl ?_;obtain rfl:=oi ey;obtain rfl:=et _ bA;exact AE (er _ _ ⟨aO,a4,a5,ao,ap,av,rfl,rfl,cd,ce,cg,cf⟩) rfl
end Pal
namespace Pal
open Go Go.Conc Go.Proofs
open Go.Proofs.Tryz
variable {J:Judge Tryz.prog}{E:LH}
def f38(fu_:Nat)(p0:A5)(p1:Int×Int×Int):Option (A5):= (Dr ([]:Ay) p0.2).bind λK=> (Dr K ([p1]:Ay)).bind λO=> some (p0.1,O)
theorem PH{a1:An}{c2:Nat}{O:An}{U:Nat}{p0:A5}{p1:Int×Int×Int}(ac:Am (rL rI) E a1 c2 p0.1)(ag:Am Au E O U p0.2){fu_:Nat}{r:A5}(a2:f38 fu_ p0 p1=some r):AR J 38 [.agg #[sV a1 p0.1 c2,sV O p0.2 U],.agg #[iV p1.1,iV p1.2.1,iV p1.2.2]] E [] (λw E' B'=>∃(a3:An) (a4:Nat) (a5:An) (a6:Nat),w= .agg #[sV a3 r.1 a4,sV a5 r.2 a6]/\B'= []/\Am (rL rI) E' a3 a4 r.1/\Am Au E' a5 a6 r.2):=by
 refine Bi func38 λQ eV cs H bI al=>?_;unfold f38 at a2;refine zg 2 rfl (JS.box (v:= .agg #[sV a1 p0.1 c2,sV O p0.2 U]) rfl rfl rfl bI rfl λY bJ=>?_);refine Dp bJ λeW eX K bK bL=>?_;refine BU bL HR λZ bM=>?_;refine Bf (S':= [[],[(Y,.cells #[sV a1 p0.1 c2,sV O p0.2 U] 25 (0,0))],[],[(Z,.cells #[nS,nS] 25 (0,0))]]) rfl bM λaH=>zg 2 rfl (Fb 6 λa7=>?_);refine JG.fd 1 a7 underlying25 Dv rfl rfl rfl rfl (I5 4 a7 bK Ee A1 rfl rfl rfl ?_);obtain⟨eY,am,an⟩:=bs a2;refine LF (i:=0) (j:=2) (l:=5) rfl (by decide+kernel) ?_ ?_ ?_
 ·refine Take.L6 (pp:=Au) aH rfl rfl rfl underlying23 A1 λeZ e0 aR aQ=>EP (i:=2) (j:=5) rfl (by decide+kernel) ?_ ?_
  ·refine Take.y0 (v:= sV O p0.2 U) rfl rfl rfl (λρ h=>Yl.load Hl (h _ _ rfl) (BS (j:=1) aQ rfl rfl)) (EP (i:=3) (j:=5) rfl (by decide+kernel) ?_ ?_)
   ·refine Take.Jv (pp:=Au) 4 aQ am rfl rfl rfl rfl rfl rfl rfl underlying23 underlying23 A1 (Ck type27) Bn rfl (by decide) (by decide) aR (ag.Ag K) rfl λe1 e3 e4 bN bO bP=>JG.one (i:=5) rfl (by decide+kernel) (Take.Dx (pp:=Au) [.agg #[iV p1.1,iV p1.2.1,iV p1.2.2]] ([p1]:Ay) bP rfl rfl rfl underlying23 A1 Bn (by decide) rfl rfl rfl ⟨⟨_,_,rfl,rfl,⟨_,_,rfl,rfl,rfl⟩⟩,trivial⟩ λe5 bQ bR bS=>?_);refine CE [6,7,8] (EA 4 rfl bS λbT=>?_);refine JS.drop 4 bT rfl λbU=>Bf (S':= [[],[(Y,.cells #[sV a1 p0.1 c2,sV O p0.2 U] 25 (0,0))],[],[(Z,.cells #[nS,nS] 25 (0,0))],[],bQ,bN]) rfl bU λbV=>BO 5 bR bV rfl λe6 aS bW bY=>?_;obtain⟨aI,bZ,b0⟩:=bs an;refine F3 (pp:=Au) 6 bZ rfl rfl rfl rfl rfl rfl rfl underlying23 underlying23 A1 (Ck type27) Bn rfl (by decide) (by decide) (bO.Ag aS) bW bY rfl λao ap b1 b2 b3=>JL.fd underlying25 Dv rfl rfl rfl (Br 1 b3 Dv λb4=>?_);refine Bf (S':= [[],[(Y,.cells #[sV a1 p0.1 c2,sV ao aI ap] 25 (0,0))],[],[(Z,.cells #[nS,nS] 25 (0,0))],[],[],b1]) rfl b4 λa8=>zg 3 rfl (Al rfl (λρ h=>Fz (vs:= [sV a1 p0.1 c2,sV ao aI ap]) Ci BC (h _ _ rfl) (Dh (off:=0) 1 a8 rfl rfl)) ?_);refine Br 3 a8 BC λb5=>?_;refine JL.done (BO 6 b2 b5 rfl λe7 a9 b6 b7=>?_);refine JS.drop 1 b7 rfl λba=>?_;obtain rfl:=oi b0;refine JL.ret (v:= .agg #[sV a1 p0.1 c2,sV ao aI ap]) rfl rfl (Bs.list func38 rfl (vs:= [.agg #[sV a1 p0.1 c2,sV ao aI ap]]) ⟨⟨_,rfl,Ld.many (vs:= [sV a1 p0.1 c2,sV ao aI ap]) Ci BC (Dh (off:=0) 3 ba rfl rfl)⟩,trivial⟩) (C5 3 ba rfl λb8=>?_);exact al ((K.Ad aS).Ad a9) rfl ⟨a1,c2,ao,ap,rfl,rfl,(ac.Ag ((K.Ad aS).Ad a9)),b6⟩ b8
   ·refine Take.Dx (pp:=Au) [.agg #[iV p1.1,iV p1.2.1,iV p1.2.2]] ([p1]:Ay) aQ rfl rfl rfl underlying23 A1 Bn (by decide) rfl rfl rfl ⟨⟨_,_,rfl,rfl,⟨_,_,rfl,rfl,rfl⟩⟩,trivial⟩ λe8 b9 ca cb=>JG.one (i:=3) rfl (by decide+kernel) (Take.Jv (pp:=Au) 4 cb am rfl rfl rfl rfl rfl rfl rfl underlying23 underlying23 A1 (Ck type27) Bn rfl (by decide) (by decide) aR (ag.Ag K) rfl λe9 fa fb cc cd ce=>?_);refine CE [6,7,8] (EA 4 rfl ce λcf=>?_);refine JS.drop 4 cf rfl λcg=>Bf (S':= [[],[(Y,.cells #[sV a1 p0.1 c2,sV O p0.2 U] 25 (0,0))],[],[(Z,.cells #[nS,nS] 25 (0,0))],[],b9,cc]) rfl cg λci=>BO 5 ca ci rfl λfc aT ck cm=>?_;obtain⟨aJ,cn,co⟩:=bs an;refine F3 (pp:=Au) 6 cn rfl rfl rfl rfl rfl rfl rfl underlying23 underlying23 A1 (Ck type27) Bn rfl (by decide) (by decide) (cd.Ag aT) ck cm rfl λaq ar cp cq cr=>JL.fd underlying25 Dv rfl rfl rfl (Br 1 cr Dv λct=>?_);refine Bf (S':= [[],[(Y,.cells #[sV a1 p0.1 c2,sV aq aJ ar] 25 (0,0))],[],[(Z,.cells #[nS,nS] 25 (0,0))],[],[],cp]) rfl ct λbb=>zg 3 rfl (Al rfl (λρ h=>Fz (vs:= [sV a1 p0.1 c2,sV aq aJ ar]) Ci BC (h _ _ rfl) (Dh (off:=0) 1 bb rfl rfl)) ?_);refine Br 3 bb BC λcu=>?_;refine JL.done (BO 6 cq cu rfl λfe be cv cw=>?_);refine JS.drop 1 cw rfl λbf=>?_;obtain rfl:=oi co;refine JL.ret (v:= .agg #[sV a1 p0.1 c2,sV aq aJ ar]) rfl rfl (Bs.list func38 rfl (vs:= [.agg #[sV a1 p0.1 c2,sV aq aJ ar]]) ⟨⟨_,rfl,Ld.many (vs:= [sV a1 p0.1 c2,sV aq aJ ar]) Ci BC (Dh (off:=0) 3 bf rfl rfl)⟩,trivial⟩) (C5 3 bf rfl λcy=>?_);exact al ((K.Ad aT).Ad be) rfl ⟨a1,c2,aq,ar,rfl,rfl,(ac.Ag ((K.Ad aT).Ad be)),cv⟩ cy
  ·refine Take.Dx (pp:=Au) [.agg #[iV p1.1,iV p1.2.1,iV p1.2.2]] ([p1]:Ay) aQ rfl rfl rfl underlying23 A1 Bn (by decide) rfl rfl rfl ⟨⟨_,_,rfl,rfl,⟨_,_,rfl,rfl,rfl⟩⟩,trivial⟩ λff cz cA bg=>JG.one (i:=2) rfl (by decide+kernel) (Take.y0 (v:= sV O p0.2 U) rfl rfl rfl (λρ h=>Yl.load Hl (h _ _ rfl) (BS (j:=1) bg rfl rfl)) ?_);refine JG.one (i:=3) rfl (by decide+kernel) (Take.Jv (pp:=Au) 4 bg am rfl rfl rfl rfl rfl rfl rfl underlying23 underlying23 A1 (Ck type27) Bn rfl (by decide) (by decide) aR (ag.Ag K) rfl λfg fh fj cB cC cD=>?_);refine CE [6,7,8] (EA 4 rfl cD λcE=>?_);refine JS.drop 4 cE rfl λcF=>Bf (S':= [[],[(Y,.cells #[sV a1 p0.1 c2,sV O p0.2 U] 25 (0,0))],[],[(Z,.cells #[nS,nS] 25 (0,0))],[],cz,cB]) rfl cF λcG=>BO 5 cA cG rfl λfk aU cH cI=>?_;obtain⟨aK,cJ,cK⟩:=bs an;refine F3 (pp:=Au) 6 cJ rfl rfl rfl rfl rfl rfl rfl underlying23 underlying23 A1 (Ck type27) Bn rfl (by decide) (by decide) (cC.Ag aU) cH cI rfl λau av cM cN cO=>JL.fd underlying25 Dv rfl rfl rfl (Br 1 cO Dv λcP=>?_);refine Bf (S':= [[],[(Y,.cells #[sV a1 p0.1 c2,sV au aK av] 25 (0,0))],[],[(Z,.cells #[nS,nS] 25 (0,0))],[],[],cM]) rfl cP λbh=>zg 3 rfl (Al rfl (λρ h=>Fz (vs:= [sV a1 p0.1 c2,sV au aK av]) Ci BC (h _ _ rfl) (Dh (off:=0) 1 bh rfl rfl)) ?_);refine Br 3 bh BC λcQ=>?_;refine JL.done (BO 6 cN cQ rfl λfl bi cR cT=>?_);refine JS.drop 1 cT rfl λbj=>?_;obtain rfl:=oi cK;refine JL.ret (v:= .agg #[sV a1 p0.1 c2,sV au aK av]) rfl rfl (Bs.list func38 rfl (vs:= [.agg #[sV a1 p0.1 c2,sV au aK av]]) ⟨⟨_,rfl,Ld.many (vs:= [sV a1 p0.1 c2,sV au aK av]) Ci BC (Dh (off:=0) 3 bj rfl rfl)⟩,trivial⟩) (C5 3 bj rfl λcV=>?_);exact al ((K.Ad aU).Ad bi) rfl ⟨a1,c2,au,av,rfl,rfl,(ac.Ag ((K.Ad aU).Ad bi)),cR⟩ cV
 ·refine Take.y0 (v:= sV O p0.2 U) rfl rfl rfl (λρ h=>Yl.load Hl (h _ _ rfl) (BS (j:=1) aH rfl rfl)) (EP (i:=0) (j:=5) rfl (by decide+kernel) ?_ ?_)
  ·refine Take.L6 (pp:=Au) aH rfl rfl rfl underlying23 A1 λfm fo bl bm=>EP (i:=3) (j:=5) rfl (by decide+kernel) ?_ ?_
   ·refine Take.Jv (pp:=Au) 4 bm am rfl rfl rfl rfl rfl rfl rfl underlying23 underlying23 A1 (Ck type27) Bn rfl (by decide) (by decide) bl (ag.Ag K) rfl λfp fq fs cW cX cY=>JG.one (i:=5) rfl (by decide+kernel) (Take.Dx (pp:=Au) [.agg #[iV p1.1,iV p1.2.1,iV p1.2.2]] ([p1]:Ay) cY rfl rfl rfl underlying23 A1 Bn (by decide) rfl rfl rfl ⟨⟨_,_,rfl,rfl,⟨_,_,rfl,rfl,rfl⟩⟩,trivial⟩ λfu cZ c0 c1=>?_);refine CE [6,7,8] (EA 4 rfl c1 λc3=>?_);refine JS.drop 4 c3 rfl λc4=>Bf (S':= [[],[(Y,.cells #[sV a1 p0.1 c2,sV O p0.2 U] 25 (0,0))],[],[(Z,.cells #[nS,nS] 25 (0,0))],[],cZ,cW]) rfl c4 λc5=>BO 5 c0 c5 rfl λfv aV c6 c7=>?_;obtain⟨aL,c8,c9⟩:=bs an;refine F3 (pp:=Au) 6 c8 rfl rfl rfl rfl rfl rfl rfl underlying23 underlying23 A1 (Ck type27) Bn rfl (by decide) (by decide) (cX.Ag aV) c6 c7 rfl λaw ay da db dc=>JL.fd underlying25 Dv rfl rfl rfl (Br 1 dc Dv λdd=>?_);refine Bf (S':= [[],[(Y,.cells #[sV a1 p0.1 c2,sV aw aL ay] 25 (0,0))],[],[(Z,.cells #[nS,nS] 25 (0,0))],[],[],da]) rfl dd λbn=>zg 3 rfl (Al rfl (λρ h=>Fz (vs:= [sV a1 p0.1 c2,sV aw aL ay]) Ci BC (h _ _ rfl) (Dh (off:=0) 1 bn rfl rfl)) ?_);refine Br 3 bn BC λde=>?_;refine JL.done (BO 6 db de rfl λfw bo df dg=>?_);refine JS.drop 1 dg rfl λbp=>?_;obtain rfl:=oi c9;refine JL.ret (v:= .agg #[sV a1 p0.1 c2,sV aw aL ay]) rfl rfl (Bs.list func38 rfl (vs:= [.agg #[sV a1 p0.1 c2,sV aw aL ay]]) ⟨⟨_,rfl,Ld.many (vs:= [sV a1 p0.1 c2,sV aw aL ay]) Ci BC (Dh (off:=0) 3 bp rfl rfl)⟩,trivial⟩) (C5 3 bp rfl λdh=>?_);exact al ((K.Ad aV).Ad bo) rfl ⟨a1,c2,aw,ay,rfl,rfl,(ac.Ag ((K.Ad aV).Ad bo)),df⟩ dh
   ·refine Take.Dx (pp:=Au) [.agg #[iV p1.1,iV p1.2.1,iV p1.2.2]] ([p1]:Ay) bm rfl rfl rfl underlying23 A1 Bn (by decide) rfl rfl rfl ⟨⟨_,_,rfl,rfl,⟨_,_,rfl,rfl,rfl⟩⟩,trivial⟩ λfx di dj dk=>JG.one (i:=3) rfl (by decide+kernel) (Take.Jv (pp:=Au) 4 dk am rfl rfl rfl rfl rfl rfl rfl underlying23 underlying23 A1 (Ck type27) Bn rfl (by decide) (by decide) bl (ag.Ag K) rfl λfy fz fA dn dp dq=>?_);refine CE [6,7,8] (EA 4 rfl dq λdr=>?_);refine JS.drop 4 dr rfl λdt=>Bf (S':= [[],[(Y,.cells #[sV a1 p0.1 c2,sV O p0.2 U] 25 (0,0))],[],[(Z,.cells #[nS,nS] 25 (0,0))],[],di,dn]) rfl dt λdu=>BO 5 dj du rfl λfB aW dv dw=>?_;obtain⟨aM,dx,dy⟩:=bs an;refine F3 (pp:=Au) 6 dx rfl rfl rfl rfl rfl rfl rfl underlying23 underlying23 A1 (Ck type27) Bn rfl (by decide) (by decide) (dp.Ag aW) dv dw rfl λaz aA dz dA dB=>JL.fd underlying25 Dv rfl rfl rfl (Br 1 dB Dv λdC=>?_);refine Bf (S':= [[],[(Y,.cells #[sV a1 p0.1 c2,sV az aM aA] 25 (0,0))],[],[(Z,.cells #[nS,nS] 25 (0,0))],[],[],dz]) rfl dC λbq=>zg 3 rfl (Al rfl (λρ h=>Fz (vs:= [sV a1 p0.1 c2,sV az aM aA]) Ci BC (h _ _ rfl) (Dh (off:=0) 1 bq rfl rfl)) ?_);refine Br 3 bq BC λdD=>?_;refine JL.done (BO 6 dA dD rfl λfC br dE dF=>?_);refine JS.drop 1 dF rfl λbu=>?_;obtain rfl:=oi dy;refine JL.ret (v:= .agg #[sV a1 p0.1 c2,sV az aM aA]) rfl rfl (Bs.list func38 rfl (vs:= [.agg #[sV a1 p0.1 c2,sV az aM aA]]) ⟨⟨_,rfl,Ld.many (vs:= [sV a1 p0.1 c2,sV az aM aA]) Ci BC (Dh (off:=0) 3 bu rfl rfl)⟩,trivial⟩) (C5 3 bu rfl λdG=>?_);exact al ((K.Ad aW).Ad br) rfl ⟨a1,c2,az,aA,rfl,rfl,(ac.Ag ((K.Ad aW).Ad br)),dE⟩ dG
  ·refine Take.Dx (pp:=Au) [.agg #[iV p1.1,iV p1.2.1,iV p1.2.2]] ([p1]:Ay) aH rfl rfl rfl underlying23 A1 Bn (by decide) rfl rfl rfl ⟨⟨_,_,rfl,rfl,⟨_,_,rfl,rfl,rfl⟩⟩,trivial⟩ λfD dH dI dJ=>JG.one (i:=0) rfl (by decide+kernel) (Take.L6 (pp:=Au) dJ rfl rfl rfl underlying23 A1 λfE fF dK dL=>?_);refine JG.one (i:=3) rfl (by decide+kernel) (Take.Jv (pp:=Au) 5 dL am rfl rfl rfl rfl rfl rfl rfl underlying23 underlying23 A1 (Ck type27) Bn rfl (by decide) (by decide) dK (ag.Ag K) rfl λfG fH fI dM dN dO=>?_);refine CE [6,7,8] (EA 5 rfl dO λdQ=>?_);refine JS.drop 5 dQ rfl λdR=>Bf (S':= [[],[(Y,.cells #[sV a1 p0.1 c2,sV O p0.2 U] 25 (0,0))],[],[(Z,.cells #[nS,nS] 25 (0,0))],dH,[],dM]) rfl dR λdS=>BO 4 dI dS rfl λfJ aX dT dU=>?_;obtain⟨aN,dV,dW⟩:=bs an;refine F3 (pp:=Au) 6 dV rfl rfl rfl rfl rfl rfl rfl underlying23 underlying23 A1 (Ck type27) Bn rfl (by decide) (by decide) (dN.Ag aX) dT dU rfl λaB aC dX dY dZ=>JL.fd underlying25 Dv rfl rfl rfl (Br 1 dZ Dv λea=>?_);refine Bf (S':= [[],[(Y,.cells #[sV a1 p0.1 c2,sV aB aN aC] 25 (0,0))],[],[(Z,.cells #[nS,nS] 25 (0,0))],[],[],dX]) rfl ea λbv=>zg 3 rfl (Al rfl (λρ h=>Fz (vs:= [sV a1 p0.1 c2,sV aB aN aC]) Ci BC (h _ _ rfl) (Dh (off:=0) 1 bv rfl rfl)) ?_);refine Br 3 bv BC λeb=>?_;refine JL.done (BO 6 dY eb rfl λfK bw ec ed=>?_);refine JS.drop 1 ed rfl λbx=>?_;obtain rfl:=oi dW;refine JL.ret (v:= .agg #[sV a1 p0.1 c2,sV aB aN aC]) rfl rfl (Bs.list func38 rfl (vs:= [.agg #[sV a1 p0.1 c2,sV aB aN aC]]) ⟨⟨_,rfl,Ld.many (vs:= [sV a1 p0.1 c2,sV aB aN aC]) Ci BC (Dh (off:=0) 3 bx rfl rfl)⟩,trivial⟩) (C5 3 bx rfl λee=>?_);exact al ((K.Ad aX).Ad bw) rfl ⟨a1,c2,aB,aC,rfl,rfl,(ac.Ag ((K.Ad aX).Ad bw)),ec⟩ ee
 ·refine Take.Dx (pp:=Au) [.agg #[iV p1.1,iV p1.2.1,iV p1.2.2]] ([p1]:Ay) aH rfl rfl rfl underlying23 A1 Bn (by decide) rfl rfl rfl ⟨⟨_,_,rfl,rfl,⟨_,_,rfl,rfl,rfl⟩⟩,trivial⟩ λfL bz bA aY=>EP (i:=0) (j:=2) rfl (by decide+kernel) ?_ ?_
  ·refine Take.L6 (pp:=Au) aY rfl rfl rfl underlying23 A1 λfM fN ef bB=>JG.one (i:=2) rfl (by decide+kernel) (Take.y0 (v:= sV O p0.2 U) rfl rfl rfl (λρ h=>Yl.load Hl (h _ _ rfl) (BS (j:=1) bB rfl rfl)) ?_);refine JG.one (i:=3) rfl (by decide+kernel) (Take.Jv (pp:=Au) 5 bB am rfl rfl rfl rfl rfl rfl rfl underlying23 underlying23 A1 (Ck type27) Bn rfl (by decide) (by decide) ef (ag.Ag K) rfl λfO fP fQ eg eh ei=>?_);refine CE [6,7,8] (EA 5 rfl ei λej=>?_);refine JS.drop 5 ej rfl λek=>Bf (S':= [[],[(Y,.cells #[sV a1 p0.1 c2,sV O p0.2 U] 25 (0,0))],[],[(Z,.cells #[nS,nS] 25 (0,0))],bz,[],eg]) rfl ek λel=>BO 4 bA el rfl λfR aZ em en=>?_;obtain⟨aO,eo,ep⟩:=bs an;refine F3 (pp:=Au) 6 eo rfl rfl rfl rfl rfl rfl rfl underlying23 underlying23 A1 (Ck type27) Bn rfl (by decide) (by decide) (eh.Ag aZ) em en rfl λaD aE er et eu=>JL.fd underlying25 Dv rfl rfl rfl (Br 1 eu Dv λew=>?_);refine Bf (S':= [[],[(Y,.cells #[sV a1 p0.1 c2,sV aD aO aE] 25 (0,0))],[],[(Z,.cells #[nS,nS] 25 (0,0))],[],[],er]) rfl ew λbC=>zg 3 rfl (Al rfl (λρ h=>Fz (vs:= [sV a1 p0.1 c2,sV aD aO aE]) Ci BC (h _ _ rfl) (Dh (off:=0) 1 bC rfl rfl)) ?_);refine Br 3 bC BC λex=>?_;refine JL.done (BO 6 et ex rfl λfS bD ey ez=>?_);refine JS.drop 1 ez rfl λbE=>?_;obtain rfl:=oi ep;refine JL.ret (v:= .agg #[sV a1 p0.1 c2,sV aD aO aE]) rfl rfl (Bs.list func38 rfl (vs:= [.agg #[sV a1 p0.1 c2,sV aD aO aE]]) ⟨⟨_,rfl,Ld.many (vs:= [sV a1 p0.1 c2,sV aD aO aE]) Ci BC (Dh (off:=0) 3 bE rfl rfl)⟩,trivial⟩) (C5 3 bE rfl λeA=>?_);exact al ((K.Ad aZ).Ad bD) rfl ⟨a1,c2,aD,aE,rfl,rfl,(ac.Ag ((K.Ad aZ).Ad bD)),ey⟩ eA
  ·refine Take.y0 (v:= sV O p0.2 U) rfl rfl rfl (λρ h=>Yl.load Hl (h _ _ rfl) (BS (j:=1) aY rfl rfl)) (JG.one (i:=0) rfl (by decide+kernel) ?_);refine Take.L6 (pp:=Au) aY rfl rfl rfl underlying23 A1 λfT fU eB eC=>JG.one (i:=3) rfl (by decide+kernel) (Take.Jv (pp:=Au) 5 eC am rfl rfl rfl rfl rfl rfl rfl underlying23 underlying23 A1 (Ck type27) Bn rfl (by decide) (by decide) eB (ag.Ag K) rfl λfW fX fY eD eE eF=>?_);refine CE [6,7,8] (EA 5 rfl eF λeG=>?_);refine JS.drop 5 eG rfl λeH=>Bf (S':= [[],[(Y,.cells #[sV a1 p0.1 c2,sV O p0.2 U] 25 (0,0))],[],[(Z,.cells #[nS,nS] 25 (0,0))],bz,[],eD]) rfl eH λeI=>BO 4 bA eI rfl λfZ a0 eJ eK=>?_;obtain⟨aP,eL,eM⟩:=bs an;refine F3 (pp:=Au) 6 eL rfl rfl rfl rfl rfl rfl rfl underlying23 underlying23 A1 (Ck type27) Bn rfl (by decide) (by decide) (eE.Ag a0) eJ eK rfl λaF aG eN eO eP=>JL.fd underlying25 Dv rfl rfl rfl (Br 1 eP Dv λeQ=>?_);refine Bf (S':= [[],[(Y,.cells #[sV a1 p0.1 c2,sV aF aP aG] 25 (0,0))],[],[(Z,.cells #[nS,nS] 25 (0,0))],[],[],eN]) rfl eQ λbF=>zg 3 rfl (Al rfl (λρ h=>Fz (vs:= [sV a1 p0.1 c2,sV aF aP aG]) Ci BC (h _ _ rfl) (Dh (off:=0) 1 bF rfl rfl)) ?_);refine Br 3 bF BC λeR=>?_;refine JL.done (BO 6 eO eR rfl λga bG eS eT=>?_);refine JS.drop 1 eT rfl λbH=>?_;obtain rfl:=oi eM;refine JL.ret (v:= .agg #[sV a1 p0.1 c2,sV aF aP aG]) rfl rfl (Bs.list func38 rfl (vs:= [.agg #[sV a1 p0.1 c2,sV aF aP aG]]) ⟨⟨_,rfl,Ld.many (vs:= [sV a1 p0.1 c2,sV aF aP aG]) Ci BC (Dh (off:=0) 3 bH rfl rfl)⟩,trivial⟩) (C5 3 bH rfl λeU=>?_);exact al ((K.Ad a0).Ad bG) rfl ⟨a1,c2,aF,aG,rfl,rfl,(ac.Ag ((K.Ad a0).Ad bG)),eS⟩ eU
end Pal
namespace Pal
open Go Go.Conc Go.Proofs
open Go.Proofs.Tryz
variable {J:Judge Tryz.prog}{E:LH}
end Pal
namespace Pal
open Go Go.Conc Go.Proofs
open Go.Proofs.Tryz
end Pal
namespace Pal
open Go Go.Conc Go.Proofs
open Go.Proofs.Tryz
variable {J:Judge Tryz.prog}{E:LH}
def f35(fu_:Nat)(p0:A5)(p1:A5):Option Bool:= (f43 fu_ p0).bind λK=> (f43 fu_ p1).bind λO=> (f22 fu_ p0).bind λU=> (f22 fu_ p1).bind λY=> (f24 fu_ p0).bind λZ=> (f24 fu_ p1).bind λac=> Option.bind (if K.2=0 then(some (decide (O.2=0))) else(some false)) λag=> Option.bind (if ag=true then(some (decide (U.2=0))) else(some false)) λal=> Option.bind (if al=true then(some (decide (Y.2=0))) else(some false)) λam=> Option.bind (if am=true then(some (decide (Z.2=0))) else(some false)) λan=> Option.bind (if an=true then(some (decide (ac.2=0))) else(some false)) λao=> Option.bind (if ao=true then(some (decide (Z.1=ac.1))) else(some false)) λap=> Option.bind (if ap=true then((f29 fu_ K.1 O.1).bind λaq=> some aq) else(some false)) λar=> Option.bind (if ar=true then((f26 fu_ U.1 Y.1).bind λau=> some au) else(some false)) λav=> some av
theorem ZW{a1:An}{c2:Nat}{aQ:An}{aR:Nat}{aS:An}{aT:Nat}{aU:An}{aV:Nat}{p0:A5}{p1:A5}(aJ:Am (rL rI) E a1 c2 p0.1)(aK:Am Au E aQ aR p0.2)(aL:Am (rL rI) E aS aT p1.1)(aM:Am Au E aU aV p1.2){fu_:Nat}{r:Bool}(aW:f35 fu_ p0 p1=some r):AR J 35 [.agg #[sV a1 p0.1 c2,sV aQ p0.2 aR],.agg #[sV aS p1.1 aT,sV aU p1.2 aV]] E [] (λw E' B'=>w= .bool r/\B'= []):=by
 refine Bi func35 λQ cM cs H bg bh=>?_;unfold f35 at aW;refine zg 2 rfl (Dp bg λcN cO Y aN bi=>?_);refine Dp bi λcP cQ K aO bj=>?_;refine zg 4 rfl (Cd (aN.Ag K) Ci BC rfl rfl ?_);obtain⟨av,bl,bm⟩:=bs aW;refine BX (PF (aJ.Ag (Y.Ad K)) (aK.Ag (Y.Ad K)) bl) rfl rfl Oa bj ?_;rintro _ cR _ O ⟨aw,ay,rfl,rfl,bn⟩ bo;refine zg 8 rfl (Cd (aO.Ag O) Ci BC rfl rfl ?_);obtain⟨az,bp,bq⟩:=bs bm;refine BX (PF (aL.Ag ((Y.Ad K).Ad O)) (aM.Ag ((Y.Ad K).Ad O)) bp) rfl rfl Oa bo ?_;rintro _ cT _ U ⟨aA,aB,rfl,rfl,br⟩ bu;refine zg 8 rfl (Cd (aN.Ag ((K.Ad O).Ad U)) Ci BC rfl rfl ?_);obtain⟨am,bv,bw⟩:=bs bq;refine BX (P0 (aJ.Ag (((Y.Ad K).Ad O).Ad U)) (aK.Ag (((Y.Ad K).Ad O).Ad U)) bv) rfl rfl Od bu ?_;rintro _ cV _ Z ⟨ap,aq,rfl,rfl,bx⟩ bz;refine zg 8 rfl (Cd (aO.Ag ((O.Ad U).Ad Z)) Ci BC rfl rfl ?_);obtain⟨ag,bA,bB⟩:=bs bw;refine BX (P0 (aL.Ag ((((Y.Ad K).Ad O).Ad U).Ad Z)) (aM.Ag ((((Y.Ad K).Ad O).Ad U).Ad Z)) bA) rfl rfl Od bz ?_;rintro _ cW _ ac ⟨ar,au,rfl,rfl,bC⟩ bD;refine zg 8 rfl (Cd (aN.Ag ((((K.Ad O).Ad U).Ad Z).Ad ac)) Ci BC rfl rfl ?_);obtain⟨an,bE,bF⟩:=bs bB;refine CG (PM (aJ.Ag (((((Y.Ad K).Ad O).Ad U).Ad Z).Ad ac)) (aK.Ag (((((Y.Ad K).Ad O).Ad U).Ad Z).Ad ac)) bE) rfl rfl Oh bD λcX ao bG=>zg 8 rfl (Cd (aO.Ag ((((O.Ad U).Ad Z).Ad ac).Ad ao)) Ci BC rfl rfl ?_);obtain⟨al,bH,bI⟩:=bs bF;refine CG (PM (aL.Ag ((((((Y.Ad K).Ad O).Ad U).Ad Z).Ad ac).Ad ao)) (aM.Ag ((((((Y.Ad K).Ad O).Ad U).Ad Z).Ad ac).Ad ao)) bH) rfl rfl Oh bG λcY aC aX=>?_;obtain⟨bJ,bK,bL⟩:=bs bI;refine zg 11 rfl (Es 6 32 [] [(5,sV aw av.1 ay),(7,sV aA az.1 aB),(9,sV ap am.1 aq),(10,iV am.2),(11,sV ar ag.1 au),(12,iV ag.2),(13,iV an.1),(14,iV an.2),(15,iV al.1),(16,iV al.2),(52,.bool bJ)] (λcZ aD aY=>?_) (λaZ=>?_))
 ·obtain⟨bM,bN,bO⟩:=bs bL;refine zg 1 rfl (Es 10 28 [] [(5,sV aw av.1 ay),(7,sV aA az.1 aB),(9,sV ap am.1 aq),(11,sV ar ag.1 au),(12,iV ag.2),(13,iV an.1),(14,iV an.2),(15,iV al.1),(16,iV al.2),(56,.bool bM)] (λc0 aE a0=>?_) (λa2=>?_))
  ·obtain⟨bP,bQ,bR⟩:=bs bO;refine zg 1 rfl (Es 14 24 [] [(5,sV aw av.1 ay),(7,sV aA az.1 aB),(9,sV ap am.1 aq),(11,sV ar ag.1 au),(13,iV an.1),(14,iV an.2),(15,iV al.1),(16,iV al.2),(60,.bool bP)] (λc1 aF a3=>?_) (λa4=>?_))
   ·obtain⟨bS,bT,bU⟩:=bs bR;refine zg 1 rfl (Es 18 20 [] [(5,sV aw av.1 ay),(7,sV aA az.1 aB),(9,sV ap am.1 aq),(11,sV ar ag.1 au),(13,iV an.1),(15,iV al.1),(16,iV al.2),(64,.bool bS)] (λc3 aG a5=>?_) (λa6=>?_))
    ·obtain⟨bV,bW,bY⟩:=bs bU;refine zg 1 rfl (Es 22 16 [] [(5,sV aw av.1 ay),(7,sV aA az.1 aB),(9,sV ap am.1 aq),(11,sV ar ag.1 au),(13,iV an.1),(15,iV al.1),(68,.bool bV)] (λc4 aH a7=>?_) (λa8=>?_))
     ·obtain⟨bZ,b0,b1⟩:=bs bY;refine zg 1 rfl (Es 27 11 [] [(5,sV aw av.1 ay),(7,sV aA az.1 aB),(9,sV ap am.1 aq),(11,sV ar ag.1 au),(73,.bool bZ)] (λc5 aI a9=>?_) (λba=>?_))
      ·obtain⟨b2,b3,b4⟩:=bs b1;refine zg 1 rfl (Es 32 6 [] [(9,sV ap am.1 aq),(11,sV ar ag.1 au),(78,.bool b2)] (λc6 aP bb=>?_) (λbe=>?_))
       ·obtain⟨b5,b6,b7⟩:=bs b4;refine zg 1 rfl (Es 37 1 [] [(83,.bool b5)] (λc7 b8 b9=>?_) (λbf=>?_))
        ·refine zg 2 rfl ?_;obtain rfl:=oi b7;exact A3 func35 rfl rfl (bh (((((((((((((((Y.Ad K).Ad O).Ad U).Ad Z).Ad ac).Ad ao).Ad aC).Ad aD).Ad aE).Ad aF).Ad aG).Ad aH).Ad aI).Ad aP).Ad b8) rfl ⟨rfl,rfl⟩ b9)
        ·refine DX 79 b6 (λca cb=>?_) (λca cc=>?_)
         ·obtain⟨c8,cd,ce⟩:=bs cb;refine zg 2 rfl (CG (PW (bx.Ag (((((((((ac.Ad ao).Ad aC).Ad aD).Ad aE).Ad aF).Ad aG).Ad aH).Ad aI).Ad aP)) (bC.Ag ((((((((ao.Ad aC).Ad aD).Ad aE).Ad aF).Ad aG).Ad aH).Ad aI).Ad aP)) cd) rfl rfl Of bb λc9 cf cg=>?_);refine zg 1 rfl ?_;obtain rfl:=oi ce;exact bf cf cg rfl
         ·refine zg 4 rfl ?_;obtain rfl:=oi cc;exact bf Az bb rfl
       ·refine DX 74 b3 (λci ck=>?_) (λci cm=>?_)
        ·obtain⟨da,cn,co⟩:=bs ck;refine zg 2 rfl (CG (LZ (bn.Ag ((((((((((U.Ad Z).Ad ac).Ad ao).Ad aC).Ad aD).Ad aE).Ad aF).Ad aG).Ad aH).Ad aI)) (br.Ag (((((((((Z.Ad ac).Ad ao).Ad aC).Ad aD).Ad aE).Ad aF).Ad aG).Ad aH).Ad aI)) cn) rfl rfl Ln a9 λdb cp cq=>?_);refine zg 1 rfl ?_;obtain rfl:=oi co;exact be cp cq rfl
        ·refine zg 4 rfl ?_;obtain rfl:=oi cm;exact be Az a9 rfl
      ·refine DX 69 b0 (λcr ct=>?_) (λcr cu=>?_)
       ·refine zg 4 rfl ?_;obtain rfl:=oi ct;exact ba Az a7 rfl
       ·refine zg 4 rfl ?_;obtain rfl:=oi cu;exact ba Az a7 rfl
     ·refine DX 65 bW (λcv cw=>?_) (λcv cy=>?_)
      ·refine zg 3 rfl ?_;obtain rfl:=oi cw;exact a8 Az a5 rfl
      ·refine zg 3 rfl ?_;obtain rfl:=oi cy;exact a8 Az a5 rfl
    ·refine DX 61 bT (λcz cA=>?_) (λcz cB=>?_)
     ·refine zg 3 rfl ?_;obtain rfl:=oi cA;exact a6 Az a3 rfl
     ·refine zg 3 rfl ?_;obtain rfl:=oi cB;exact a6 Az a3 rfl
   ·refine DX 57 bQ (λcC cD=>?_) (λcC cE=>?_)
    ·refine zg 3 rfl ?_;obtain rfl:=oi cD;exact a4 Az a0 rfl
    ·refine zg 3 rfl ?_;obtain rfl:=oi cE;exact a4 Az a0 rfl
  ·refine DX 53 bN (λcF cG=>?_) (λcF cH=>?_)
   ·refine zg 3 rfl ?_;obtain rfl:=oi cG;exact a2 Az aY rfl
   ·refine zg 3 rfl ?_;obtain rfl:=oi cH;exact a2 Az aY rfl
 ·refine I9 49 bK (λcI cJ=>?_) (λcI cK=>?_)
  ·refine zg 3 rfl ?_;obtain rfl:=oi cJ;exact aZ Az aX rfl
  ·refine zg 3 rfl ?_;obtain rfl:=oi cK;exact aZ Az aX rfl
def f5(fu_:Nat)(p0:List Int):Option Bool:= (f20 fu_ p0).bind λag=> (f31 fu_ ag 5 5).bind λK=> (Ax ((K.1.1.length:Int) - 1)).bind λal=> (f36 fu_ K.2 al).bind λO=> (f37 fu_ O.2 1 9).bind λU=> (Ax ((K.1.1.length:Int) - 1)).bind λam=> (f37 fu_ U.2 1 am).bind λac=> (Ax (O.1+ac.1)).bind λan=> (JH an ((K.1.1.length:Int))).bind λY=> (Ax ((K.1.1.length:Int) - 1)).bind λao=> (f37 fu_ ac.2 1 ao).bind λap=> (Ax (Y+ap.1)).bind λaq=> (JH aq ((K.1.1.length:Int))).bind λZ=> (f38 fu_ K.1 (O.1,Y,U.1)).bind λar=> (f38 fu_ ar (Y,Z,U.1)).bind λau=> Option.bind (if O.1≠Z then((f38 fu_ K.1 (O.1,Z,U.1)).bind λav=> some av) else(some K.1)) λaw=> (f35 fu_ au aw).bind λay=> Option.bind (if ay=true then((f18 fu_).bind λaz=> some az) else(some false)) λaA=> some aA
theorem Ye{E H:LH}{a1:An}{c2:Nat}{p0:List Int}(aV:Am rI E a1 c2 p0){fu_:Nat}{r:Bool}(aJ:f5 fu_ p0=some r):(GC Tryz.prog).ok (LK Tryz.prog (λv _=>v= .bool r)) (G (Frame.enter Tryz.prog 5 ([sV a1 p0 c2]:Lv_).toArray .normal) []) (mk E H []):=by
 refine VJ func5 rfl rfl (Nat.le_of_ble_eq_true rfl) ?_;have aW:Ap E H [[]]:=trivial;unfold f5 at aJ;obtain⟨cO,aX,aY⟩:=bs aJ;refine zg 7 rfl (BX (ZA aV aX) rfl rfl (Ba func20 rfl) aW ?_);rintro _ cP _ cQ ⟨ap,cR,cT,rfl,rfl,aZ⟩ a0;obtain⟨aq,a2,a3⟩:=bs aY;refine zg 5 rfl (Ce 1 (ZV aZ a2) rfl rfl (Ba func31 rfl) a0 rfl ?_);rintro _ cV _ cW ⟨aK,aL,aM,aN,a4,a5,rfl,rfl,aE,aF,a6⟩ a7;refine BU a7 HR λa8 a9=>?_;refine Bf (S':= [[],[(ap,.cells #[sV a4 aq.2.1 a5,iV aq.2.2.1,.int .u64 ((aq.2.2.2:Nat):Int)] 74 (0,0))],[(a8,.cells #[nS,nS] 25 (0,0))]]) rfl a9 λba=>Br 2 ba BC λbb=>?_;refine DG 2 bb rfl λcX am aA be=>zg 3 rfl (Cf 0 aA underlying25 FL FZ ?_);refine JL.ln underlying22 rfl rfl rfl ?_;obtain⟨cY,bf,bg⟩:=bs a3;refine zg 6 rfl (Ca bf rfl rfl rfl ?_);obtain⟨aB,bh,bi⟩:=bs bg;refine Ce 1 (Kf (a6.Ag am) bh) rfl rfl JZ be rfl ?_;rintro _ cZ _ K ⟨c0,c1,rfl,rfl,bj⟩ bl;obtain⟨O,bm,bn⟩:=bs bi;refine zg 1 rfl (Ce 1 (K7 bj bm) rfl rfl Kz bl rfl ?_);rintro _ c3 _ U ⟨bo,bp,rfl,rfl,bq⟩ br;refine Bf (S':= [[],[(ap,.cells #[sV bo O.2.1 bp,iV O.2.2.1,.int .u64 ((O.2.2.2:Nat):Int)] 74 (0,0))],[]]) rfl br λbu=>?_;obtain⟨c4,bv,bw⟩:=bs bn;refine zg 8 rfl (Ca bv rfl rfl rfl ?_);obtain⟨c5,bx,bz⟩:=bs bw;refine Ce 1 (K7 bq bx) rfl rfl Kz bu rfl ?_;rintro _ c6 _ Y ⟨c7,c8,rfl,rfl,bA⟩ bB;obtain⟨c9,bC,bD⟩:=bs bz;refine Bt bC rfl rfl rfl ?_;obtain⟨ar,bE,bF⟩:=bs bD;refine zg 1 rfl (Al (v:=iV ar) rfl (λρ h=>Pa (h _ _ rfl) (h _ _ rfl) bE) ?_);obtain⟨da,bG,bH⟩:=bs bF;refine zg 7 rfl (Ca bG rfl rfl rfl ?_);obtain⟨Z,bI,bJ⟩:=bs bH;refine Ce 1 (K7 bA bI) rfl rfl Kz bB rfl ?_;rintro _ db _ ac ⟨aG,aH,rfl,rfl,dc⟩ bK;obtain⟨dd,bL,bM⟩:=bs bJ;refine Bt bL rfl rfl rfl ?_;obtain⟨au,bN,bO⟩:=bs bM;refine zg 1 rfl (Al (v:=iV au) rfl (λρ h=>Pa (h _ _ rfl) (h _ _ rfl) bN) ?_);refine zg 4 rfl (Cd (aA.Ag (((K.Ad U).Ad Y).Ad ac)) Ci BC rfl rfl ?_);refine zg 3 rfl (Al (v:= .agg #[iV aB.1,iV ar,iV O.1]) rfl (λρ h=>CY [(0,1),(1,1),(2,1)] h Bn underlying27 ⟨rfl,AM type3,rfl,AM type3,rfl,AM type3,trivial⟩ rfl rfl) ?_);obtain⟨de,bP,bQ⟩:=bs bO;refine BX (PH (aE.Ag ((((am.Ad K).Ad U).Ad Y).Ad ac)) (aF.Ag ((((am.Ad K).Ad U).Ad Y).Ad ac)) (p1:=(aB.1,ar,O.1)) bP) rfl rfl Oe bK ?_;rintro _ df _ an ⟨dg,dh,di,dj,rfl,rfl,bR,bS⟩ bT;refine Bf (S':= [[],[(ap,.cells #[sV aG Z.2.1 aH,iV Z.2.2.1,.int .u64 ((Z.2.2.2:Nat):Int)] 74 (0,0))],[],[]]) rfl bT λbU=>zg 3 rfl (Al (v:= .agg #[iV ar,iV au,iV O.1]) rfl (λρ h=>CY [(0,1),(1,1),(2,1)] h Bn underlying27 ⟨rfl,AM type3,rfl,AM type3,rfl,AM type3,trivial⟩ rfl rfl) ?_);obtain⟨dk,bV,bW⟩:=bs bQ;refine BX (PH bR bS (p1:=(ar,au,O.1)) bV) rfl rfl Oe bU ?_;rintro _ dn _ ao ⟨dp,dq,dr,dt,rfl,rfl,bY,bZ⟩ b0;refine BU b0 HR λb1 b2=>?_;refine Br 5 b2 BC λb3=>?_;refine DG 5 b3 rfl λaO ag b4 b5=>Bf (S':= [[],[(ap,.cells #[sV aG Z.2.1 aH,iV Z.2.2.1,.int .u64 ((Z.2.2.2:Nat):Int)] 74 (0,0))],[],[],[],[]]) rfl b5 λb6=>zg 3 rfl (Cd (aA.Ag ((((((K.Ad U).Ad Y).Ad ac).Ad an).Ad ao).Ad ag)) Ci BC rfl rfl ?_);refine BU b6 HR λaC b7=>?_;refine Br 6 b7 BC λaP=>?_;obtain⟨al,b8,b9⟩:=bs bW;refine zg 8 rfl (Bw (λL s=>∃(aD:LH) (av:An) (aw:Nat) (ay:An) (az:Nat),Jn aO H aD [bX aC #[sV av al.1 aw,sV ay al.2 az] 25] [(10,Ak b1 0),(11,Ak aC 0)] L s (Am (rL rI) aD av aw al.1/\Am Au aD ay az al.2)) ?_ ?_)
 ·rintro _ _ ⟨aD,av,aw,ay,az,rfl,rfl,aI,aQ,ca,cb⟩;refine zg 2 rfl (Cd (b4.Ag aI) Ci BC rfl rfl ?_);refine Al rfl (λρ h=>Fz (vs:= [sV av al.1 aw,sV ay al.2 az]) Ci BC (h _ _ rfl) (Dh (off:=0) 0 aQ rfl rfl)) ?_;obtain⟨du,cc,cd⟩:=bs b9;refine CG (ZW (bY.Ag (ag.Ad aI)) (bZ.Ag (ag.Ad aI)) ca cb cc) rfl rfl (Ba func35 rfl) aQ λdv dw ce=>Bf (S':= [[(aC,.cells #[sV av al.1 aw,sV ay al.2 az] 25 (0,0))],[]]) rfl ce λaR=>?_;obtain⟨aS,cf,cg⟩:=bs cd;refine zg 1 rfl (Es 6 1 [] [(67,.bool aS)] (λdx dy dz=>?_) (λaT=>?_))
  ·refine zg 2 rfl ?_;obtain rfl:=oi cg;exact IV rfl (JO.end (v:= .bool aS) rfl (by decide+kernel) func5 rfl rfl rfl)
  ·refine DX 65 cf (λci ck=>?_) (λci cm=>?_)
   ·obtain⟨dA,cn,co⟩:=bs ck;refine CG (ZN cn) rfl rfl (Ba func18 rfl) aR λdB cp cq=>zg 1 rfl (JS.drop 0 cq rfl λcr=>?_);obtain rfl:=oi co;exact aT cp cr rfl
   ·refine zg 2 rfl (JS.drop 0 aR rfl λct=>?_);obtain rfl:=oi cm;exact aT Az ct rfl
 ·intro aU;refine A2 b8 (λcu cv=>?_) (λcu cw=>?_)
  ·refine JL.region (Cd (aA.Ag ((((((K.Ad U).Ad Y).Ad ac).Ad an).Ad ao).Ad ag)) Ci BC rfl rfl ?_);refine zg 3 rfl (Al (v:= .agg #[iV aB.1,iV au,iV O.1]) rfl (λρ h=>CY [(0,1),(1,1),(2,1)] h Bn underlying27 ⟨rfl,AM type3,rfl,AM type3,rfl,AM type3,trivial⟩ rfl rfl) ?_);obtain⟨dC,cy,cz⟩:=bs cv;refine BX (PH (aE.Ag (((((((am.Ad K).Ad U).Ad Y).Ad ac).Ad an).Ad ao).Ad ag)) (aF.Ag (((((((am.Ad K).Ad U).Ad Y).Ad ac).Ad an).Ad ao).Ad ag)) (p1:=(aB.1,au,O.1)) cy) rfl rfl Oe aP ?_;rintro _ cA _ cB ⟨cC,cD,cE,cF,rfl,rfl,cG,cH⟩ cI;refine Bf (S':= [[],[(ap,.cells #[sV aG Z.2.1 aH,iV Z.2.2.1,.int .u64 ((Z.2.2.2:Nat):Int)] 74 (0,0))],[],[],[],[],[(aC,.cells #[sV aK aq.1.1 aL,sV aM aq.1.2 aN] 25 (0,0))],[]]) rfl cI λcJ=>Br 6 cJ BC λcK=>?_;refine JL.done (JS.drop 1 cK rfl λcM=>?_);obtain rfl:=oi cz;exact AE (aU _ _ ⟨cA,cC,cD,cE,cF,rfl,rfl,cB,cM,cG,cH⟩) rfl
  ·refine JL.skip (JS.drop 1 aP rfl λcN=>?_);obtain rfl:=oi cw;exact AE (aU _ _ ⟨aO,aK,aL,aM,aN,rfl,rfl,Az,cN,(aE.Ag (((((((am.Ad K).Ad U).Ad Y).Ad ac).Ad an).Ad ao).Ad ag)),(aF.Ag (((((((am.Ad K).Ad U).Ad Y).Ad ac).Ad an).Ad ao).Ad ag))⟩) rfl
end Pal
namespace Pal
def BL{α:Type}(o:Option α)(Q:α->Prop):Prop:=∃a,o=some a/\Q a
section
variable {α β:Type}{Q R:α->Prop}
theorem AG{a:α}(h:Q a):BL (some a) Q:=⟨a,rfl,h⟩
theorem BL.Ag{o:Option α}(h:BL o R)(k:∀a,R a->Q a):BL o Q:=let ⟨a,K,O⟩:=h;⟨a,K,k a O⟩
theorem BA{o:Option β}{f:β->Option α}{S:β->Prop}(h:BL o S)(k:∀b,S b->BL (f b) Q):BL (o.bind f) Q:=by
 obtain⟨b,rfl,hb⟩:=h;obtain⟨a,K,O⟩:=k b hb;exact⟨a,K,O⟩
theorem Bz{o:Option β}{f:β->Option α}{b:β}(h:o=some b)(k:BL (f b) Q):BL (o.bind f) Q:=by subst h;exact k
theorem BL.aj{f:Int->Option α}{x:Int}(K: -9223372036854775808<=x)(O:x<=9223372036854775807)(k:BL (f x) Q):BL ((Ax x).bind f) Q:=Bz (if_pos ⟨K,O⟩) k
theorem K1{xs:List β}{i:Int}{m:Nat}{b:β}(h:i=(m:Int))(hb:xs[m]? =some b):ix xs i=some b:=by subst h;simpa [ix] using hb
theorem Eo{f:β->Option α}{xs:List β}{i:Int}{m:Nat}(h:i=(m:Int))(hm:m<xs.length)(k:BL (f xs[m]) Q):BL ((ix xs i).bind f) Q:=Bz (K1 h (List.getElem?_eq_getElem hm)) k
theorem Lz{f:List β->Option α}{xs:List β}{x:β}(h:xs.length+1<=2 ^ 40)(k:BL (f (xs++ [x])) Q):BL ((room xs x).bind f) Q:=Bz (if_pos h) k
theorem Di{c:Prop} [Decidable c] {x y:Option α}(K:c->BL x Q)(O:¬c->BL y Q):BL (if c then x else y) Q:=by
 by_cases h:c
 ·rw [if_pos h];exact K h
 ·rw [if_neg h];exact O h
theorem Dj{c:Prop} [Decidable c] {x y:Option α}(h:c)(k:BL x Q):BL (if c then x else y) Q:=by rw [if_pos h];exact k
theorem CW{c:Prop} [Decidable c] {x y:Option α}(h:¬c)(k:BL y Q):BL (if c then x else y) Q:=by rw [if_neg h];exact k
def Bp.sat{S A:Type}(I:S->Prop)(Q:A->Prop):Bp S A->Prop
 | .more s=>I s
 | .done a=>Q a
theorem OS{S:Type}{body:S->Option (Bp S α)}(I:Nat->S->Prop)(round:∀m s,I m s->BL (body s) (Bp.sat (λs'=>∃m',m'<m/\I m' s') Q)):
  ∀{m fuel:Nat} {s:S},I m s->m<fuel->BL (iter body fuel s) Q:=by
 intro m
 induction m using Nat.strongRecOn with
 | _ m O=>
  intro fuel s U ag;obtain⟨fuel,rfl⟩:∃k,fuel=k+1:=⟨fuel - 1,by omega⟩;obtain⟨st,Y,K⟩:=round m s U;unfold Pal.iter;rw [Y];cases st with
  | more s'=>
   obtain⟨m',Z,ac⟩:=K;exact O m' Z ac (by omega)
  | done a=>exact⟨a,rfl,K⟩
end
end Pal
namespace Pal
theorem Fh{S A:Type}{body:S->Option (Bp S A)}{Q:A->Prop}{K:S}{F:Nat}(n:Nat)(I:Nat->S->Prop)(Y:I 0 K)(ac:n<F)
  (round:∀i s,i<n->I i s->BL (body s) (Bp.sat (I (i+1)) Q)) (last:∀s,I n s->BL (body s) (λst=>∃a,st= .done a/\Q a)):BL (Pal.iter body F K) Q:=by
 refine OS (λm s=>∃i,i<=n/\m=n - i/\I i s) ?_ (m:=n - 0) ⟨0,Nat.zero_le _,rfl,Y⟩ (by omega);rintro m s ⟨i,hi,rfl,O⟩;rcases Nat.lt_or_ge i n with Z | ag
 ·refine(round i s Z O).Ag ?_;intro st U;cases st with
  | more s'=>exact⟨n - (i+1),by omega,i+1,by omega,rfl,U⟩
  | done a=>exact U
 ·obtain rfl:i=n:=by omega
  refine(last s O).Ag ?_;rintro st ⟨a,rfl,h⟩;exact h
theorem EJ{α:Type}{o:Option α}{a:α}(h:BL o (λx=>x=a)):o=some a:=by obtain⟨x,K,rfl⟩:=h;exact K
theorem BP{α:Type}{Q:α->Prop}{f:Int->Option α}{x:Int}(y:Int)(h:x=y)(K: -9223372036854775808<=y)(O:y<=9223372036854775807)(k:BL (f y) Q):BL ((Ax x).bind f) Q:=by subst h;exact BL.aj K O k
theorem BL.Lk{α β:Type}{Q:α->Prop}{f:List β->Option α}{xs ys:List β}(h:xs.length+ys.length<1000)(k:BL (f (xs++ys)) Q):BL ((Dr xs ys).bind f) Q:=Bz (by unfold Dr;rw [if_pos (by omega)]) k
abbrev Jc:=List Int×Int×Nat
def BG(k:Nat)(b:Jc):Prop:=0<=b.2.1/\b.2.1<=(k:Int)
theorem BG.Ag{k k':Nat}{b:Jc}(h:BG k b)(K:k<=k'):BG k' b:=⟨h.1,by have:=h.2;omega⟩
theorem Y1{F k:Nat}{b:Jc}(hb:BG k b)(K:k<1000000):BL (f83 F b) (λr=>r.1<2 ^ 64/\BG (k+1) r.2):=by
 obtain⟨O,U⟩:=hb;unfold f83;refine BP (b.2.1+1) rfl (by omega) (by omega) ?_;have key:∀x:Nat,(x % 2 ^ 64)>>>11<2 ^ 64:=λx=>Nat.lt_of_le_of_lt (Nat.shiftRight_le _ _) (Nat.mod_lt _ (Nat.two_pow_pos 64));refine BA (S:=λ_=>True) ?_ ?_
 ·refine Di (λh=>?_) (λh=>?_)
  ·refine BP b.2.1 (by omega) (by omega) (by omega) (Eo (m:=b.2.1.toNat) (by omega) (by omega) ?_);exact AG trivial
  ·exact AG trivial
 ·intro x _;exact AG ⟨key _,by simp only;omega,by simp only;omega⟩
theorem Vy{a:Nat}(h:a<2 ^ 62):Me a=(a:Int):=by
 unfold Me;exact Jk (by omega)
theorem Kd{F k:Nat}{b:Jc}{m:Int}(hb:BG k b)(O:k<1000000)(hm:m<1000000):BL (f36 F b m) (λr=>0<=r.1/\(r.1<=m∨r.1=0)/\BG (k+1) r.2):=by
 unfold f36;refine BA (Y1 hb O) ?_;rintro⟨x,b'⟩ ⟨Z,K⟩;refine Di (λh=>?_) (λh=>?_)
 ·exact AG ⟨by simp,.inr rfl,K⟩
 ·have U:CP m=m.toNat:=by unfold CP;omega
  have e2:(CP m+1) % 2 ^ 64=m.toNat+1:=by rw [U];omega
  have Y:x % (m.toNat+1)<m.toNat+1:=Nat.mod_lt _ (by omega);refine Bz (b:=x % (m.toNat+1)) (by rw [e2];unfold NL;rw [if_neg (by omega)]) ?_;refine AG ?_;simp only;generalize x % (m.toNat+1)=z at Y ⊢;rw [Vy (by omega)];exact⟨by omega,.inl (by omega),K⟩
theorem K0{F k:Nat}{b:Jc}{lo hi:Int}(hb:BG k b)(O:k<1000000)(Y:0<=lo)(Z:lo<=hi)(ac:hi<1000):BL (f37 F b lo hi) (λr=>lo<=r.1/\r.1<=hi/\BG (k+1) r.2):=by
 unfold f37;refine BP (hi - lo) rfl (by omega) (by omega) (BA (Kd hb O (by omega)) ?_);rintro⟨x,b'⟩ ⟨U,g2,K⟩;simp only at U g2 K ⊢;exact BP (lo+x) rfl (by omega) (by omega) (AG ⟨by simp only;omega,by simp only;omega,K⟩)
theorem YD{F k:Nat}{b:Jc}{m:Int}(hb:BG k b)(K:k<1000000)(U:1<=m)(Y:m<1000):BL (f32 F b m) (λr=>BG (k+1) r.2):=by
 unfold f32;refine BP (m - 1) rfl (by omega) (by omega) (BA (Kd hb K (by omega)) ?_);rintro⟨x,b'⟩ ⟨Z,g2,O⟩;exact AG O
theorem Tr{F k:Nat}{b:Jc}{l:List Int}(hb:BG k b)(U:k<1000000)(Z:0<l.length)(ac:l.length<1000):BL (f81 F b l) (λr=>r.1∈l/\BG (k+1) r.2):=by
 unfold f81;refine BP ((l.length - 1:Nat):Int) (by omega) (by omega) (by omega) (BA (Kd hb U (by omega)) ?_);rintro⟨x,b'⟩ ⟨Y,g2,K⟩;simp only at Y g2 K ⊢;have O:x.toNat<l.length:=by omega
 exact Eo (m:=x.toNat) (by omega) O (AG ⟨List.getElem_mem O,K⟩)
abbrev DT:=Int×Int×Int
abbrev OW:=Bm×List DT
structure NV (n:Nat) (o:OW):Prop where
 l1:o.1.length<=n
 n1:∀x∈o.1,x.length<=n
 l2:o.2.length<=n
theorem X7{F:Nat}{l:List Int}(K:100<F)(O:l.length<=40):f29 F l l=some true:=by
 refine EJ ?_;unfold f29;refine BA (S:=λq=>q=Sum.inr ()) ?_ (by rintro q rfl;exact AG (by simp));refine Fh l.length (λi s=>s=(i:Int)) rfl (by omega) ?_ ?_
 ·rintro i s hi rfl;unfold Nj;refine BA (S:=λc=>c=true) (Dj (by omega) (AG (decide_eq_true (by omega)))) ?_;rintro c rfl;refine Dj rfl (Eo (m:=i) rfl hi ?_);refine Eo (m:=i) rfl hi (CW (by simp) ?_);exact BP ((i+1:Nat):Int) (by simp) (by omega) (by omega) (AG rfl)
 ·rintro s rfl;unfold Nj;refine BA (S:=λc=>c=false) (CW (by omega) (AG rfl)) ?_;rintro c rfl;exact CW (by simp) (AG ⟨_,rfl,rfl⟩)
theorem YI{F:Nat}{l:List DT}(K:100<F)(O:l.length<=40):f26 F l l=some true:=by
 refine EJ ?_;unfold f26;refine BA (S:=λq=>q=Sum.inr ()) ?_ (by rintro q rfl;exact AG (by simp));refine Fh l.length (λi s=>s=(i:Int)) rfl (by omega) ?_ ?_
 ·rintro i s hi rfl;unfold Ni;refine BA (S:=λc=>c=true) (Dj (by omega) (AG (decide_eq_true (by omega)))) ?_;rintro c rfl;refine Dj rfl (Eo (m:=i) rfl hi ?_);refine Eo (m:=i) rfl hi (CW (by simp) ?_);exact BP ((i+1:Nat):Int) (by simp) (by omega) (by omega) (AG rfl)
 ·rintro s rfl;unfold Ni;refine BA (S:=λc=>c=false) (CW (by omega) (AG rfl)) ?_;rintro c rfl;exact CW (by simp) (AG ⟨_,rfl,rfl⟩)
end Pal
namespace Pal
theorem Nr(F:Nat)(a lo hi:Int):f92 F a lo hi=some (decide (lo<=a/\a<=hi)):=by
 unfold f92;by_cases h:lo<=a
 ·rw [if_pos h];simp [h]
 ·rw [if_neg h];simp [h]
theorem VV{F:Nat}{o:OW}{i:Int}{l:List Int}(h:ix o.1 i=some l):Ny F l=LW F o i:=by
 funext j;unfold Ny LW;rw [h];rfl
theorem Wl(F:Nat)(o:OW):Ns F o=LM F o:=by
 funext i;unfold Ns LM;split
 ·rcases h:ix o.1 i with _ | l
  ·rfl
  ·simp only [Option.bind_some];rw [VV h]
 ·rfl
theorem YG(F:Nat)(o:OW):f47 F o=f48 F o:=by
 unfold f47 f48;rw [Wl];rfl
theorem YC{F n:Nat}{o:OW}{d:DT}(h:NV n o)(K:n<100):BL (f38 F o d) (λr=>r=(o.1,o.2++ [d])):=by
 unfold f38;have O:=h.l2;refine BL.Lk (by simp;omega) (BL.Lk (by simp;omega) ?_);exact AG rfl
end Pal
namespace Pal
def VD(n:Nat)(d:DT):Prop:=0<=d.1/\d.1<(n:Int)/\0<=d.2.1/\d.2.1<(n:Int)/\d.1≠d.2.1/\1<=d.2.2/\d.2.2<=9
def CS(x:List Int):Prop:=x.length<=3/\∀c∈x,1<=c/\c<=9
structure VO (o:OW):Prop where
 n2:2<=o.1.length
 n5:o.1.length<=5
 cs:∀x∈o.1,CS x
 d8:o.2.length<=8
 ds:∀d∈o.2,VD o.1.length d
theorem VO.nv{o:OW}(h:VO o):NV 40 o:=⟨by have:=h.n5;omega,λx K=>by have:=(h.cs x K).1;omega,by have:=h.d8;omega⟩
theorem O0{α:Type}{P:α->Prop}{l:List α}{i:Nat}(hi:i<l.length)(h:∀x∈l.take i,P x)(k:P l[i]):∀x∈l.take (i+1),P x:=by
 intro x K;rw [List.take_add_one,List.getElem?_eq_getElem hi] at K;simp only [Option.toList_some,List.mem_append,List.mem_singleton] at K;rcases K with K | rfl
 ·exact h x K
 ·exact k
theorem Yd{F:Nat}{d:DT}{n:Nat}(Y:n<1000):BL (f88 F (n:Int) d 9) (λr=>r=0↔VD n d):=by
 unfold f88;refine BP ((n:Int) - 1) rfl (by omega) (by omega) (Bz (Nr _ _ _ _) ?_);refine BA (S:=λc=>c=true↔¬((0<=d.1/\d.1<(n:Int))/\0<=d.2.1/\d.2.1<(n:Int))) ?_ ?_
 ·refine Di (λh=>AG ?_) (λh=>?_)
  ·simp at h;simp;omega
  ·refine BP ((n:Int) - 1) rfl (by omega) (by omega) (Bz (Nr _ _ _ _) ?_);refine AG ?_;simp at h;simp;omega
 ·intro c O;refine Di (λh=>AG ?_) (λh=>?_)
  ·have:=O.1 h;unfold VD;constructor
   ·intro h;cases h
   ·intro h;omega
  have Z:¬¬_:=λk=>h (O.2 k);refine Di (λU=>AG ?_) (λU=>?_)
  ·unfold VD;constructor
   ·intro h;cases h
   ·intro h;omega
  refine Bz (Nr _ _ _ _) (Di (λK=>AG ?_) (λK=>AG ?_))
  ·simp at K;unfold VD;constructor
   ·intro h;cases h
   ·intro h;omega
  ·simp at K;unfold VD;constructor
   ·intro h;omega
   ·intro h;rfl
theorem Y9{F:Nat}{o:OW}(Z:100<F)(h:NV 40 o):BL (f48 F o) (λr=>r=0↔VO o):=by
 unfold f48;have ac:=h.l1;have ag:=h.l2;refine Di (λg=>AG (iff_of_false (by decide) λv=>by have:=v.n2;omega)) (λal=>?_);refine Di (λg=>AG (iff_of_false (by decide) λv=>by have:=v.n5;omega)) (λg2=>?_);refine BA (S:=λq=>(∃e,q=Sum.inl e/\e≠0/\¬∀x∈o.1,CS x)∨(q=Sum.inr ()/\∀x∈o.1,CS x)) ?_ ?_
 ·refine Fh o.1.length (λi s=>s=(i:Int)/\∀x∈o.1.take i,CS x) ⟨rfl,by simp⟩ (by omega) ?_ ?_
  ·rintro i s hi ⟨rfl,K⟩;unfold LM;refine Dj (by omega) (Eo (m:=i) rfl hi ?_);have am:=h.n1 _ (List.getElem_mem hi);refine Di (λg=>AG (.inl ⟨_,rfl,by decide,λk=>by have:=(k _ (List.getElem_mem hi)).1;omega⟩)) (λan=>?_);refine BA (S:=λq=>(q=Sum.inl 1/\¬CS o.1[i])∨(q=Sum.inr ()/\CS o.1[i])) ?_ ?_
   ·refine Fh o.1[i].length (λj s=>s=(j:Int)/\∀c∈o.1[i].take j,1<=c/\c<=9) ⟨rfl,by simp⟩ (by omega) ?_ ?_
    ·rintro j s U ⟨rfl,O⟩;unfold LW;refine Eo (m:=i) rfl hi (Dj (by omega) ?_);refine Eo (m:=i) rfl hi (Eo (m:=j) rfl U ?_);refine Bz (Nr _ _ _ _) (Di (λg=>AG (.inl ⟨rfl,λk=>?_⟩)) (λg=>?_))
     ·have:=k.2 _ (List.getElem_mem U);simp at g;omega
     refine BP ((j+1:Nat):Int) (by simp) (by omega) (by omega) (AG ⟨rfl,O0 U O ?_⟩);simpa using g
    ·rintro s ⟨rfl,O⟩;unfold LW;refine Eo (m:=i) rfl hi ?_;rw [List.take_length] at O;exact CW (by omega) (AG ⟨_,rfl,.inr ⟨rfl,by omega,O⟩⟩)
   ·rintro q (⟨rfl,g⟩ | ⟨rfl,g⟩)
    ·rw [Sum.elim_inl];exact AG (.inl ⟨_,rfl,by decide,λk=>g (k _ (List.getElem_mem hi))⟩)
    ·rw [Sum.elim_inr];exact BP ((i+1:Nat):Int) (by simp) (by omega) (by omega) (AG ⟨rfl,O0 hi K g⟩)
  ·rintro s ⟨rfl,K⟩;unfold LM;rw [List.take_length] at K;exact CW (by omega) (AG ⟨_,rfl,.inr ⟨rfl,K⟩⟩)
 ·rintro q (⟨e,rfl,he,g⟩ | ⟨rfl,O⟩)
  ·rw [Sum.elim_inl];exact AG (iff_of_false he λv=>g v.cs)
  ·rw [Sum.elim_inr];refine Di (λg=>AG (iff_of_false (by decide) λv=>by have:=v.d8;omega)) (λg2=>?_);refine BA (S:=λq=>(∃e,q=Sum.inl e/\e≠0/\¬∀d∈o.2,VD o.1.length d)∨(q=Sum.inr ()/\∀d∈o.2,VD o.1.length d)) ?_ ?_
   ·refine Fh o.2.length (λi s=>s=(i:Int)/\∀d∈o.2.take i,VD o.1.length d) ⟨rfl,by simp⟩ (by omega) ?_ ?_
    ·rintro i s hi ⟨rfl,K⟩;unfold Pk;refine Dj (by omega) (Eo (m:=i) rfl hi ?_);refine BA (Yd (by omega)) ?_;intro x Y;refine Di (λg=>AG (.inl ⟨_,rfl,g,λk=>g (Y.2 (k _ (List.getElem_mem hi)))⟩)) (λg=>?_);exact BP ((i+1:Nat):Int) (by simp) (by omega) (by omega) (AG ⟨rfl,O0 hi K (Y.1 (Decidable.not_not.1 g))⟩)
    ·rintro s ⟨rfl,K⟩;unfold Pk;rw [List.take_length] at K;exact CW (by omega) (AG ⟨_,rfl,.inr ⟨rfl,K⟩⟩)
   ·rintro q (⟨e,rfl,he,g⟩ | ⟨rfl,g⟩)
    ·rw [Sum.elim_inl];exact AG (iff_of_false he λv=>g v.ds)
    ·rw [Sum.elim_inr];exact AG (iff_of_true rfl ⟨by omega,by omega,O,by omega,g⟩)
theorem YH{F:Nat}{o:OW}(K:100<F)(h:NV 40 o):BL (f47 F o) (λr=>r=0↔VO o):=YG F o▸Y9 K h
theorem Zq{F:Nat}{o:OW}(K:100<F)(h:VO o):f47 F o=some 0:=by
 obtain⟨r,O,U⟩:=YH K h.nv;rw [O,U.2 h]
theorem PS{F:Nat}{o:OW}(K:100<F)(h:VO o):f70 F o []=some (o,0):=by
 obtain⟨F,rfl⟩:∃k,F=k+1:=⟨F - 1,by omega⟩;unfold f70;rw [Zq K h]
 rfl
theorem Re(a n:Int):a % n=(a - n) % n:=by
 have h:a=(a - n)+n*1:=by omega
 conv=>lhs;rw [h]
 exact Int.add_mul_emod_self_left _ _ _
theorem XM{F k n:Nat}{b:Jc}(hb:BG k b)(ap:k<900000)(aq:2<=n)(ar:n<900):BL (f40 F b (n:Int)) (λr=>VD n r.1/\BG (k+4) r.2):=by
 unfold f40;refine BP ((n:Int) - 1) rfl (by omega) (by omega) (BA (Kd hb (by omega) (by omega)) ?_);rintro⟨x,au⟩ ⟨O,g2,U⟩;simp only at O g2 U ⊢;refine BA (K0 U (by omega) (by omega) (by omega) (by omega)) ?_;rintro⟨x2,av⟩ ⟨a1,am,Y⟩;simp only at a1 am Y ⊢;refine BA (Tr Y (by omega) (by simp) (by simp)) ?_;rintro⟨Z,aw⟩ ⟨ac,ag⟩;simp only at ac ag ⊢;refine BP ((n:Int) - 1) rfl (by omega) (by omega) (BA (K0 ag (by omega) (by omega) (by omega) (by omega)) ?_);rintro⟨K,ay⟩ ⟨an,ao,al⟩;simp only at an ao al ⊢;refine BP (x+K) rfl (by omega) (by omega) (Bz (b:=(x+K).tmod n) (by unfold JH;rw [if_neg (by omega)]) ?_);refine AG ⟨?_,al⟩;have e:(x+K).tmod n=(x+K) % n:=Int.tmod_eq_emod_of_nonneg (by omega);have p3:1<=Z/\Z<=9:=by
  simp only [List.mem_cons,List.not_mem_nil,or_false] at ac;omega
 have az:(x+K) % (n:Int)<n:=Int.emod_lt_of_pos _ (by omega);have aA:0<=(x+K) % (n:Int):=Int.emod_nonneg _ (by omega);have aB:x≠(x+K) % (n:Int):=by
  rcases Int.lt_or_le (x+K) n with h | h
  ·rw [Int.emod_eq_of_lt (by omega) h];omega
  ·rw [Re,Int.emod_eq_of_lt (by omega) (by omega)];omega
 refine⟨O,?_,?_,?_,?_,p3.1,p3.2⟩ <;> simp only [e] <;> omega
theorem XT{F k:Nat}{b:Jc}{pm dm:Nat}(aC:100<F)(hb:BG k b)(aD:k<1000)(aE:2<=pm)(aF:pm<=5)(hd:dm<=8):BL (f31 F b pm dm) (λr=>VO r.1/\r.1.1.length<=pm/\r.1.2.length<=dm/\BG (k+100) r.2):=by
 unfold f31;refine BA (K0 hb (by omega) (by omega) (by omega) (by omega)) ?_;rintro⟨n,aG⟩ ⟨n1,n2,ar⟩;simp only at n1 n2 ar ⊢;obtain⟨n,rfl⟩:∃m:Nat,n=(m:Int):=⟨n.toNat,by omega⟩;refine BA (YD ar (by omega) (by omega) (by omega)) ?_;rintro⟨aH,aI⟩ g2;simp only at g2 ⊢;refine BA (S:=λr=>r.2.2.2.length=n/\(∀x∈r.2.2.2,CS x)/\BG (k+30) (r.1,r.2.1,r.2.2.1)) ?_ ?_
 ·refine Fh n (λi s=>s.2.2.2.2=(i:Int)/\s.1.length=i/\(∀x∈s.1,CS x)/\BG (k+2+5*i) (s.2.1,s.2.2.1,s.2.2.2.1)) ⟨rfl,rfl,by simp,g2⟩ (by omega) ?_ ?_
  ·rintro i ⟨au,l,t,ag,c⟩ hi ⟨al,am,an,K⟩;simp only at al am an K;subst al;unfold No;refine Dj (by simp only;omega) (BA (Kd K (by omega) (by omega)) ?_);rintro⟨c,aJ⟩ ⟨c1,c2,ao⟩;simp only at c1 c2 ao ⊢;obtain⟨c,rfl⟩:∃m:Nat,c=(m:Int):=⟨c.toNat,by omega⟩;refine BA (S:=λr=>CS r.1/\BG (k+2+5*i+1+c) r.2) ?_ ?_
   ·refine Fh c (λj s=>s.2.2.2.2=((c - j:Nat):Int)/\s.2.2.2.1.length=j/\(∀v∈s.2.2.2.1,1<=v/\v<=9)/\BG (k+2+5*i+1+j) (s.1,s.2.1,s.2.2.1)) ⟨rfl,rfl,by simp,ao⟩ (by omega) ?_ ?_
    ·rintro j ⟨l,t,ag,w,z⟩ aA ⟨U,hw,O,K⟩;simp only at U hw O K;subst U;unfold Nu;refine Dj (by simp only;omega) (BA (S:=λr=>r.1.length=j+1/\(∀v∈r.1,1<=v/\v<=9)/\BG (k+2+5*i+1+(j+1)) r.2) ?_ ?_)
     ·refine Di (λ_=>?_) (λ_=>?_)
      ·refine Lz (by simp only;omega) (AG ⟨by simp [hw],?_,K.Ag (by omega)⟩);intro v h;rcases List.mem_append.1 h with h | h
       ·exact O v h
       ·have:=List.mem_singleton.1 h;omega
      ·refine BA (Tr K (by omega) (by simp) (by simp)) ?_;rintro⟨v,aB⟩ ⟨av,ap⟩;simp only at av ap ⊢;refine Lz (by omega) (AG ⟨by simp [hw],?_,ap⟩);intro u h;rcases List.mem_append.1 h with h | h
       ·exact O u h
       ·have:=List.mem_singleton.1 h;subst this;simp only [List.mem_cons,List.not_mem_nil,or_false] at av;omega
     ·rintro⟨w',l',aK,aL⟩ ⟨Z,aq,ac⟩;simp only at Z ac aq ⊢;exact BP ((c - (j+1):Nat):Int) (by omega) (by omega) (by omega) (AG ⟨rfl,Z,aq,ac⟩)
    ·rintro⟨l,t,ag,w,z⟩ ⟨U,hw,O,K⟩;simp only at U hw O K;subst U;unfold Nu;exact CW (by simp) (AG ⟨_,rfl,⟨by simp only;omega,O⟩,K⟩)
   ·rintro⟨w,aB⟩ ⟨Z,ac⟩;simp only at Z ac ⊢;refine Lz (by omega) (BP ((i+1:Nat):Int) (by simp) (by omega) (by omega) ?_);refine AG ⟨rfl,by simp [am],λx Y=>?_,ac.Ag (by omega)⟩;simp only [List.mem_append,List.mem_singleton] at Y;rcases Y with Y | rfl
    ·exact an x Y
    ·exact Z
  ·rintro⟨au,l,t,ag,c⟩ ⟨al,am,an,K⟩;simp only at al am an K;subst al;unfold No;exact CW (by simp) (AG ⟨_,rfl,am,an,K.Ag (by omega)⟩)
 ·rintro⟨l,t,ag,au⟩ ⟨p1,p2,ao⟩;simp only at p1 p2 ao ⊢;refine BA (Kd ao (by omega) (by omega)) ?_;rintro⟨c,aM⟩ ⟨c1,c2,ap⟩;simp only at c1 c2 ap ⊢;obtain⟨c,rfl⟩:∃m:Nat,c=(m:Int):=⟨c.toNat,by omega⟩;refine BA (S:=λr=>r.2.2.2.length<=dm/\(∀d∈r.2.2.2,VD n d)/\BG (k+100) (r.1,r.2.1,r.2.2.1)) ?_ ?_
  ·refine Fh c (λj s=>s.2.2.2.2=((c - j:Nat):Int)/\s.1.length=j/\(∀d∈s.1,VD n d)/\BG (k+31+4*j) (s.2.1,s.2.2.1,s.2.2.2.1)) ⟨rfl,rfl,by simp,ap.Ag (by omega)⟩ (by omega) ?_ ?_
   ·rintro j ⟨aw,l,t,ag,z⟩ aA ⟨U,hw,O,K⟩;simp only at U hw O K;subst U;unfold Nn;refine Dj (by simp only;omega) (BA (XM K (by omega) (by omega) (by omega)) ?_);rintro⟨d,aN⟩ ⟨ay,az⟩;simp only at ay az ⊢;refine BL.Lk (by simp;omega) (BP ((c - (j+1):Nat):Int) (by omega) (by omega) (by omega) ?_);refine AG ⟨rfl,by simp [hw],?_,az.Ag (by omega)⟩;intro x Y;rcases List.mem_append.1 Y with Y | Y
    ·exact O x Y
    ·cases List.mem_singleton.1 Y;exact ay
   ·rintro⟨aw,l,t,ag,z⟩ ⟨U,hw,O,K⟩;simp only at U hw O K;subst U;unfold Nn;exact CW (by simp) (AG ⟨_,rfl,by simp only;omega,O,K.Ag (by omega)⟩)
  ·rintro⟨l,t,ag,aw⟩ ⟨Z,aq,ac⟩;simp only at Z ac aq ⊢;exact AG ⟨⟨by simp only;omega,by simp only;omega,p2,by simp only;omega,by simp only;rw [p1];exact aq⟩,by simp only;omega,Z,ac⟩
end Pal
namespace Pal
abbrev PR:=Int×Int
def gN(l:List Int)(i:Nat):Int:=l.getD i 0
def IH(l:List Int)(i v:Int):List Int:=l.set i.toNat (gN l i.toNat+v)
def BN(B:Int)(l:List Int):Prop:=l.length=5/\∀x∈l,-B<=x/\x<=B
theorem Nt{l:List Int}{i:Nat}(h:i<l.length):gN l i=l[i]:=by unfold gN;rw [List.getD_eq_getElem?_getD,List.getElem?_eq_getElem h];rfl
theorem BN.bd{B:Int}{l:List Int}(h:BN B l){i:Nat}(hi:i<5): -B<=gN l i/\gN l i<=B:=by
 rw [Nt (by have:=h.1;omega)];exact h.2 _ (List.getElem_mem _)
theorem BN.ix{B:Int}{l:List Int}(h:BN B l){i:Int}(K:0<=i)(hi:i<5):ix l i=some (gN l i.toNat):=by
 have:=h.1;rw [Nt (show i.toNat<l.length by omega)];exact K1 (m:=i.toNat) (by omega) (List.getElem?_eq_getElem _)
theorem BN.Ag{B C:Int}{l:List Int}(h:BN B l)(O:B<=C):BN C l:=⟨h.1,λx K=>by have:=h.2 x K;omega⟩
theorem BN.add{B V:Int}{l:List Int}(h:BN B l){i v:Int}(O:0<=i)(hi:i<5)(U: -V<=v)(Y:v<=V):BN (B+V) (IH l i v):=by
 have hb:=h.bd (i:=i.toNat) (by omega);refine⟨by unfold IH;rw [List.length_set];exact h.1,λx K=>?_⟩;rcases List.mem_or_eq_of_mem_set K with K | rfl
 ·have:=h.2 x K;omega
 ·omega
theorem SY{l:List Int}{i v:Int}(h:l.length=5)(K:0<=i)(hi:i<5)(j:Nat):gN (IH l i v) j=gN l j+if(j:Int)=i then v else 0:=by
 unfold IH gN;rw [List.getD_eq_getElem?_getD,List.getElem?_set,List.getD_eq_getElem?_getD,List.getD_eq_getElem?_getD];by_cases e:i.toNat=j
 ·rw [if_pos e,if_pos (by omega),if_pos (by omega),e];rfl
 ·rw [if_neg e,if_neg (by omega),Int.add_zero]
theorem Ri{l l':List Int}(h:l.length=5)(U:l'.length=5)(k:∀j,j<5->gN l j=gN l' j):l=l':=by
 refine List.ext_getElem (by omega) λj K O=>?_;rw [← Nt K,← Nt O];exact k j (by omega)
def NQ(l:List Int)(d:DT):List Int:=IH (IH l d.1 d.2.2) d.2.1 (-d.2.2)
def JE(l:List Int)(d:DT):List Int:=IH (IH l d.2.1 d.2.2) d.1 (-d.2.2)
def Cp(o:OW):List Int:=o.2.foldl JE (List.replicate 5 0)
theorem R2{F:Nat}{B:Int}{l:List Int}{d:DT}(h:BN B l)(a1:0<=d.1)(O:d.1<5)(U:0<=d.2.1)(Y:d.2.1<5)(p1: -B<=d.2.2)(p2:d.2.2<=B)(Z:B<=1000000000000):f204 F l d=some (NQ l d)/\BN (3*B) (NQ l d):=by
 have K:=h.add a1 O p1 p2;have g2:=K.add U Y (show -B<= -d.2.2 by omega) (by omega);have k1:=h.bd (i:=d.1.toNat) (by omega);have ac:=K.bd (i:=d.2.1.toNat) (by omega);refine⟨?_,g2.Ag (by omega)⟩;refine EJ ?_;unfold f204;refine Bz (h.ix a1 O) ?_;refine BP _ rfl (by omega) (by omega) ?_;refine Bz (h.ix a1 O) ?_;refine Bz (K.ix U Y) ?_;refine BP _ rfl (by omega) (by omega) ?_;refine Bz (K.ix U Y) ?_;exact AG rfl
theorem LR{F:Nat}{o:OW}(ac:100<F)(h:VO o):f84 F o=some (Cp o)/\BN 200 (Cp o):=by
 have ag:=h.n5;have al:=h.d8;have:BL (f84 F o) (λr=>r=Cp o/\BN 200 r):=by
  unfold f84;refine BA (S:=λr=>r=Cp o/\BN 200 r) ?_ (λr U=>AG U);refine Fh o.2.length (λi s=>s.2=(i:Int)/\s.1=(o.2.take i).foldl JE (List.replicate 5 0)/\BN (20*i) s.1) ⟨rfl,rfl,rfl,by simp⟩ (by omega) ?_ ?_
  ·rintro i ⟨w,c⟩ hi ⟨K,hw,hb⟩;simp only at K hw hb;subst K;obtain⟨v1,v2,am,v4,an,v6,ao⟩:=h.ds _ (List.getElem_mem hi);have O:=hb.add (i:=o.2[i].2.1) (v:=o.2[i].2.2) (V:=10) (by omega) (by omega) (by omega) (by omega);have g2:=O.add (i:=o.2[i].1) (v:= -o.2[i].2.2) (V:=10) (by omega) (by omega) (by omega) (by omega);have k1:=hb.bd (i:=o.2[i].2.1.toNat) (by omega);have ap:=O.bd (i:=o.2[i].1.toNat) (by omega);unfold Nk;refine Dj (by simp only;omega) (Eo (m:=i) rfl hi ?_);refine Bz (hb.ix (by omega) (by omega)) (BP _ rfl (by omega) (by omega) ?_);refine Bz (hb.ix (by omega) (by omega)) (Bz (O.ix (by omega) (by omega)) ?_);refine BP _ rfl (by omega) (by omega) (Bz (O.ix (by omega) (by omega)) ?_);refine BP ((i+1:Nat):Int) (by simp) (by omega) (by omega) (AG ⟨rfl,?_,g2.Ag (by omega)⟩);simp only;rw [List.take_add_one,List.getElem?_eq_getElem hi,List.foldl_append,← hw]
   rfl
  ·rintro⟨w,c⟩ ⟨K,hw,hb⟩;simp only at K hw hb;subst K;unfold Nk;rw [List.take_length] at hw;exact CW (by simp) (AG ⟨_,rfl,hw,hb.Ag (by omega)⟩)
 obtain⟨r,Y,rfl,Z⟩:=this;exact⟨Y,Z⟩
theorem Ww{l:List Int}{i:Nat}(hi:i<l.length):(l.take (i+1)).sum=(l.take i).sum+l[i]:=by
 rw [List.take_add_one,List.getElem?_eq_getElem hi,List.sum_append];simp only [Option.toList_some,List.sum_cons,List.sum_nil];omega
theorem XU{F:Nat}{l:List Int}(ag:100<F)(al:l.length<=20)(hb:∀x∈l,-1000<=x/\x<=1000):f85 F l=some l.sum/\ -20000<=l.sum/\l.sum<=20000:=by
 have:BL (f85 F l) (λr=>r=l.sum/\ -20000<=r/\r<=20000):=by
  unfold f85;refine BA (S:=λr=>r=l.sum/\ -20000<=r/\r<=20000) ?_ (λr Y=>AG Y);refine Fh l.length (λi s=>s.2=(i:Int)/\s.1=(l.take i).sum/\ -(1000*(i:Int))<=s.1/\s.1<=1000*(i:Int)) ⟨rfl,rfl,by simp,by simp⟩ (by omega) ?_ ?_
  ·rintro i ⟨w,c⟩ hi ⟨K,hw,O,U⟩;simp only at K hw O U;subst K;have am:=hb _ (List.getElem_mem hi);unfold Nv;refine Dj (by simp only;omega) (Eo (m:=i) rfl hi ?_);refine BP _ rfl (by omega) (by omega) (BP ((i+1:Nat):Int) (by simp) (by omega) (by omega) ?_);refine AG ⟨rfl,?_,?_,?_⟩
   ·simp only;rw [Ww hi,hw]
   ·simp only;omega
   ·simp only;omega
  ·rintro⟨w,c⟩ ⟨K,hw,O,U⟩;simp only at K hw O U;subst K;unfold Nv;rw [List.take_length] at hw;exact CW (by simp) (AG ⟨_,rfl,hw,by simp only;omega,by simp only;omega⟩)
 obtain⟨r,Z,rfl,ac⟩:=this;exact⟨Z,ac⟩
def VP(n:Nat)(x:PR):Prop:=0<=x.1/\x.1<x.2/\x.2<(n:Int)
def Ih(b:Nat)(k:Nat):List PR:=(List.range k).map λa:Nat=>((a:Int),(b:Int))
def EK(n:Nat):List PR:=(List.range n).flatMap λb=>Ih b b
theorem Vw(b k:Nat):Ih b (k+1)=Ih b k++ [((k:Int),(b:Int))]:=by unfold Ih;rw [List.range_succ,List.map_append];rfl
theorem Uk(n:Nat):EK (n+1)=EK n++Ih n n:=by unfold EK;rw [List.range_succ,List.flatMap_append];simp
theorem Ru{n:Nat}{x:PR}(h:x∈EK n):VP n x:=by
 unfold EK Ih at h;obtain⟨b,hb,h⟩:=List.mem_flatMap.1 h;obtain⟨a,K,rfl⟩:=List.mem_map.1 h;have:=List.mem_range.1 hb;have:=List.mem_range.1 K;exact⟨by simp only;omega,by simp only;omega,by simp only;omega⟩
theorem RN(b k:Nat):(Ih b k).length=k:=by unfold Ih;simp
theorem QE{n:Nat}(h:n<=5):(EK n).length<=10:=by
 have e:∀ n,n<=5->(EK n).length<=n*2:=by
  intro n K
  match n,K with
  | 0,_ | 1,_ | 2,_ | 3,_ | 4,_ | 5,_=>decide
 have:=e n h;omega
theorem XA{F:Nat}{o:OW}(Z:100<F)(ac:o.1.length<=5):f133 F o=some (EK o.1.length):=by
 refine EJ ?_;unfold f133;refine BA (S:=λr=>r=EK o.1.length) ?_ (λr Y=>AG Y);refine Fh o.1.length (λi s=>s.2=(i:Int)/\s.1=EK i/\s.1.length<=10*i) ⟨rfl,rfl,by simp⟩ (by omega) ?_ ?_
 ·rintro i ⟨w,c⟩ hi ⟨K,hw,U⟩;simp only at K hw U;subst K;unfold Nf;refine Dj (by simp only;omega) (BA (S:=λr=>r=EK i++Ih i i) ?_ ?_)
  ·refine Fh i (λa s=>s.2=(a:Int)/\s.1=EK i++Ih i a) ⟨rfl,by simp [Ih,hw]⟩ (by omega) ?_ ?_
   ·rintro a ⟨v,c⟩ ag ⟨K,O⟩;simp only at K O;subst K;unfold MX;refine Dj (by simp only;omega) (Lz ?_ ?_)
    ·rw [O,← hw,List.length_append,RN];omega
    refine BP ((a+1:Nat):Int) (by simp) (by omega) (by omega) (AG ⟨rfl,?_⟩);simp only;rw [Vw,O,List.append_assoc]
   ·rintro⟨v,c⟩ ⟨K,O⟩;simp only at K O;subst K;unfold MX;exact CW (by simp) (AG ⟨_,rfl,O⟩)
  ·rintro r rfl;refine BP ((i+1:Nat):Int) (by simp) (by omega) (by omega) (AG ⟨rfl,(Uk i).symm,?_⟩);simp only;rw [List.length_append,RN,← hw];omega
 ·rintro⟨w,c⟩ ⟨K,hw,U⟩;simp only at K hw U;subst K;unfold Nf;exact CW (by simp) (AG ⟨_,rfl,hw⟩)
def BY(p:Int)(x:PR):Bool:=decide (x.1=p) || decide (x.2=p)
theorem Ql{α:Type}{p:α->Bool}:∀{l:List α} {a:Nat},l.countP p=1->∀O:a<l.length,p l[a]=true->l.findIdx p=a
 | x::xs,0,_,_,K=>by
  have K:p x=true:=K
  rw [List.findIdx_cons,K];rfl
 | x::xs,a+1,h,O,K=>by
  have K:p (xs[a]'(by simpa using O))=true:=K
  have Y:0<xs.countP p:=List.countP_pos_iff.2 ⟨_,List.getElem_mem _,K⟩
  by_cases U:p x=true
  ·rw [List.countP_cons_of_pos U] at h;omega
  ·rw [List.countP_cons_of_neg U] at h;rw [List.findIdx_cons,Bool.eq_false_iff.2 U];simp only [cond_false];rw [Ql h (by simpa using O) K]
def Kh(n:Nat)(l:List PR):Option Nat:=(List.range n).find? λp=>l.countP (BY p)==1
def dP(p:Int)(x:PR)(m:Int):DT:=if 0<m then(x.1+x.2 - p,p,m) else(p,x.1+x.2 - p,-m)
def Gn(n:Nat):Nat->List PR->List Int->List DT->Option (List DT)
 | 0,_,w,out=>if w=List.replicate 5 0 then some out else none
 | k+1,l,w,out=>(Kh n l).bind λp=>
   if gN w p=0 then none else
    Gn n k (l.eraseIdx (l.findIdx (BY p))) (NQ w (dP p (l.getD (l.findIdx (BY p)) (0,0)) (gN w p))) (out++ [dP p (l.getD (l.findIdx (BY p)) (0,0)) (gN w p)])
def Mc:Option (List DT)->Bool×List Int×List DT
 | none=>(true,default)
 | some out=>(false,List.replicate 5 0,out)
theorem Vs{F:Nat}{l:List PR}{p:Int}(am:100<F)(an:l.length<=20):BL (Pal.iter (LJ F l p) F (0,0,0)) (λr=>r.2=((l.countP (BY p):Nat):Int)/\(r.2=1->r.1=(l.findIdx (BY p):Nat)/\l.findIdx (BY p)<l.length)):=by
 refine Fh l.length (λi s=>s.2.2=(i:Int)/\s.2.1=(((l.take i).countP (BY p):Nat):Int)/\(s.2.1≠0->∃a,s.1=((a:Nat):Int)/\∃h:a<l.length,BY p l[a]=true)) ⟨rfl,by simp,by simp⟩ (by omega) ?_ ?_
 ·rintro i ⟨a,m,c⟩ hi ⟨K,hm,O⟩;simp only at K hm O;subst K;have hle:(l.take i).countP (BY p)<=i:=by
   refine Nat.le_trans List.countP_le_length ?_;rw [List.length_take];omega
  unfold LJ;refine Dj (by simp only;omega) (Eo (m:=i) rfl hi ?_);refine BA (S:=λc=>c=BY p l[i]) ?_ ?_
  ·unfold BY;refine Di (λh=>AG (by simp [h])) (λh=>AG (by simp [h]))
  rintro c rfl;have key:(l.take (i+1)).countP (BY p)=(l.take i).countP (BY p)+if BY p l[i]=true then 1 else 0:=by
   rw [List.take_add_one,List.getElem?_eq_getElem hi,List.countP_append];simp only [Option.toList_some,List.countP_cons,List.countP_nil,Nat.zero_add]
  refine BA (S:=λr=>r.2=(((l.take (i+1)).countP (BY p):Nat):Int)/\(r.2≠0->∃a,r.1=((a:Nat):Int)/\∃h:a<l.length,BY p l[a]=true)) ?_ ?_
  ·refine Di (λh=>?_) (λh=>?_)
   ·refine BP (((l.take (i+1)).countP (BY p):Nat):Int) ?_ (by omega) ?_ (AG ⟨rfl,λ_=>⟨i,rfl,hi,h⟩⟩)
    ·rw [key,if_pos h,hm];rfl
    ·rw [key,if_pos h];omega
   ·exact AG ⟨by rw [key,if_neg h];exact hm,O⟩
  ·rintro⟨ao,m'⟩ ⟨U,Y⟩;simp only at U Y ⊢;exact BP ((i+1:Nat):Int) (by simp) (by omega) (by omega) (AG ⟨rfl,U,Y⟩)
 ·rintro⟨a,m,c⟩ ⟨K,hm,O⟩;simp only at K hm O;subst K;rw [List.take_length] at hm;unfold LJ;refine CW (by simp) (AG ⟨_,rfl,hm,λac=>?_⟩);simp only at ac;obtain⟨k,ag,Z,al⟩:=O (by omega);have:=Ql (p:=BY p) (l:=l) (a:=k) (by omega) Z al;simp only;rw [this];exact⟨ag,Z⟩
theorem UH{n:Nat}{l:List PR}{i:Nat}(hi:i<n)(K:l.countP (BY i)=1)(h:∀p,p<i->l.countP (BY p)≠1):Kh n l=some i:=by
 unfold Kh;rw [List.find?_range_eq_some];exact⟨by simp [K],List.mem_range.2 hi,λj O=>by simpa using h j O⟩
theorem US{n:Nat}{l:List PR}(h:∀p,p<n->l.countP (BY p)≠1):Kh n l=none:=by
 unfold Kh;rw [List.find?_eq_none];intro p K;simpa using h p (List.mem_range.1 K)
theorem TG{n:Nat}{p:Nat}{x:PR}{m B:Int}(U:n<=5)(O:VP n x)(K:BY p x=true)(Y: -B<=m)(Z:m<=B):0<=(dP p x m).1/\(dP p x m).1<5/\0<=(dP p x m).2.1/\(dP p x m).2.1<5/\0<=(dP p x m).2.2/\(dP p x m).2.2<=B:=by
 obtain⟨v1,v2,ac⟩:=O;unfold BY at K;simp at K;unfold dP;split <;> simp only <;> omega
theorem RI{α:Type}{l:List α}{i:Nat}{d:α}(h:i<l.length):l.getD i d=l[i]:=by rw [List.getD_eq_getElem?_getD,List.getElem?_eq_getElem h];rfl
theorem RP{F n:Nat}{q:OW}(Z:100<F)(au:q.1.length=n)(am:n<=5):∀(k N:Nat) (l:List PR) (w:List Int) (out:List DT) (B:Int),l.length=k->k<N->k<=10->(∀x∈l,VP n x)->BN B w->0<=B->B*3 ^ k<=1000000000000->out.length+k<=100->KZ N F l w q out=some (Mc (Gn n k l w out))
 | 0,N,l,w,out,B,av,aw,_,ac,hw,an,ao,ay=>by
  obtain⟨N,rfl⟩:∃k,N=k+1:=⟨N - 1,by omega⟩
  refine EJ ?_
  simp only [KZ]
  unfold LV Gn
  refine Dj (by omega) ?_
  refine Di (λh=>AG ?_) (λh=>AG ?_)
  ·rw [if_neg h];rfl
  ·have h:=Decidable.not_not.1 h;rw [if_pos h,h];rfl
 | k+1,N,l,w,out,B,av,aw,aK,ac,hw,an,ao,ay=>by
  obtain⟨N,rfl⟩:∃k,N=k+1:=⟨N - 1,by omega⟩;refine EJ ?_;simp only [KZ];unfold LV;refine CW (by omega) ?_;have az:B*3 ^ (k+1)=(3*B)*3 ^ k:=by rw [Int.pow_succ];rw [Int.mul_comm (3 ^ k) 3,← Int.mul_assoc,Int.mul_comm B 3]
  have aA:B<=1000000000000:=by
   have ag:(1:Int)<=3 ^ (k+1):=by
    have:(0:Int)<3 ^ (k+1):=Int.pow_pos (by decide);omega
   have:=Int.mul_le_mul_of_nonneg_left ag an;omega
  refine BA (S:=λr=>r=Sum.inl (Mc (Gn n (k+1) l w out))∨(r=Sum.inr ()/\Kh n l=none)) ?_ ?_
  ·refine Fh n (λi s=>s=(i:Int)/\∀p,p<i->l.countP (BY (p:Nat))≠1) ⟨rfl,by simp⟩ (by omega) ?_ ?_
   ·rintro i s hi ⟨rfl,O⟩;unfold MY;refine Dj (by omega) (BA (S:=λr=>(r=Sum.inr ()/\l.countP (BY i)≠1)∨r=Sum.inl (Mc (Gn n (k+1) l w out))) ?_ ?_)
    ·refine BA (Vs Z (by omega)) ?_;rintro⟨a,m⟩ ⟨ap,U⟩;simp only at ap U ⊢;refine Di (λh=>AG (.inl ⟨rfl,λag=>h (by rw [ap,ag];rfl)⟩)) (λh=>?_);have h:=Decidable.not_not.1 h;obtain⟨U,K⟩:=U h;have aB:l.countP (BY i)=1:=by omega
     subst U;have aC:=UH hi aB O;refine Eo (m:=l.findIdx (BY i)) rfl K (Eo (m:=l.findIdx (BY i)) rfl K ?_);have aD:BY i l[l.findIdx (BY i)]=true:=List.findIdx_getElem;have Y:=ac _ (List.getElem_mem K);have aE:=Y;obtain⟨aL,x2,aM⟩:=aE;have hb:=hw.bd (i:=i) (by omega);refine BP (-(i:Int)) rfl (by omega) (by omega) (Bz (hw.ix (by omega) (by omega)) ?_);rw [show Int.toNat (i:Int)=i by omega];refine Bz (XU (l:= [_,_,_]) Z (by simp) (by simp;omega)).1 (BP (-(gN w i)) rfl (by omega) (by omega) ?_);have aq:Gn n (k+1) l w out=if gN w i=0 then none else Gn n k (l.eraseIdx (l.findIdx (BY i))) (NQ w (dP i l[l.findIdx (BY i)] (gN w i))) (out++ [dP i l[l.findIdx (BY i)] (gN w i)]):=by
      simp only [Gn,aC,Option.bind_some,RI K]
     refine Di (λh=>AG (.inr ?_)) (λh=>?_)
     ·rw [aq,if_pos (by omega)];rfl
     have ar:=aq;rw [if_neg (show ¬gN w i=0 by omega)] at ar;rw [ar];refine BA (S:=λr=>r=dP i l[l.findIdx (BY i)] (gN w i)) ?_ ?_
     ·unfold dP;refine Di (λh=>?_) (λh=>?_)
      ·refine BP (gN w i) (by omega) (by omega) (by omega) (AG ?_);rw [if_pos (by omega)];simp only [List.sum_cons,List.sum_nil];refine Prod.ext ?_ rfl;simp only;omega
      ·refine AG ?_;rw [if_neg (by omega)];simp only [List.sum_cons,List.sum_nil];refine Prod.ext rfl (Prod.ext ?_ rfl);simp only;omega
     rintro d rfl;obtain⟨aF,e2,aG,aH,aN,aI⟩:=TG am Y aD hb.1 hb.2;obtain⟨aJ,g2⟩:=R2 (F:=F) hw aF e2 aG aH (by omega) aI aA;refine Bz aJ (BL.Lk (by simp;omega) ?_);refine Bz (b:=l.take (l.findIdx (BY i))) (by unfold GJ;rw [if_pos (by omega)];simp) (BP ((l.findIdx (BY i)+1:Nat):Int) (by simp) (by omega) (by omega) ?_);refine Bz (b:=l.drop (l.findIdx (BY i)+1)) ?_ ?_
     ·unfold GJ;rw [if_pos (by omega),show Int.toNat (l.length:Int)=l.length by omega,List.take_length,show Int.toNat ((l.findIdx (BY i)+1:Nat):Int)=l.findIdx (BY i)+1 by omega]
     refine BL.Lk (by simp;omega) ?_;have he:l.take (l.findIdx (BY i))++l.drop (l.findIdx (BY i)+1)=l.eraseIdx (l.findIdx (BY i)):=(List.eraseIdx_eq_take_drop_succ _ _).symm;rw [he];have hle:(l.eraseIdx (l.findIdx (BY i))).length=k:=by rw [List.length_eraseIdx_of_lt K];omega
     refine Bz (RP Z au am k N _ _ _ (3*B) hle (by omega) (by omega) (λx Y=>ac x (List.mem_of_mem_eraseIdx Y)) g2 (by omega) (by rw [← az];exact ao) (by simp;omega)) ?_;rcases Gn n k _ _ _ with _ | r
     ·exact Dj rfl (AG (.inr rfl))
     ·exact CW (by simp [Mc]) (AG (.inr rfl))
    ·rintro r (⟨rfl,h⟩ | rfl)
     ·rw [Sum.elim_inr];refine BP ((i+1:Nat):Int) (by simp) (by omega) (by omega) (AG ⟨rfl,λp al=>?_⟩);rcases Nat.lt_succ_iff_lt_or_eq.1 al with al | rfl
      ·exact O p al
      ·exact h
     ·rw [Sum.elim_inl];exact AG (.inl rfl)
   ·rintro s ⟨rfl,O⟩;unfold MY;exact CW (by omega) (AG ⟨_,rfl,.inr ⟨rfl,US O⟩⟩)
  ·rintro r (rfl | ⟨rfl,h⟩)
   ·rw [Sum.elim_inl];exact AG rfl
   ·rw [Sum.elim_inr];refine AG ?_;simp only [Gn,h,Option.bind_none]
    rfl
def BD(d:DT):Prop:= -1000000000000000<=d.1/\d.1<=1000000000000000/\ -1000000000000000<=d.2.1/\d.2.1<=1000000000000000/\ -1000000000000000<=d.2.2/\d.2.2<=1000000000000000
theorem OU{n:Nat}(ac:n<=5):∀(k:Nat) (l:List PR) (w:List Int) (out r:List DT) (B:Int),l.length=k->(∀x∈l,VP n x)->BN B w->0<=B->B*3 ^ k<=1000000000000->(∀d∈out,BD d)->Gn n k l w out=some r->(∀d∈r,BD d)/\r.length=out.length+k
 | 0,l,w,out,r,B,an,O,hw,ag,al,U,h=>by
  unfold Gn at h
  split at h
  ·cases h;exact⟨U,rfl⟩
  ·cases h
 | k+1,l,w,out,r,B,an,O,hw,ag,al,U,h=>by
  have ao:B*3 ^ (k+1)=(3*B)*3 ^ k:=by rw [Int.pow_succ];rw [Int.mul_comm (3 ^ k) 3,← Int.mul_assoc,Int.mul_comm B 3]
  have ap:B<=1000000000000:=by
   have aq:(1:Int)<=3 ^ (k+1):=by
    have:(0:Int)<3 ^ (k+1):=Int.pow_pos (by decide);omega
   have:=Int.mul_le_mul_of_nonneg_left aq ag;omega
  unfold Gn at h;obtain⟨p,am,h⟩:=bind_some h;split at h
  ·cases h
  unfold Kh at am;obtain⟨c1,c2,c3⟩:=List.find?_range_eq_some.1 am;have az:l.countP (BY p)=1:=by simpa using c1
  have c2:=List.mem_range.1 c2;have Y:l.findIdx (BY p)<l.length:=by
   obtain⟨x,K,Z⟩:=List.countP_pos_iff.1 (show 0<l.countP (BY p) by omega);exact List.findIdx_lt_length_of_exists ⟨x,K,Z⟩
  rw [RI Y] at h;have Z:BY p l[l.findIdx (BY p)]=true:=List.findIdx_getElem;have K:=O _ (List.getElem_mem Y);have hb:=hw.bd (i:=p) (by omega);obtain⟨ar,e2,au,av,aA,aw⟩:=TG ac K Z hb.1 hb.2;obtain⟨aB,g2⟩:=R2 (F:=0) hw ar e2 au av (by omega) aw ap;obtain⟨k1,ay⟩:=OU ac k _ _ _ r (3*B) (by rw [List.length_eraseIdx_of_lt Y];omega) (λx K=>O x (List.mem_of_mem_eraseIdx K)) g2 (by omega) (by rw [← ao];exact al) (by
   intro d hd
   rcases List.mem_append.1 hd with hd | hd
   ·exact U d hd
   ·cases List.mem_singleton.1 hd
    refine⟨?_,?_,?_,?_,?_,?_⟩ <;> omega) h
  refine⟨k1,?_⟩;rw [ay];simp;omega
end Pal
namespace Pal
def Gv(a b:DT):Bool:=decide (a.1<b.1∨(a.1=b.1/\(a.2.1<b.2.1∨(a.2.1=b.2.1/\a.2.2<b.2.2))))
theorem SB{a b:DT}:Gv a b=true↔a.1<b.1∨(a.1=b.1/\(a.2.1<b.2.1∨(a.2.1=b.2.1/\a.2.2<b.2.2))):=by unfold Gv;exact decide_eq_true_iff
theorem KX{a b:DT}:Gv a b=false↔¬(a.1<b.1∨(a.1=b.1/\(a.2.1<b.2.1∨(a.2.1=b.2.1/\a.2.2<b.2.2)))):=by unfold Gv;exact decide_eq_false_iff_not
theorem Sr{F:Nat}{a b:DT}(K:BD a)(hb:BD b):BL (f113 F a b) (λc=>(c<0↔Gv a b=true)/\(c=0↔a=b)):=by
 obtain⟨a1,O,U,Y,Z,ac⟩:=K;obtain⟨ag,al,am,an,ao,ap⟩:=hb;obtain⟨ax,ar,au⟩:=a;obtain⟨av,aw,ay⟩:=b;simp only at a1 O U Y Z ac ag al am an ao ap;unfold f113;simp only [SB,Prod.mk.injEq];refine Di (λh=>?_) (λh=>?_)
 ·exact BP _ rfl (by omega) (by omega) (AG ⟨by omega,by omega⟩)
 refine Di (λaq=>?_) (λaq=>?_)
 ·exact BP _ rfl (by omega) (by omega) (AG ⟨by omega,by omega⟩)
 ·exact BP _ rfl (by omega) (by omega) (AG ⟨by omega,by omega⟩)
def Gb(x:DT):List DT->List DT
 | []=> [x]
 | y::ys=>if Gv x y=true then x::y::ys else y::Gb x ys
def EN(l:List DT):List DT:=l.foldl (λa x=>Gb x a) []
def NZ(l:List DT):Prop:=l.Pairwise λa b=>Gv b a=false
theorem OK{x d:DT}:∀{l:List DT},d∈Gb x l↔d=x∨d∈l
 | []=>by simp [Gb]
 | y::ys=>by
  unfold Gb
  split
  ·simp
  ·rw [List.mem_cons,OK,List.mem_cons];constructor
   ·rintro(h | h | h)
    ·exact .inr (.inl h)
    ·exact .inl h
    ·exact .inr (.inr h)
   ·rintro(h | h | h)
    ·exact .inr (.inl h)
    ·exact .inl h
    ·exact .inr (.inr h)
theorem RE{x:DT}:∀{l:List DT},(Gb x l).length=l.length+1
 | []=>rfl
 | y::ys=>by
  unfold Gb
  split
  ·rfl
  ·rw [List.length_cons,RE];rfl
theorem Sc{x:DT}:∀{l:List DT},NZ l->NZ (Gb x l)
 | [],_=>List.pairwise_singleton _ _
 | y::ys,h=>by
  obtain⟨U,Y⟩:=List.pairwise_cons.1 h
  unfold Gb
  split
  ·rename_i O
   refine List.pairwise_cons.2 ⟨λz K=>?_,h⟩;have O:=SB.1 O;rcases List.mem_cons.1 K with rfl | K
   ·rw [KX];omega
   ·have:=KX.1 (U z K);rw [KX];omega
  ·rename_i O;refine List.pairwise_cons.2 ⟨λz K=>?_,Sc Y⟩;rcases OK.1 K with rfl | K
   ·exact Bool.eq_false_iff.2 O
   ·exact U z K
theorem RU{x:DT}{B:List DT}(K:∀b∈B,Gv x b=true):∀{A:List DT},(∀a∈A,Gv x a=false)->Gb x (A++B)=A++x::B
 | [],_=>by
  cases B with
  | nil=>rfl
  | cons b bs=>simp only [List.nil_append,Gb,K b List.mem_cons_self,if_true]
 | a::A,O=>by
  have U:=O a List.mem_cons_self
  simp only [List.cons_append,Gb,U]
  rw [if_neg (by decide),RU K λz Y=>O z (List.mem_cons_of_mem _ Y)]
theorem MG(l:List DT)(x:DT):EN (l++ [x])=Gb x (EN l):=by unfold EN;rw [List.foldl_append];rfl
theorem Qz{α:Type}(l:List α):l= []∨∃A y,l=A++ [y]:=by
 rcases List.eq_nil_or_concat l with h | ⟨A,y,h⟩
 ·exact .inl h
 ·exact .inr ⟨A,y,by rw [h,List.concat_eq_append]⟩
theorem R9:∀{k:Nat},k<=10->(3:Int) ^ k<=59049
 | 0,_ | 1,_ | 2,_ | 3,_ | 4,_ | 5,_ | 6,_ | 7,_ | 8,_ | 9,_ | 10,_=>by decide
 | _+11,h=>absurd h (by omega)
theorem M1{α:Type}{P:List α->Prop}(O:P [])(U:∀l x,P l->P (l++ [x])):∀l,P l:=by
 have:∀n (l:List α),l.length=n->P l:=by
  intro n
  induction n with
  | zero=>intro l K;cases List.length_eq_zero_iff.1 K;exact O
  | succ n Y=>
   intro l K;rcases Qz l with rfl | ⟨l',x,rfl⟩
   ·cases K
   ·exact U _ _ (Y _ (by simpa using K))
 exact λl=>this _ l rfl
theorem WH(l:List DT):NZ (EN l):=M1 (P:=λl=>NZ (EN l)) List.Pairwise.nil (λl x h=>by rw [MG];exact Sc h) l
theorem Q7{d:DT}(l:List DT):d∈EN l↔d∈l:=M1 (P:=λl=>d∈EN l↔d∈l) (Iff.rfl) (λl x h=>by rw [MG,OK,h];simp [or_comm]) l
theorem QU(l:List DT):(EN l).length=l.length:=M1 (P:=λl=>(EN l).length=l.length) rfl (λl x h=>by rw [MG,RE,h];simp) l
theorem Xn{F:Nat}{l:List DT}(aD:100<F)(aE:l.length<=20)(hb:∀d∈l,BD d):f193 F l 0 (l.length:Int)=some (EN l):=by
 refine EJ ?_;unfold f193;refine BP 1 rfl (by omega) (by omega) (BA (S:=λr=>r=EN l) ?_ (λr ar=>AG ar));refine Fh (l.length - 1) (λi s=>s.1=((i+1:Nat):Int)/\s.2=EN (l.take (i+1))++l.drop (i+1)) ⟨rfl,?_⟩ (by omega) ?_ ?_
 ·cases l with
  | nil=>rfl
  | cons x xs=>rfl
 ·rintro i ⟨c,w⟩ hi ⟨O,hw⟩;simp only at O hw;subst O;have al:i+1<l.length:=by omega
  unfold Ng;refine Dj (by simp only;omega) ?_;have au:l.drop (i+1)=l[i+1]::l.drop (i+2):=List.drop_eq_getElem_cons al;have an:(EN (l.take (i+1))).length=i+1:=by rw [QU,List.length_take];omega
  have av:∀d∈EN (l.take (i+1)),BD d:=λd hd=>hb d (List.mem_of_mem_take ((Q7 _).1 hd));have aw:BD l[i+1]:=hb _ (List.getElem_mem al);have ay:EN (l.take (i+2))=Gb l[i+1] (EN (l.take (i+1))):=by
   rw [List.take_add_one (i:=i+1),List.getElem?_eq_getElem al];exact MG _ _
  have ao:=WH (l.take (i+1));generalize l[i+1]=x at*;generalize EN (l.take (i+1))=P at*;generalize l.drop (i+2)=R at*;refine BA (S:=λr=>r=Gb x P++R) ?_ ?_
  ·refine OS (λm s=>∃A B,A.length=m/\s.1=((m:Nat):Int)/\s.2=A++x::(B++R)/\A++B=P/\∀b∈B,Gv x b=true) ?_ (m:=i+1) ⟨P,[],an,rfl,by rw [hw,au];rfl,by simp,by simp⟩ (by omega);rintro m ⟨c,v⟩ ⟨A,B,Z,O,U,ac,ap⟩;simp only at O U;subst O;have aF:A.length+B.length=i+1:=by rw [← an,← ac,List.length_append]
   have aq:v[m]? =some x:=by rw [U,List.getElem?_append_right (by omega),Z,Nat.sub_self];rfl
   unfold O3;have stop:(∀a∈A,Gv x a=false)->A++x::(B++R)=Gb x P++R:=by
    intro h;rw [← ac,RU ap h];simp
   refine BA (S:=λc=>(c=true/\∃K y,A=K++ [y]/\Gv x y=true)∨(c=false/\∀a∈A,Gv x a=false)) ?_ ?_
   ·refine Di (λh=>?_) (λh=>?_)
    ·simp only at h;rcases Qz A with rfl | ⟨K,y,rfl⟩
     ·simp at Z;omega
     have az:K.length+1=m:=by simpa using Z
     have am:v[m - 1]? =some y:=by rw [U,List.append_assoc,List.getElem?_append_right (by omega),show m - 1 - K.length=0 by omega];rfl
     refine Bz (K1 rfl aq) (BP ((m - 1:Nat):Int) (by simp only;omega) (by omega) (by omega) ?_);refine Bz (K1 rfl am) ?_;have aA:y∈P:=by rw [← ac];simp
     refine BA (Sr aw (av y aA)) ?_;rintro c ⟨c1,c2⟩;refine AG ?_;by_cases Y:Gv x y=true
     ·exact .inl ⟨decide_eq_true (c1.2 Y),K,y,rfl,Y⟩
     ·refine .inr ⟨decide_eq_false λk=>Y (c1.1 k),λa ag=>?_⟩;rcases List.mem_append.1 ag with ag | ag
      ·rw [← ac,List.append_assoc] at ao;have aB:=(List.pairwise_append.1 ao).2.2 a ag y (by simp);have aG:=KX.1 aB;have aH:=KX.1 (Bool.eq_false_iff.2 Y);rw [KX];omega
      ·cases List.mem_singleton.1 ag;exact Bool.eq_false_iff.2 Y
    ·refine AG (.inr ⟨rfl,?_⟩);have:A= []:=by
      cases A with
      | nil=>rfl
      | cons a A=>simp at Z h;omega
     subst this;simp
   ·rintro c (⟨rfl,K,y,rfl,Y⟩ | ⟨rfl,aC⟩)
    ·have az:K.length+1=m:=by simpa using Z
     have am:v[m - 1]? =some y:=by rw [U,List.append_assoc,List.getElem?_append_right (by omega),show m - 1 - K.length=0 by omega];rfl
     have aI:m<v.length:=by rw [U];simp;omega
     refine Dj rfl (BP ((m - 1:Nat):Int) (by simp only;omega) (by omega) (by omega) ?_);refine BP ((m - 1:Nat):Int) (by simp only;omega) (by omega) (by omega) (Bz (K1 rfl am) ?_);refine Bz (K1 rfl aq) (Eo (m:=m - 1) rfl (by simp only [List.length_set];omega) ?_);refine BP ((m - 1:Nat):Int) (by simp only;omega) (by omega) (by omega) (AG ⟨m - 1,by omega,K,y::B,by omega,rfl,?_,by rw [← ac];simp,λb hb=>?_⟩)
     ·simp only;rw [show Int.toNat ((m:Nat):Int)=K.length+1 by omega,show Int.toNat ((m - 1:Nat):Int)=K.length by omega,U];simp [List.set_append]
     ·rcases List.mem_cons.1 hb with rfl | hb
      ·exact Y
      ·exact ap b hb
    ·exact CW (by simp) (AG (U.trans (stop aC)))
  ·rintro r rfl;refine BP ((i+1+1:Nat):Int) (by simp) (by omega) (by omega) (AG ⟨rfl,?_⟩);simp only;rw [ay]
 ·rintro⟨c,w⟩ ⟨O,hw⟩;simp only at O hw;subst O;unfold Ng;refine CW (by simp only;omega) (AG ⟨_,rfl,?_⟩);simp only;rw [hw,List.take_of_length_le (by omega),List.drop_eq_nil_of_le (by omega),List.append_nil]
theorem XC{F:Nat}:∀n,n<=12->∃r,f115 F (CP ((n:Nat):Int))=some r
 | 0,_ | 1,_ | 2,_ | 3,_ | 4,_ | 5,_ | 6,_ | 7,_ | 8,_ | 9,_ | 10,_ | 11,_ | 12,_=>⟨_,rfl⟩
 | _+13,h=>absurd h (by omega)
theorem XO{F:Nat}{l:List DT}(K:100<F)(O:l.length<=12)(hb:∀d∈l,BD d):f90 F l=some (EN l):=by
 obtain⟨F,rfl⟩:∃k,F=k+1:=⟨F - 1,by omega⟩;obtain⟨x,U⟩:=XC (F:=F+1) l.length O;refine EJ ?_;unfold f90;refine Bz (b:=l) (by unfold f129 L2 Dr;rw [if_pos (by simp;omega)];rfl) (Bz (b:=EN l) ?_ (AG rfl));refine EJ ?_;unfold f130;refine Bz U (Bz (b:=EN l) ?_ (AG rfl));refine EJ ?_;unfold f169;refine BA (S:=λr=>r=Sum.inl (EN l)) ?_ (by rintro r rfl;rw [Sum.elim_inl];exact AG rfl);refine Fh 0 (λ_ _=>True) trivial (by omega) (by intro i s h;omega) ?_;rintro s -;unfold Pe;refine BP (l.length:Int) (by omega) (by omega) (by omega) (Dj (by omega) ?_);exact Bz (Xn K (by omega) hb) (AG ⟨_,rfl,rfl⟩)
def Ja(n:Nat)(w:List Int)(S:List PR):Option (List DT):=(Gn n S.length S w []).map EN
theorem W9{F:Nat}{o:OW}{S:List PR}(K:100<F)(h:VO o)(O:S.length<=10)(U:∀x∈S,VP o.1.length x):f135 F o S=some (match Ja o.1.length (Cp o) S with | none=>([],false) | some r=>(r,true)):=by
 have Y:=h.n5;obtain⟨ac,g2⟩:=LR K h;have Z:(200:Int)*3 ^ S.length<=1000000000000:=by
  have:=R9 O;omega
 have e:=RP (q:=o) K rfl Y S.length F S (Cp o) [] 200 rfl (by omega) O U g2 (by omega) Z (by simp;omega);have e2:f175 F o S=some (match Ja o.1.length (Cp o) S with | none=>(true,default) | some r=>(false,r)):=by
  refine EJ ?_;unfold f175;refine Bz ac ?_;refine Bz (show f203 F S (Cp o) o []=_ from e) ?_;unfold Ja;rcases ag:Gn o.1.length S.length S (Cp o) [] with _ | r
  ·exact Dj rfl (AG rfl)
  ·refine CW (by simp [Mc]) ?_;obtain⟨k1,al⟩:=OU Y S.length S (Cp o) [] r 200 rfl U g2 (by omega) Z (by simp) ag;exact Bz (XO K (by show r.length<=12;rw [al];simp;omega) k1) (AG rfl)
 unfold f135;rw [e2,Option.bind_some];rcases Ja o.1.length (Cp o) S with _ | r
 ·rfl
 ·rfl
def Hw:Nat->List PR->List (List PR)
 | 0,_=> [[]]
 | _+1,[]=> []
 | m+1,x::xs=>(Hw m xs).map (x::·)++Hw (m+1) xs
theorem Ov:∀(m:Nat) (l:List PR),(Hw m l).length<=2 ^ l.length
 | 0,l=>by simp only [Hw,List.length_singleton];exact Nat.one_le_two_pow
 | m+1,[]=>by simp [Hw]
 | m+1,x::xs=>by
  have K:=Ov m xs;have O:=Ov (m+1) xs
  simp only [Hw,List.length_append,List.length_map,List.length_cons]
  rw [Nat.pow_succ];omega
theorem ME{x:PR}:∀{m:Nat} {l c:List PR},c∈Hw m l->c.length=m/\(x∈c->x∈l)
 | 0,l,c,h=>by rw [show Hw 0 l= [[]] by cases l <;> rfl] at h;cases List.mem_singleton.1 h;exact⟨rfl,λh=>by cases h⟩
 | m+1,[],c,h=>by cases h
 | m+1,y::ys,c,h=>by
  rcases List.mem_append.1 h with h | h
  ·obtain⟨U,O,rfl⟩:=List.mem_map.1 h
   have:=ME (x:=x) O;exact⟨by rw [List.length_cons,this.1],λK=>by
    rcases List.mem_cons.1 K with rfl | K
    ·exact List.mem_cons_self
    ·exact List.mem_cons_of_mem _ (this.2 K)⟩
  ·have:=ME (x:=x) h;exact⟨this.1,λK=>List.mem_cons_of_mem _ (this.2 K)⟩
def Dy(n:Nat)(w:List Int)(P:PR->Bool)(m:Nat)(l ys:List PR):List (List DT):=(Hw m (ys.filter P)).filterMap λc=>Ja n w (l++c)
theorem Rr{n:Nat}{w:List Int}{P:PR->Bool}{m:Nat}{l ys:List PR}:(Dy n w P m l ys).length<=2 ^ ys.length:=by
 unfold Dy;refine Nat.le_trans (List.length_filterMap_le _ _) (Nat.le_trans (Ov _ _) ?_);exact Nat.pow_le_pow_right (by decide) (List.length_filter_le _ _)
theorem VR{n:Nat}{w:List Int}{P:PR->Bool}{m:Nat}{l xs:List PR}{x:PR}(h:P x=false):Dy n w P m l (x::xs)=Dy n w P m l xs:=by unfold Dy;rw [List.filter_cons_of_neg (by simp [h])]
theorem Vz{n:Nat}{w:List Int}{P:PR->Bool}{m:Nat}{l xs:List PR}{x:PR}(h:P x=true):Dy n w P (m+1) l (x::xs)=Dy n w P m (l++ [x]) xs++Dy n w P (m+1) l xs:=by
 unfold Dy;rw [List.filter_cons_of_pos h,Hw,List.filterMap_append,List.filterMap_map];congr 2;funext c;simp
theorem SF{F:Nat}{o:OW}{ag m:Nat}{K:List PR}{P:PR->Bool}(al:100<F)(h:VO o)(hm:m<=5)(aq:K.length<=10)(am:∀x∈K,VP o.1.length x)(an:∀x,VP o.1.length x->f136 F ag x.1 x.2=some (!P x)):
  ∀(k N:Nat) (l:List PR) (i:Nat) (b:List (List DT)),l.length+k=m->k<N->i<=K.length->(∀x∈l,VP o.1.length x)->b.length+2 ^ (K.length - i)<=1000000->
   KY N F l (i:Int) (m:Int) o K ag b=some (true,b++Dy o.1.length (Cp o) P k l (K.drop i))
 | 0,N,l,i,b,ar,au,hi,ac,hb=>by
  obtain⟨N,rfl⟩:∃k,N=k+1:=⟨N - 1,by omega⟩
  have aB:1<=2 ^ (K.length - i):=Nat.one_le_two_pow
  refine EJ ?_
  simp only [KY]
  unfold LU
  refine Dj (by omega) ?_
  refine Bz (W9 al h (by omega) ac) ?_
  refine BA (S:=λr=>r=(true,b++Dy o.1.length (Cp o) P 0 l (K.drop i))) ?_ (λr av=>AG av)
  have e:Dy o.1.length (Cp o) P 0 l (K.drop i)=(Ja o.1.length (Cp o) l).toList:=by
   unfold Dy;simp only [Hw,List.filterMap_cons,List.append_nil,List.filterMap_nil];cases Ja o.1.length (Cp o) l <;> rfl
  rw [e];rcases Ja o.1.length (Cp o) l with _ | r
  ·exact Dj rfl (AG (by simp))
  ·exact CW (by simp) (Lz (by omega) (AG rfl))
 | k+1,N,l,i,b,ar,au,hi,ac,hb=>by
  obtain⟨N,rfl⟩:∃k,N=k+1:=⟨N - 1,by omega⟩;refine EJ ?_;simp only [KY];unfold LU;refine CW (by omega) (BA (S:=λr=>r=Sum.inr (b++Dy o.1.length (Cp o) P (k+1) l (K.drop i))) ?_ (by rintro r rfl;rw [Sum.elim_inr];exact AG rfl));refine OS (λz s=>∃j,z=K.length - j/\j<=K.length/\s.2=((j:Nat):Int)/\s.1++Dy o.1.length (Cp o) P (k+1) l (K.drop j)=b++Dy o.1.length (Cp o) P (k+1) l (K.drop i)/\s.1.length+2 ^ (K.length - j)<=1000000) ?_ (m:=K.length - i) ⟨i,rfl,hi,rfl,rfl,hb⟩ (by omega);rintro z ⟨acc,c⟩ ⟨j,rfl,aC,ao,he,hlen⟩;simp only at ao he hlen;subst ao;unfold O2;refine Di (λaw=>?_) (λay=>?_)
  ·simp only at aw;have O:j<K.length:=by omega
   have hd:K.drop j=K[j]::K.drop (j+1):=List.drop_eq_getElem_cons O;have ap:=am _ (List.getElem_mem O);have aD:2 ^ (K.length - j)=2 ^ (K.length - (j+1))+2 ^ (K.length - (j+1)):=by
    rw [show K.length - j=K.length - (j+1)+1 by omega,Nat.pow_succ];omega
   have aE:0<2 ^ (K.length - (j+1)):=Nat.two_pow_pos _;refine BA (S:=λr=>∃Y,r=Sum.inr Y/\Y++Dy o.1.length (Cp o) P (k+1) l (K.drop (j+1))=acc++Dy o.1.length (Cp o) P (k+1) l (K.drop j)/\Y.length+2 ^ (K.length - (j+1))<=1000000) ?_ ?_
   ·refine Eo (m:=j) rfl O (Eo (m:=j) rfl O ?_);refine Bz (an _ ap) ?_;by_cases Z:P K[j]=true
    ·refine CW (by simp [Z]) ?_;refine Eo (m:=j) rfl O ?_;refine BP ((j+1:Nat):Int) (by simp) (by omega) (by omega) ?_;refine BL.Lk (by simp;omega) ?_;refine Bz (SF al h hm aq am an k N (l++ [K[j]]) (j+1) acc (by simp;omega) (by omega) (by omega) (λx U=>by
      rcases List.mem_append.1 U with U | U
      ·exact ac x U
      ·cases List.mem_singleton.1 U;exact ap) (by omega)) ?_
     refine CW (by simp) (AG ⟨_,rfl,?_,?_⟩)
     ·rw [hd,Vz Z,List.append_assoc]
     ·have:=Rr (n:=o.1.length) (w:=Cp o) (P:=P) (m:=k) (l:=l++ [K[j]]) (ys:=K.drop (j+1));rw [List.length_drop] at this;rw [List.length_append];omega
    ·refine Dj (by simp [Z]) (AG ⟨_,rfl,?_,by simp only;omega⟩);rw [hd,VR (Bool.eq_false_iff.2 Z)]
   ·rintro r ⟨Y,rfl,az,aA⟩;rw [Sum.elim_inr];exact BP ((j+1:Nat):Int) (by simp) (by omega) (by omega) (AG ⟨K.length - (j+1),by omega,j+1,rfl,by omega,rfl,az.trans he,aA⟩)
  ·simp only at ay;refine AG ?_;have:K.drop j= []:=List.drop_eq_nil_of_le (by omega);rw [this] at he;show Sum.inr _=_;rw [← he];unfold Dy;simp [Hw]
def FW(n:Nat)(w:List Int)(P:PR->Bool):List (List DT):=(((List.range n).map λm=>Dy n w P m [] (EK n)).find? λl=> !l.isEmpty).getD []
theorem Zg{F O:Nat}{o:OW}{P:PR->Bool}(Y:100<F)(h:VO o)(ag:∀x,VP o.1.length x->f136 F O x.1 x.2=some (!P x)):f71 F o O=some (FW o.1.length (Cp o) P):=by
 have Z:=h.n5;have al:=QE Z;refine EJ ?_;unfold f71;have am:∀m,m<=5->f132 F o ((m:Nat):Int) O []=some (Dy o.1.length (Cp o) P m [] (EK o.1.length)):=by
  intro m hm;refine EJ ?_;unfold f132;refine Bz (XA Y Z) ?_;have an:2 ^ ((EK o.1.length).length - 0)<=2 ^ 10:=Nat.pow_le_pow_right (by decide) (by omega);exact Bz (show f134 F [] 0 (m:Int) o (EK o.1.length) O []=_ from SF Y h hm al (λx ao=>Ru ao) ag m F [] 0 [] (by simp) (by omega) (by omega) (by simp) (by simp at an ⊢;omega)) (AG (by simp))
 refine Fh o.1.length (λi s=>s=(i:Int)/\∀j,j<i->Dy o.1.length (Cp o) P j [] (EK o.1.length)= []) ⟨rfl,by simp⟩ (by omega) ?_ ?_
 ·rintro i s hi ⟨rfl,U⟩;unfold NF;refine Dj (by omega) (Bz (am i (by omega)) ?_);refine Di (λac=>AG ?_) (λaq=>?_)
  ·show _=_;unfold FW;rw [List.find?_map,show(List.range o.1.length).find? _=some i from List.find?_range_eq_some.2 ⟨?_,List.mem_range.2 hi,λj K=>?_⟩]
   ·rfl
   ·simp only [Function.comp];cases ap:Dy o.1.length (Cp o) P i [] (EK o.1.length) with
    | nil=>rw [ap] at ac;simp at ac
    | cons=>rfl
   ·simp only [Function.comp];rw [U j K];rfl
  ·refine BP ((i+1:Nat):Int) (by simp) (by omega) (by omega) (AG ⟨rfl,λj K=>?_⟩);rcases Nat.lt_succ_iff_lt_or_eq.1 K with K | rfl
   ·exact U j K
   ·exact List.length_eq_zero_iff.1 (by omega)
 ·rintro s ⟨rfl,U⟩;unfold NF;refine CW (by omega) (AG ⟨_,rfl,?_⟩);unfold FW;rw [List.find?_map,show(List.range o.1.length).find? _=none from List.find?_eq_none.2 ?_]
  ·rfl
  ·intro j K;simp only [Function.comp];rw [U j (List.mem_range.1 K)];simp
theorem Yv{F n:Nat}(U:n<=5)(x:PR)(K:VP n x):f136 F 0 x.1 x.2=some (!(λ_=>true) x):=by
 obtain⟨Y,Z,ac⟩:=K;obtain⟨a,O⟩:∃a:Nat,x.1=(a:Int):=⟨x.1.toNat,by omega⟩;obtain⟨b,hb⟩:∃b:Nat,x.2=(b:Int):=⟨x.2.toNat,by omega⟩;rw [O,hb];have:b<=4:=by omega
 have:a<b:=by omega
 match a,b with
 | 0,1 | 0,2 | 0,3 | 0,4 | 1,2 | 1,3 | 1,4 | 2,3 | 2,4 | 3,4=>rfl
 | 0,0=>omega
 | a+1,0=>omega
 | a+1,1=>omega
 | a+2,2=>omega
 | a+3,3=>omega
 | a+4,4=>omega
 | a,b+5=>omega
abbrev Ij(o:OW):List (List DT):=FW o.1.length (Cp o) λ_=>true
theorem TH{F:Nat}{o:OW}(K:100<F)(h:VO o):f71 F o 0=some (Ij o):=Zg K h λx O=>Yv h.n5 x O
theorem Wu{n:Nat}{w:List Int}{P:PR->Bool}{m:Nat}{s:List DT}(U:n<=5)(hm:m<=5)(hw:BN 200 w)(K:s∈Dy n w P m [] (EK n)):s.length=m/\∀d∈s,BD d:=by
 unfold Dy at K;obtain⟨c,O,K⟩:=List.mem_filterMap.1 K;rw [List.nil_append] at K;unfold Ja at K;obtain⟨r,Y,rfl⟩:=Option.map_eq_some_iff.1 K;have Z:=(ME (x:=(0,0)) O).1;have ac:∀x∈c,VP n x:=λx ag=>Ru (List.mem_filter.1 ((ME O).2 ag)).1;have al:(200:Int)*3 ^ c.length<=1000000000000:=by
  have:=R9 (k:=c.length) (by omega);omega
 obtain⟨k1,am⟩:=OU U c.length c w [] r 200 rfl ac hw (by omega) al (by simp) Y;refine⟨by rw [QU,am,Z];simp,λd hd=>k1 d ((Q7 _).1 hd)⟩
theorem Xm{n:Nat}{w:List Int}{P:PR->Bool}:FW n w P= []∨∃m,m<n/\FW n w P=Dy n w P m [] (EK n)/\(∀j,j<m->Dy n w P j [] (EK n)= []):=by
 unfold FW;rw [List.find?_map];rcases h:(List.range n).find? ((λl:List (List DT)=> !l.isEmpty)∘λm=>Dy n w P m [] (EK n)) with _ | m
 ·exact .inl rfl
 ·obtain⟨Y,K,O⟩:=List.find?_range_eq_some.1 h;refine .inr ⟨m,List.mem_range.1 K,rfl,λj U=>?_⟩;have:=O j U;simpa using this
theorem S3{n:Nat}{w:List Int}{P:PR->Bool}(K:n<=5)(hw:BN 200 w):(FW n w P).length<=1024/\∃m,m<=5/\∀s∈FW n w P,s.length=m/\∀d∈s,BD d:=by
 rcases Xm (n:=n) (w:=w) (P:=P) with h | ⟨m,hm,h,_⟩
 ·rw [h];exact⟨by simp,0,by omega,by simp⟩
 ·rw [h];refine⟨?_,m,by omega,λs O=>Wu K (by omega) hw O⟩;exact Nat.le_trans Rr (Nat.le_trans (Nat.pow_le_pow_right (by decide) (QE K)) (by decide))
def FX:List DT->List DT->Bool
 | [],[]=>false
 | [],_::_=>true
 | _::_,[]=>false
 | x::xs,y::ys=>if x=y then FX xs ys else Gv x y
theorem ON{a b:List DT}:∀{i:Nat},i<=a.length->i<=b.length->a.take i=b.take i->FX a b=FX (a.drop i) (b.drop i):=by
 induction a generalizing b with
 | nil=>intro i K _ _;simp at K;subst K;simp
 | cons x xs U=>
  intro i K O h;cases i with
  | zero=>simp
  | succ i=>
   cases b with
   | nil=>simp at O
   | cons y ys=>
    simp only [List.take_succ_cons,List.cons.injEq] at h;simp only [List.drop_succ_cons];rw [FX,if_pos h.1];exact U (by simpa using K) (by simpa using O) h.2
theorem Xw{F:Nat}{a b:List DT}(al:100<F)(am:a.length<=40)(U:∀d∈a,BD d)(Y:∀d∈b,BD d):BL (f112 F a b) (λc=>c<0↔FX a b=true):=by
 unfold f112;refine BA (S:=λr=>(∃c,r=Sum.inl c/\(c<0↔FX a b=true))∨(r=Sum.inr ()/\a.length<=b.length/\a=b.take a.length)) ?_ ?_
 ·refine Fh a.length (λi s=>s=(i:Int)/\i<=b.length/\a.take i=b.take i) ⟨rfl,by simp,by simp⟩ (by omega) ?_ ?_
  ·rintro i s hi ⟨rfl,K,he⟩;unfold M8;have O:a.drop i=a[i]::a.drop (i+1):=List.drop_eq_getElem_cons hi;refine Dj (by omega) (Eo (m:=i) rfl hi ?_);refine Di (λh=>AG (.inl ⟨1,rfl,?_⟩)) (λh=>?_)
   ·rw [ON (i:=i) (by omega) K he,O,List.drop_eq_nil_of_le (by omega:b.length<=i)];simp [FX]
   have hb:i<b.length:=by omega
   have Z:b.drop i=b[i]::b.drop (i+1):=List.drop_eq_getElem_cons hb;refine Eo (m:=i) rfl hb ?_;refine BA (Sr (U _ (List.getElem_mem hi)) (Y _ (List.getElem_mem hb))) ?_;rintro c ⟨c1,c2⟩;refine Di (λh=>AG (.inl ⟨c,rfl,?_⟩)) (λh=>?_)
   ·rw [ON (i:=i) (by omega) K he,O,Z,FX,if_neg (λk=>h (c2.2 k))];exact c1
   ·have heq:=c2.1 (Decidable.not_not.1 h);refine BP ((i+1:Nat):Int) (by simp) (by omega) (by omega) ?_;refine AG ⟨rfl,by omega,?_⟩;rw [List.take_add_one,List.take_add_one,he,List.getElem?_eq_getElem hi,List.getElem?_eq_getElem hb,heq]
  ·rintro s ⟨rfl,K,he⟩;unfold M8;rw [List.take_length] at he;exact CW (by omega) (AG ⟨_,rfl,.inr ⟨rfl,K,he⟩⟩)
 ·rintro r (⟨c,rfl,ac⟩ | ⟨rfl,ag,he⟩)
  ·rw [Sum.elim_inl];exact AG ac
  ·rw [Sum.elim_inr];have e:FX a b=FX [] (b.drop a.length):=by
    rw [ON (i:=a.length) (Nat.le_refl _) ag (by rw [List.take_length];exact he),List.drop_length]
   refine Di (λh=>AG ?_) (λh=>AG ?_)
   ·rw [e];cases hd:b.drop a.length with
    | nil=>have:=congrArg List.length hd;simp at this;omega
    | cons=>simp [FX]
   ·rw [e,List.drop_eq_nil_of_le (by omega)];simp [FX]
def F7(b:List DT×Bool)(x:List DT):List DT×Bool:=if(!b.2 || FX x b.1)=true then(x,true) else b
def K4(l:List (List DT)):List DT:=(l.foldl F7 ([],false)).1
theorem SN{F:Nat}{o:OW}(aq:2000<F)(h:VO o):f22 F o=some (K4 (Ij o),0):=by
 obtain⟨ar,al⟩:=LR (F:=F) (by omega) h;obtain⟨am,m,hm,an⟩:=S3 (P:=λ_=>true) h.n5 al;refine EJ ?_;unfold f22;refine Bz (PS (by omega) h) (CW (by simp) ?_);refine Bz (TH (by omega) h) (BA (S:=λr=>r.1=K4 (Ij o)) ?_ (λr Z=>AG (by rw [Z])));have ao:(Ij o).length<=1024:=am;have ac:∀s∈Ij o,s.length=m/\∀d∈s,BD d:=an;generalize Ij o=L at ao ac ⊢;refine Fh L.length (λi s=>s.2.2=(i:Int)/\(s.1,s.2.1)=(L.take i).foldl F7 ([],false)/\∀d∈s.1,BD d) ⟨rfl,rfl,by simp⟩ (by omega) ?_ ?_
 ·rintro i ⟨b,t,c⟩ hi ⟨K,O,U⟩;simp only at K O U;subst K;obtain⟨au,ag⟩:=ac _ (List.getElem_mem hi);have ap:(L.take (i+1)).foldl F7 ([],false)=F7 (b,t) L[i]:=by
   rw [List.take_add_one,List.getElem?_eq_getElem hi,List.foldl_append,← O];rfl
  unfold NA;refine Dj (by simp only;omega) (Eo (m:=i) rfl hi ?_);refine Bz (b:=F7 (b,t) L[i]) ?_ ?_
  ·refine EJ ?_;unfold f72;refine BA (S:=λc=>c=(!t || FX L[i] b)) ?_ ?_
   ·refine Di (λh=>AG ?_) (λh=>?_)
    ·simp only at h;rw [h];rfl
    ·simp only at h;obtain rfl:t=true:=by simpa using h
     refine BA (S:=λc=>c=FX L[i] b) ?_ (λc K=>AG (by rw [K];simp));unfold f73 f74;refine BA (S:=λc=>c<0↔FX L[i] b=true) (BA (Xw (by omega) (by omega) ag U) (λc K=>AG K)) ?_;intro c K;refine AG ?_;by_cases Y:FX L[i] b=true
     ·rw [Y];exact decide_eq_true (K.2 Y)
     ·rw [Bool.eq_false_iff.2 Y];exact decide_eq_false λk=>Y (K.1 k)
   ·rintro c rfl;refine BA (S:=λr=>r=F7 (b,t) L[i]) ?_ (λr Z=>AG Z);unfold F7;refine Di (λh=>AG ?_) (λh=>AG ?_)
    ·rw [if_pos h]
    ·rw [if_neg h]
  ·refine BP ((i+1:Nat):Int) (by simp) (by omega) (by omega) (AG ⟨rfl,ap.symm,?_⟩);simp only;unfold F7;split
   ·exact ag
   ·exact U
 ·rintro⟨b,t,c⟩ ⟨K,O,U⟩;simp only at K O U;subst K;rw [List.take_length] at O;unfold NA;refine CW (by simp) (AG ⟨_,rfl,?_⟩);simp only;unfold K4;rw [← O]
theorem Td{F:Nat}{o:OW}(K:2000<F)(h:VO o):f24 F o=some (((Ij o).length:Int),0):=by
 refine EJ ?_;unfold f24;refine Bz (PS (by omega) h) (CW (by simp) ?_);exact Bz (TH (by omega) h) (AG rfl)
theorem S6{F:Nat}{o:OW}(U:2000<F)(h:VO o):f43 F o=some ((Cp o).take o.1.length,0):=by
 obtain⟨K,O⟩:=LR (F:=F) (by omega) h;have Y:=h.n5;have Z:=O.1;refine EJ ?_;unfold f43;refine Bz (PS (by omega) h) (CW (by simp) ?_);refine Bz K (Bz (b:=(Cp o).take o.1.length) (by unfold GJ;rw [if_pos (by omega)];simp) ?_);exact Bz (b:=(Cp o).take o.1.length) (by unfold f87 Mb Dr;rw [if_pos (by simp;omega)];rfl) (AG rfl)
theorem Vt{l:List (List DT)}:K4 l= []∨K4 l∈l:=by
 have:∀l:List (List DT),(l.foldl F7 ([],false)).1= []∨(l.foldl F7 ([],false)).1∈l:=by
  intro l;refine M1 (P:=λl=>(l.foldl F7 ([],false)).1= []∨(l.foldl F7 ([],false)).1∈l) (.inl rfl) (λl x h=>?_) l;rw [List.foldl_append];show(F7 _ x).1= []∨(F7 _ x).1∈l++ [x];generalize l.foldl F7 ([],false)=b at*;unfold F7;split
  ·exact .inr (by simp)
  ·rcases h with h | h
   ·exact .inl h
   ·exact .inr (List.mem_append_left _ h)
 exact this l
theorem Uq{o:OW}(h:VO o):(K4 (Ij o)).length<=5:=by
 obtain⟨U,K⟩:=LR (F:=101) (by omega) h;obtain⟨Y,m,hm,O⟩:=S3 (P:=λ_=>true) h.n5 K;rcases Vt (l:=Ij o) with e | e
 ·rw [e];simp
 ·have:=(O _ e).1;omega
end Pal
namespace Pal
theorem YQ{F:Nat}{o x:OW}(K:2000<F)(h:VO o)(O:VO x)(U:o.1.length=x.1.length)(Y:Cp o=Cp x):f35 F o x=some true:=by
 have e:Ij o=Ij x:=by show FW _ _ _=FW _ _ _;rw [U,Y]
 have Z:=h.n5;refine EJ ?_;unfold f35;refine Bz (S6 K h) ?_;refine Bz (S6 K O) ?_;refine Bz (SN K h) ?_;refine Bz (SN K O) ?_;refine Bz (Td K h) ?_;refine Bz (Td K O) ?_;rw [e,U,Y];simp only [if_true,Option.bind_some,decide_true];refine BA (S:=λr=>r=true) (Bz (X7 (by omega) (by rw [List.length_take];omega)) (AG rfl)) ?_;rintro r rfl;refine BA (S:=λr=>r=true) (Dj rfl (Bz (YI (by omega) (by have:=Uq O;omega)) (AG rfl))) ?_;rintro r rfl;exact AG rfl
theorem VO.snoc{o:OW}{d:DT}(h:VO o)(O:o.2.length<=7)(hd:VD o.1.length d):VO (o.1,o.2++ [d]):=by
 refine⟨h.n2,h.n5,h.cs,by simp;omega,λx K=>?_⟩;rcases List.mem_append.1 K with K | K
 ·exact h.ds x K
 ·cases List.mem_singleton.1 K;exact hd
theorem LB(o:OW)(d:DT):Cp (o.1,o.2++ [d])=JE (Cp o) d:=by unfold Cp;rw [List.foldl_append];rfl
theorem LS{w:List Int}{d:DT}(h:w.length=5)(a1:0<=d.1)(K:d.1<5)(O:0<=d.2.1)(U:d.2.1<5)(j:Nat):gN (JE w d) j=gN w j+(if(j:Int)=d.2.1 then d.2.2 else 0)+(if(j:Int)=d.1 then -d.2.2 else 0):=by
 unfold JE;rw [SY (by unfold IH;rw [List.length_set];exact h) a1 K,SY h O U]
theorem MV{w:List Int}{d:DT}(h:w.length=5):(JE w d).length=5:=by unfold JE IH;rw [List.length_set,List.length_set];exact h
theorem PD{F n:Nat}{o:OW}{d:DT}(h:NV n o)(K:n<100):f38 F o d=some (o.1,o.2++ [d]):=EJ (YC h K)
theorem R3{n:Nat}{x k:Int}(U:2<=n)(Y:0<=x)(Z:x<n)(k1:1<=k)(ac:k<=(n:Int) - 1):0<=(x+k).tmod n/\(x+k).tmod n<n/\(x+k).tmod n≠x:=by
 have e:(x+k).tmod n=(x+k) % n:=Int.tmod_eq_emod_of_nonneg (by omega);have K:(x+k) % (n:Int)<n:=Int.emod_lt_of_pos _ (by omega);have O:0<=(x+k) % (n:Int):=Int.emod_nonneg _ (by omega);rw [e];refine⟨O,K,?_⟩;rcases Int.lt_or_le (x+k) n with h | h
 ·rw [Int.emod_eq_of_lt (by omega) h];omega
 ·rw [Re,Int.emod_eq_of_lt (by omega) (by omega)];omega
theorem Zk{F:Nat}(aq:2000<F)(ar:f18 F=some true)(TS:List Int):f5 F TS=some true:=by
 refine EJ ?_;unfold f5;refine BA (S:=λb=>BG 0 b) ?_ ?_
 ·unfold f20;exact AG ⟨Int.le_refl 0,Int.le_refl 0⟩
 intro b hb;refine BA (XT (pm:=5) (dm:=5) (by omega) hb (by omega) (by omega) (by omega) (by omega)) ?_;rintro⟨o,aG⟩ ⟨K,au,hd,Z⟩;simp only at K au hd Z ⊢;have ac:=K.n2;generalize aH:o.1.length=n at*;refine BP ((n:Int) - 1) rfl (by omega) (by omega) (BA (Kd Z (by omega) (by omega)) ?_);rintro⟨x,aI⟩ ⟨O,x2,g2⟩;simp only at O x2 g2 ⊢;refine BA (K0 g2 (by omega) (by omega) (by omega) (by omega)) ?_;rintro⟨p,aJ⟩ ⟨p1,p2,ag⟩;simp only at p1 p2 ag ⊢;refine BP ((n:Int) - 1) rfl (by omega) (by omega) (BA (K0 ag (by omega) (by omega) (by omega) (by omega)) ?_);rintro⟨k,aK⟩ ⟨k1,al,am⟩;simp only at k1 al am ⊢;refine BP (x+k) rfl (by omega) (by omega) ?_;have av:x<n:=by omega
 obtain⟨U,aw,ay⟩:=R3 ac O av k1 al;refine Bz (b:=(x+k).tmod n) (by unfold JH;rw [if_neg (by omega)]) ?_;generalize (x+k).tmod n=y at*;refine BP ((n:Int) - 1) rfl (by omega) (by omega) (BA (K0 am (by omega) (by omega) (by omega) (by omega)) ?_);rintro⟨k',aL⟩ ⟨an,ao,az⟩;simp only at an ao az ⊢;refine BP (y+k') rfl (by omega) (by omega) ?_;obtain⟨z1,aM,aA⟩:=R3 ac U aw an ao;refine Bz (b:=(y+k').tmod n) (by unfold JH;rw [if_neg (by omega)]) ?_;generalize (y+k').tmod n=z at*;have ap:=K.snoc (d:=(x,y,p)) (by omega) ⟨O,by simp only;omega,U,by simp only;omega,λe=>ay e.symm,p1,p2⟩;have aB:=ap.snoc (d:=(y,z,p)) (by simp;omega) ⟨U,by simp only;omega,z1,by simp only;omega,λe=>aA e.symm,p1,p2⟩;refine Bz (PD K.nv (by omega)) (Bz (PD ap.nv (by omega)) ?_);obtain⟨-,Y,-⟩:=LR (F:=F) (by omega) K;have n5:=K.n5;have w1:(JE (Cp o) (x,y,p)).length=5:=MV Y;refine BA (S:=λq=>VO q/\o.1.length=q.1.length/\Cp (o.1,o.2++ [(x,y,p)]++ [(y,z,p)])=Cp q) ?_ ?_
 ·refine Di (λh=>?_) (λh=>AG ⟨K,rfl,?_⟩)
  ·refine Bz (PD K.nv (by omega)) (AG ⟨K.snoc (by omega) ⟨O,by simp only;omega,z1,by simp only;omega,h,p1,p2⟩,rfl,?_⟩);rw [LB (o.1,o.2++ [(x,y,p)]),LB o,LB o];refine Ri (MV w1) (MV Y) λj aC=>?_;rw [LS w1 U (by simp only;omega) z1 (by simp only;omega),LS Y O (by simp only;omega) U (by simp only;omega),LS Y O (by simp only;omega) z1 (by simp only;omega)];simp only;split <;> split <;> split <;> (try split) <;> omega
  ·have h:=Decidable.not_not.1 h;rw [LB (o.1,o.2++ [(x,y,p)]),LB o];refine Ri (MV w1) Y λj aC=>?_;rw [LS w1 U (by simp only;omega) z1 (by simp only;omega),LS Y O (by simp only;omega) U (by simp only;omega)];simp only;split <;> split <;> (try split) <;> (try split) <;> omega
 ·rintro q ⟨aD,aE,aF⟩;refine Bz (YQ aq aB aD aE aF) (BA (S:=λr=>r=true) (Dj rfl (Bz ar (AG rfl))) ?_);rintro r rfl;exact AG rfl
end Pal
