/- DebtGroups: a part (5 of 8) of the proof of its row. -/
import Derived.Test.YtmeophcclkejkaaGreatGra
import Derived.Test.YtmeophcclkejkaaGreatGrb
import Derived.Test.YtmeophcclkejkaaGreatGrc
import Derived.Test.YtmeophcclkejkaaGreatGrd
set_option linter.all false
set_option maxRecDepth 100000
namespace Pal
open Go Go.Conc Go.Conc.Lib Go.Proofs Go.ConcR.Gen
theorem JL.uA{J:Judge Tryz.prog}{F:Fam}{Q:GP}{b:Frame}{n:Nat}{L:Env}{ds:Ld_}{k:Li_}{cs:Lf_}{s:St}{ops:Ao_}{i:Nat}{rest:List Nat}{d:Option Tmp}{x:Operand}{ty:TypeId}{p:String}{af:Ae_}{g:On_}(K:Fa b n L ops i=some ⟨d,.fieldAddr 140 x 0,ty,p,af,g⟩)(O:ev L x=some (.pointer (some F.uA)))(h:JL J Q b n (Au L d (.pointer (some F.uA))) ds (.inRegion ops rest::k) cs s):JL J Q b n L ds (.inRegion ops (i::rest)::k) cs s:=Am K (λρ h=>Gi (a:=F.uA) 0 0 Tryz.underlying140 (AQ Tryz.type21) rfl rfl rfl (h _ _ O)) h
theorem Xv{P:Program}{J:Judge P}{Q:GP}{n:Nat}{L:Env}{ds:Ld_}{c:Code}{k:Li_}{cs:Lf_}{s:St}{b:Frame}(h:∀K,K=k->JL J Q b n L ds (.code c::K) cs s):JL J Q b n L ds (.code c::k) cs s:=h _ rfl
theorem Tb{P:Program}{J:Judge P}{Q:GP}{n:Nat}{L:Env}{ds:Ld_}{k:Li_}{cs:Lf_}{s:St}{b:Frame}(h:∀K,K=k->JL J Q b n L ds K cs s):JL J Q b n L ds k cs s:=h _ rfl
theorem H7:(Tryz.prog.funcs[189]?).any (·.norace)=true:=by rw [Tryz.func189];rfl
theorem Zd:(Tryz.prog.funcs[163]?).any (·.norace)=true:=by rw [Tryz.func163];rfl
theorem Zg:(Tryz.prog.funcs[191]?).any (·.norace)=true:=by rw [Tryz.func191];rfl
theorem Pl:(Tryz.prog.funcs[211]?).any (·.norace)=true:=by rw [Tryz.func211];rfl
theorem OC:(Tryz.prog.info? 140).map (λi=>decide (i.size=0))=some false:=(congrArg (Option.map (λi=>decide (i.size=0))) Tryz.type140).trans rfl
abbrev GJ:=Bool×Bool×Nat×M4×Int
def Td(a:GJ):Prop:=(a.2.1=true->a.2.2.2.1.k=true)/\a.2.2.1<=4/\CR a.2.2.2.1
def Pm(a:GJ):LP:= .Ca a.1 a.2.1 a.2.2.1 a.2.2.2.1
theorem WH{F:Fam}{sv aw:Bool}{it:Nat}{old:M4}{q:Nat}(h:old.l=false/\old.s=false):(mN sv aw old,q,#[Fam.B6 F.uA,Fam.Ee F.uA],some LP.len)∈F.BQ (.Ca sv aw it old) old q:=by
 obtain⟨l,k,s,w⟩:=old;obtain⟨K,O⟩:=h;simp only at K O;subst K O;simp [Fam.BQ,Fam.Fl,mN]
theorem Q6{F:Fam}{sv aw:Bool}{it:Nat}{old:M4}{q:Nat}(h:¬(old.l=false/\old.s=false))(x:LP)(K:x= .H3 sv∨x= .Cl sv):(mN sv aw old,q,#[Fam.B6 F.uA,Fam.Ee F.uA],some x)∈F.BQ (.Ca sv aw it old) old q:=by
 obtain⟨l,k,s,w⟩:=old;show _∈F.Fl _ _ _ _ _ _;unfold Fam.Fl;rw [List.mem_append];right;rw [if_pos rfl,if_neg h];cases l <;> cases s <;> simp [mN] at h ⊢ <;> rcases K with rfl | rfl <;> simp
theorem VB{F:Fam}{sv aw:Bool}{it:Nat}{old m:M4}{q:Nat}(h:m≠old):(m,q,#[Fam.B6 F.uA],some (LP.DO sv aw it))∈F.BQ (.Ca sv aw it old) m q:=by
 show _∈F.Fl _ _ _ _ _ _;unfold Fam.Fl;rw [List.mem_append];right;rw [if_neg h];exact List.mem_singleton.2 rfl
theorem Xc{F:Fam}{sv:Bool}{it:Nat}{old:M4}{q:Nat}(K:old.l=true/\old.s=false)(O:it<4)(U:old.k=false)(Y:old.w≠0):(({old with k:=true}:M4),q,#[Fam.B6 F.uA,Fam.Ee F.uA],some (LP.DO sv true (it+1)))∈F.BQ (.Ca sv false it old) old q:=by
 show _∈F.Fl _ _ _ _ _ _;unfold Fam.Fl;rw [List.mem_append];left;rw [if_pos ⟨K.1,K.2,O⟩,if_pos ⟨rfl,U,Y⟩,if_pos rfl];exact List.mem_singleton.2 rfl
theorem WQ{F:Fam}{sv:Bool}{it:Nat}{old m:M4}{q:Nat}(K:old.l=true/\old.s=false)(O:it<4)(U:old.k=false)(Y:old.w≠0)(hm:m≠old):(m,q,#[Fam.B6 F.uA],some (LP.DO sv false (it+1)))∈F.BQ (.Ca sv false it old) m q:=by
 show _∈F.Fl _ _ _ _ _ _;unfold Fam.Fl;rw [List.mem_append];left;rw [if_pos ⟨K.1,K.2,O⟩,if_pos ⟨rfl,U,Y⟩,if_neg hm];exact List.mem_singleton.2 rfl
theorem OH{F:Fam}{sv aw:Bool}{it:Nat}{old m:M4}{q:Nat}(K:old.l=true/\old.s=false)(O:it<4)(U:¬(aw=false/\old.k=false/\old.w≠0)):(m,q,#[],some (LP.Ca sv aw (it+1) m))∈F.BQ (.Ca sv aw it old) m q:=by
 show _∈F.Fl _ _ _ _ _ _;unfold Fam.Fl;rw [List.mem_append];left;rw [if_pos ⟨K.1,K.2,O⟩,if_neg U];exact List.mem_singleton.2 rfl
theorem GM(m:M4)(h:m.s=true):m={m with l:=m.l || !m.s}:=by
 obtain⟨l,k,s,w⟩:=m;simp only at h;subst h;simp
set_option maxHeartbeats 4000000 in
theorem UN{F:Fam}{n:Nat}{L:Env}{ds:Ld_}{k:Li_}{cs:Lf_}{s:St}{b:Frame}{ops:Ao_}{i:Nat}{rest:List Nat}{d:Option Tmp}{x:Operand}{ats:Array TypeId}{ty:TypeId}{pp:String}{af:Ae_}{g:On_}{kk:Nat}(aa:s.q=false)(a2:ops[i]? =some ⟨d,.call ⟨.value (.func 189),#[x],ats⟩,ty,pp,af,g⟩)(hw:AM L ops ⟨d,.call ⟨.value (.func 189),#[x],ats⟩,ty,pp,af,g⟩=some true)(a3:((b.kind != .early)&&Bg n d)=true)(a4:ev L x=some (.pointer (some F.uA)))
  (h:JL (AR Tryz.prog false) (Stop Tryz.prog F (.lk kk .EP)) b n (Au L d (.tuple #[])) ds (.inRegion ops rest::k) cs s):
  JL (AR Tryz.prog false) (Stop Tryz.prog F (.lk kk (.DO false false 0))) b n L ds (.inRegion ops (i::rest)::k) cs s:=by
 refine G1 (vs:= [.pointer (some F.uA)]) a2 hw a3 Tryz.func189 (by decide+kernel) rfl (by simp [evs,a4]) (Nat.le_of_ble_eq_true rfl) λaO back=>zg 20 rfl (JL.uA rfl rfl ?_);refine GZ (kk:=kk) (p:= .DO false false 0) CJ.stop aa rfl rfl rfl rfl rfl GR H7 rfl λaP bi aJ=>⟨some (.Ca false false 0 aP),List.mem_singleton.2 rfl,?_⟩;refine zg 3 rfl (Xv λa5 a6=>?_);have am:∀X:Ph->GP,CJ Tryz.prog F X->(∀p g s,Stop Tryz.prog F p g s->X p g s)->∀L',look L' 0=some (.pointer (some F.uA))->JL (AR Tryz.prog false) (X (.lk kk .len)) (base 189) Tryz.f189.ntmps L' [] a5 (aO::cs) s:=by
  intro X O aj L' a7;rw [a6];refine EK (L':= [(0,.pointer (some F.uA))]) ⟨a7,trivial⟩ (zg 3 rfl ?_);refine KQ (kk:=kk) (p:= .len) O aa rfl (λ_ _=>rfl) rfl rfl rfl rfl (by simp) NC (zg 3 rfl ?_);refine N9 (kk:=kk) (p:= .Kt) O aa rfl (λ_ _=>rfl) rfl rfl rfl rfl Tryz.underlying229 Tryz.underlying185 OC rfl (OI (kk:=kk) (p:= .Jw) (ad:=F.uA) O aa rfl (λ_ _=>rfl) rfl rfl rfl rfl (by simp) Tm rfl rfl ?_);refine JL.done (JL.fin rfl rfl (Bx.none Tryz.func189 rfl) (back _ _ _ _ ?_));exact MD (λg s=>aj _ g s) h
 refine JL.block (Ip ?_);refine Ej [(0,.pointer (some F.uA)),(2,iV 0),(3,.bool false),(4,.bool false),(5,iV ((0:Nat):Int)),(6,.int .i32 (aP:M4).num)] rfl (Tb λaQ ar=>?_);refine SX (P:=Tryz.prog) (F:=F) (s:=s) (kk:=kk) (ph:=Pm) (ok:=Td) (head:=λ(X:Ph->GP) (a:GJ)=>JL (AR Tryz.prog false) (X (.lk kk (Pm a))) (base 189) Tryz.f189.ntmps ([(0,.pointer (some F.uA)),(2,iV a.2.2.2.2),(3,.bool a.1),(4,.bool a.2.1),(5,iV (a.2.2.1:Int)),(6,.int .i32 (a.2.2.2.1:M4).num)]) [] aQ (aO::cs) s) ?_ (false,false,0,aP,0) ⟨(λe=>by cases e),Nat.zero_le _,aJ.2.2.1⟩;intro Y aK bj hC;have key:∀N (a:GJ),4 - a.2.2.1<N->Td a->(λ(X:Ph->GP) (a:GJ)=>JL (AR Tryz.prog false) (X (.lk kk (Pm a))) (base 189) Tryz.f189.ntmps ([(0,.pointer (some F.uA)),(2,iV a.2.2.2.2),(3,.bool a.1),(4,.bool a.2.1),(5,iV (a.2.2.1:Int)),(6,.int .i32 (a.2.2.2.1:M4).num)]) [] aQ (aO::cs) s) Y a:=by
  intro N
  induction N with
  | zero=>intro a aT;omega
  | succ N aL=>
   rintro⟨sv,aw,it,old,wt⟩ a8 aJ;simp only at a8;have a9:aw=true->old.k=true:=aJ.1;have aR:CR old:=aJ.2.2;have an:Cb old:=aR.Cb;show JL (AR Tryz.prog false) (Y (.lk kk (.Ca sv aw it old))) (base 189) Tryz.f189.ntmps [(0,.pointer (some F.uA)),(2,iV wt),(3,.bool sv),(4,.bool aw),(5,iV (it:Int)),(6,.int .i32 (old:M4).num)] [] aQ (aO::cs) s;rw [ar];refine zg 2 rfl (Bq (λL s'=>s=s'/\L= [(0,.pointer (some F.uA)),(2,iV wt),(3,.bool sv),(4,.bool aw),(5,iV (it:Int)),(6,.int .i32 (old:M4).num)]) ?_ ?_)
   rotate_left
   ·intro ak;refine zg 3 rfl (Am (v:=CE (Bw old&&& 5)) rfl (λρ h=>Eh (c:=5) an (h _ _ rfl) (h _ _ rfl) (by decide)) ?_);refine zg 2 rfl (Lj (q:=((Bw old&&& 5:Nat):Int)=1) (i:=17) rfl (λaU=>?_) (λaU=>?_))
    ·refine Am (v:=iV (it:Int)) rfl (λρ h=>Yl.move (h _ _ rfl)) (JL.canSpin (it:=(it:Int)) aa rfl rfl rfl rfl Xs rfl (λEA=>?_) ?_)
     ·refine Am (v:= .bool true) rfl (λρ h=>Lm (h _ _ rfl) (h _ _ rfl)) ?_;have ao:=(ZT old).1 aU;refine zg 5 rfl ?_;have aM:it<4:=by omega
      refine zg 1 rfl (Am (v:= .bool (!aw)) rfl (λρ h=>Yl.not (h _ _ rfl)) ?_);refine zg 1 rfl (J5 (c:= !aw) (i:=23) rfl (λc1=>?_) (λc1=>?_))
      ·refine Am (v:= .int .i32 (old:M4).num) rfl (λρ h=>Yl.move (h _ _ rfl)) (Am (v:=CE (Bw old&&& 2)) rfl (λρ h=>Eh (c:=2) an (h _ _ rfl) (h _ _ rfl) (by decide)) ?_);refine zg 3 rfl (Lj (q:=((Bw old&&& 2:Nat):Int)=0) (i:=28) rfl (λc2=>?_) (λc2=>?_))
       ·refine Am (v:= .int .i32 (old:M4).num) rfl (λρ h=>Yl.move (h _ _ rfl)) (Am (v:=CE old.w) rfl (λρ h=>It an (h _ _ rfl) (h _ _ rfl)) ?_);refine zg 3 rfl (Lj (q:=(old.w:Int)≠0) (i:=33) rfl (λc3=>?_) (λc3=>?_))
        ·have ba:aw=false:=by simpa using c1
         subst ba;have aV:=(Ps old).1 c2;have aW:old.w≠0:=by omega
         refine zg 2 rfl (JL.uA rfl rfl ?_);refine zg 2 rfl (Am (v:= .int .i32 ({old with k:=true}:M4).num) rfl (λρ h=>M8 (c:=2) an (by decide) (PK old) rfl (h _ _ rfl) (h _ _ rfl)) ?_);refine Rb (kk:=kk) (p:= .Ca sv false it old) (old:=old) (nw:={old with k:=true}) aK aa rfl rfl rfl rfl rfl Nv rfl rfl rfl (λq ap=>⟨some (.DO sv true (it+1)),Xc ao aM aV aW,?_⟩) (λm q hm ap=>⟨some (.DO sv false (it+1)),WQ ao aM aV aW hm,?_⟩)
         ·refine Am (v:= .bool true) rfl (λρ h=>Lm (h _ _ rfl) (h _ _ rfl)) (zg 7 rfl ?_);refine JL.ext (v:= .tuple #[]) rfl rfl rfl Lo rfl rfl (zg 4 rfl ?_);refine Am (v:=iV ((it+1:Nat):Int)) rfl (λρ h=>Ff (h _ _ rfl) (h _ _ rfl) (by unfold Av;rw [if_pos (by omega)];congr 1)) (zg 6 rfl ?_);refine JL.uA rfl rfl (GZ (kk:=kk) (p:= .DO sv true (it+1)) aK aa rfl rfl rfl rfl rfl GR H7 rfl λau aX aE=>⟨some (.Ca sv true (it+1) au),List.mem_singleton.2 rfl,?_⟩);refine zg 3 rfl (JL.again ?_);rw [← ar];exact Ej [(0,.pointer (some F.uA)),(2,iV wt),(3,.bool sv),(4,.bool true),(5,iV ((it+1:Nat):Int)),(6,.int .i32 (au:M4).num)] rfl (aL (sv,true,it+1,au,wt) (by show 4 - (it+1)<N;omega) ⟨aE.2.2.2,(by show it+1<=4;omega),aE.2.2.1⟩)
         ·refine Am (v:= .bool false) rfl (λρ h=>Lm (h _ _ rfl) (h _ _ rfl)) (zg 5 rfl ?_);refine JL.ext (v:= .tuple #[]) rfl rfl rfl Lo rfl rfl (zg 4 rfl ?_);refine Am (v:=iV ((it+1:Nat):Int)) rfl (λρ h=>Ff (h _ _ rfl) (h _ _ rfl) (by unfold Av;rw [if_pos (by omega)];congr 1)) (zg 6 rfl ?_);refine JL.uA rfl rfl (GZ (kk:=kk) (p:= .DO sv false (it+1)) aK aa rfl rfl rfl rfl rfl GR H7 rfl λau aX aE=>⟨some (.Ca sv false (it+1) au),List.mem_singleton.2 rfl,?_⟩);refine zg 3 rfl (JL.again ?_);rw [← ar];exact Ej [(0,.pointer (some F.uA)),(2,iV wt),(3,.bool sv),(4,.bool false),(5,iV ((it+1:Nat):Int)),(6,.int .i32 (au:M4).num)] rfl (aL (sv,false,it+1,au,wt) (by show 4 - (it+1)<N;omega) ⟨aE.2.2.2,(by show it+1<=4;omega),aE.2.2.1⟩)
        ·refine H5 rfl rfl rfl (zg 12 rfl ?_);refine JL.ext (v:= .tuple #[]) rfl rfl rfl Lo rfl rfl (zg 4 rfl ?_);refine Am (v:=iV ((it+1:Nat):Int)) rfl (λρ h=>Ff (h _ _ rfl) (h _ _ rfl) (by unfold Av;rw [if_pos (by omega)];congr 1)) (zg 6 rfl ?_);refine JL.uA rfl rfl (GZ (kk:=kk) (p:= .Ca sv aw it old) aK aa rfl rfl rfl rfl rfl GR H7 rfl λm q ap=>⟨some (.Ca sv aw (it+1) m),OH ao aM (λe=>c3 (by omega)),?_⟩);refine zg 3 rfl (JL.again ?_);rw [← ar];exact Ej [(0,.pointer (some F.uA)),(2,iV wt),(3,.bool sv),(4,.bool aw),(5,iV ((it+1:Nat):Int)),(6,.int .i32 (m:M4).num)] rfl (aL (sv,aw,it+1,m,wt) (by show 4 - (it+1)<N;omega) ⟨ap.2.2.2.2.2,(by show it+1<=4;omega),ap.2.2.2.2.1⟩)
       ·refine H5 rfl rfl rfl (zg 17 rfl ?_);refine JL.ext (v:= .tuple #[]) rfl rfl rfl Lo rfl rfl (zg 4 rfl ?_);refine Am (v:=iV ((it+1:Nat):Int)) rfl (λρ h=>Ff (h _ _ rfl) (h _ _ rfl) (by unfold Av;rw [if_pos (by omega)];congr 1)) (zg 6 rfl ?_);refine JL.uA rfl rfl (GZ (kk:=kk) (p:= .Ca sv aw it old) aK aa rfl rfl rfl rfl rfl GR H7 rfl λm q ap=>⟨some (.Ca sv aw (it+1) m),OH ao aM (λe=>c2 ((Ps old).2 e.2.1)),?_⟩);refine zg 3 rfl (JL.again ?_);rw [← ar];exact Ej [(0,.pointer (some F.uA)),(2,iV wt),(3,.bool sv),(4,.bool aw),(5,iV ((it+1:Nat):Int)),(6,.int .i32 (m:M4).num)] rfl (aL (sv,aw,it+1,m,wt) (by show 4 - (it+1)<N;omega) ⟨ap.2.2.2.2.2,(by show it+1<=4;omega),ap.2.2.2.2.1⟩)
      ·refine H5 rfl rfl rfl (zg 22 rfl ?_);refine JL.ext (v:= .tuple #[]) rfl rfl rfl Lo rfl rfl (zg 4 rfl ?_);refine Am (v:=iV ((it+1:Nat):Int)) rfl (λρ h=>Ff (h _ _ rfl) (h _ _ rfl) (by unfold Av;rw [if_pos (by omega)];congr 1)) (zg 6 rfl ?_);refine JL.uA rfl rfl (GZ (kk:=kk) (p:= .Ca sv aw it old) aK aa rfl rfl rfl rfl rfl GR H7 rfl λm q ap=>⟨some (.Ca sv aw (it+1) m),OH ao aM (λe=>by rw [e.1] at c1;cases c1),?_⟩);refine zg 3 rfl (JL.again ?_);rw [← ar];exact Ej [(0,.pointer (some F.uA)),(2,iV wt),(3,.bool sv),(4,.bool aw),(5,iV ((it+1:Nat):Int)),(6,.int .i32 (m:M4).num)] rfl (aL (sv,aw,it+1,m,wt) (by show 4 - (it+1)<N;omega) ⟨ap.2.2.2.2.2,(by show it+1<=4;omega),ap.2.2.2.2.1⟩)
     ·refine Am (v:= .bool false) rfl (λρ h=>Lm (h _ _ rfl) (h _ _ rfl)) (zg 3 rfl ?_);exact AA (ak _ _ ⟨rfl,rfl⟩) rfl
    ·refine H5 rfl rfl rfl (zg 5 rfl ?_);exact AA (ak _ _ ⟨rfl,rfl⟩) rfl
   rintro _ _ ⟨rfl,rfl⟩;refine zg 6 rfl (Bq (λL s'=>s=s'/\L= [(0,.pointer (some F.uA)),(2,iV wt),(3,.bool sv),(4,.bool aw),(5,iV (it:Int)),(6,.int .i32 (old:M4).num),(7,.int .i32 ({old with l:=old.l || !old.s}:M4).num)]) ?_ ?_)
   rotate_left
   ·intro ak;refine zg 3 rfl (Am (v:=CE (Bw old&&& 4)) rfl (λρ h=>Eh (c:=4) an (h _ _ rfl) (h _ _ rfl) (by decide)) ?_);refine zg 2 rfl (F1 (p:=((Bw old&&& 4:Nat):Int)=0) rfl (λc=>?_) (λc=>?_))
    ·refine JL.region (zg 1 rfl ?_);refine Am (v:= .int .i32 ({old with l:=true}:M4).num) rfl (λρ h=>M8 (c:=1) an (by decide) (Z1 old) rfl (h _ _ rfl) (h _ _ rfl)) (zg 2 rfl ?_);refine EK ?_ (ak _ _ ⟨rfl,rfl⟩);exact⟨rfl,rfl,rfl,rfl,rfl,rfl,congrArg (λm:M4=>some (Value.int .i32 m.num)) (by rw [(Hx old).1 c];simp),trivial⟩
    ·refine JL.skip (EK ?_ (ak _ _ ⟨rfl,rfl⟩));exact⟨rfl,rfl,rfl,rfl,rfl,rfl,congrArg (λm:M4=>some (Value.int .i32 m.num)) ((Bool.eq_false_or_eq_true old.s).elim (GM old) (λhh=>absurd ((Hx old).2 hh) c)),trivial⟩
   rintro _ _ ⟨rfl,rfl⟩;have bl:Cb {old with l:=old.l || !old.s}:=an;refine JL.seq (Bq (λL s'=>s=s'/\L= [(0,.pointer (some F.uA)),(2,iV wt),(3,.bool sv),(4,.bool aw),(5,iV (it:Int)),(6,.int .i32 (old:M4).num),(7,.int .i32 ({old with l:=old.l || !old.s,w:=if old.l=true∨old.s=true then old.w+1 else old.w}:M4).num)]) ?_ ?_)
   rotate_left
   ·intro ak;refine zg 3 rfl (Am (v:=CE (Bw old&&& 5)) rfl (λρ h=>Eh (c:=5) an (h _ _ rfl) (h _ _ rfl) (by decide)) ?_);refine zg 2 rfl (F1 (p:=((Bw old&&& 5:Nat):Int)≠0) rfl (λc=>?_) (λc=>?_))
    ·refine JL.region (zg 1 rfl ?_);refine Am (v:= .int .i32 ({old with l:=old.l || !old.s,w:=old.w+1}:M4).num) rfl (λρ h=>WK (m:={old with l:=old.l || !old.s}) aR (h _ _ rfl) (h _ _ rfl)) (zg 2 rfl ?_);refine EK ?_ (ak _ _ ⟨rfl,rfl⟩);exact⟨rfl,rfl,rfl,rfl,rfl,rfl,congrArg (λm:M4=>some (Value.int .i32 m.num)) (by rw [if_pos (by have:=λe=>c ((LK old).2 e);cases bm:old.l <;> cases bn:old.s <;> simp_all)]),trivial⟩
    ·refine JL.skip (EK ?_ (ak _ _ ⟨rfl,rfl⟩));exact⟨rfl,rfl,rfl,rfl,rfl,rfl,congrArg (λm:M4=>some (Value.int .i32 m.num)) (by rw [if_neg (by have:=(LK old).1 (Decidable.not_not.1 c);rw [this.1,this.2];simp)]),trivial⟩
   rintro _ _ ⟨rfl,rfl⟩;have aY:Cb ({old with l:=old.l || !old.s,w:=if old.l=true∨old.s=true then old.w+1 else old.w}:M4):=by unfold CR at aR;unfold Cb;simp only;split <;> omega
   refine JL.seq (Bq (λL s'=>s=s'/\L= [(0,.pointer (some F.uA)),(2,iV wt),(3,.bool sv),(4,.bool aw),(5,iV (it:Int)),(6,.int .i32 (old:M4).num),(7,.int .i32 ({old with l:=old.l || !old.s,s:=old.s || (sv&&old.l),w:=if old.l=true∨old.s=true then old.w+1 else old.w}:M4).num)]) ?_ ?_)
   rotate_left
   ·intro ak;refine zg 4 rfl (J5 (c:=sv) (i:=61) rfl (λc1=>?_) (λc1=>?_))
    ·refine Am (v:= .int .i32 (old:M4).num) rfl (λρ h=>Yl.move (h _ _ rfl)) (Am (v:=CE (Bw old&&& 1)) rfl (λρ h=>Eh (c:=1) an (h _ _ rfl) (h _ _ rfl) (by decide)) ?_);refine zg 3 rfl (F1 (p:=((Bw old&&& 1:Nat):Int)≠0) rfl (λc=>?_) (λc=>?_))
     ·refine JL.region (zg 1 rfl ?_);refine Am (v:= .int .i32 ({old with s:=true,l:=old.l || !old.s,w:=if old.l=true∨old.s=true then old.w+1 else old.w}:M4).num) rfl (λρ h=>M8 (c:=4) (m:={old with l:=old.l || !old.s,w:=if old.l=true∨old.s=true then old.w+1 else old.w}) aY (by decide) (Z5 _) rfl (h _ _ rfl) (h _ _ rfl)) ?_
      refine zg 2 rfl (EK ?_ (ak _ _ ⟨rfl,rfl⟩));exact⟨rfl,rfl,rfl,rfl,rfl,rfl,congrArg (λm:M4=>some (Value.int .i32 m.num)) (by rcases Bool.eq_false_or_eq_true old.l with hh | hh <;> first | exact absurd ((Pj old).2 hh) c | (rw [c1,hh];simp)),trivial⟩
     ·refine JL.skip (EK ?_ (ak _ _ ⟨rfl,rfl⟩));exact⟨rfl,rfl,rfl,rfl,rfl,rfl,congrArg (λm:M4=>some (Value.int .i32 m.num)) (by have:=(Pj old).1 (Decidable.not_not.1 c);rw [this];simp),trivial⟩
    ·refine H5 rfl rfl rfl (zg 6 rfl ?_);refine EK ?_ (ak _ _ ⟨rfl,rfl⟩);exact⟨rfl,rfl,rfl,rfl,rfl,rfl,congrArg (λm:M4=>some (Value.int .i32 m.num)) (by rw [c1];simp),trivial⟩
   rintro _ _ ⟨rfl,rfl⟩;have aZ:Cb ({old with l:=old.l || !old.s,s:=old.s || (sv&&old.l),w:=if old.l=true∨old.s=true then old.w+1 else old.w}:M4):=aY
   refine JL.seq (Bq (λL s'=>s=s'/\L= [(0,.pointer (some F.uA)),(2,iV wt),(3,.bool sv),(4,.bool aw),(5,iV (it:Int)),(6,.int .i32 (old:M4).num),(7,.int .i32 (mN sv aw old:M4).num)]) ?_ ?_)
   rotate_left
   ·intro ak;refine zg 4 rfl (Oi (t:=aw) rfl (λc=>?_) (λc=>?_))
    ·have a0:old.k=true:=a9 c;refine zg 4 rfl ?_;refine Am (v:=CE (Bw ({old with l:=old.l || !old.s,s:=old.s || (sv&&old.l),w:=if old.l=true∨old.s=true then old.w+1 else old.w}:M4)&&& 2)) rfl (λρ h=>Eh (c:=2) (m:={old with l:=old.l || !old.s,s:=old.s || (sv&&old.l),w:=if old.l=true∨old.s=true then old.w+1 else old.w}) aZ (h _ _ rfl) (h _ _ rfl) (by decide)) ?_
     refine Am (v:= .bool false) rfl (λρ h=>Yl.to (Yl.eql (h _ _ rfl) (h _ _ rfl)) (by rw [decide_eq_false (λe=>by have q:=(Ps _).1 e;simp only at q;rw [a0] at q;cases q)])) (zg 5 rfl ?_);refine Am (v:= .int .i32 ({old with k:=false,l:=old.l || !old.s,s:=old.s || (sv&&old.l),w:=if old.l=true∨old.s=true then old.w+1 else old.w}:M4).num) rfl (λρ h=>Yl.OD (m:={old with l:=old.l || !old.s,s:=old.s || (sv&&old.l),w:=if old.l=true∨old.s=true then old.w+1 else old.w}) aZ a0 (h _ _ rfl) (h _ _ rfl)) ?_
     refine zg 2 rfl (EK ?_ (ak _ _ ⟨rfl,rfl⟩));exact⟨rfl,rfl,rfl,rfl,rfl,rfl,congrArg (λm:M4=>some (Value.int .i32 m.num)) (by simp [mN,c]),trivial⟩
    ·refine JL.skip (EK ?_ (ak _ _ ⟨rfl,rfl⟩));exact⟨rfl,rfl,rfl,rfl,rfl,rfl,congrArg (λm:M4=>some (Value.int .i32 m.num)) (by simp [mN,c]),trivial⟩
   rintro _ _ ⟨rfl,rfl⟩;refine zg 4 rfl (JL.uA rfl rfl ?_);refine zg 2 rfl (λT bb=>(AR Tryz.prog false).stop (hC (sv,aw,it,old,wt) _ aJ λX bo be O aj aN=>?_));refine Oj (kk:=kk) (p:= .Ca sv aw it old) (old:=old) (nw:=mN sv aw old) be aa rfl rfl rfl rfl rfl Nv rfl rfl rfl (λq ap=>?_) (λm q hm ap=>⟨some (.DO sv aw it),VB hm,?_⟩) T bb
   ·by_cases ao:old.l=false/\old.s=false
    ·refine⟨some .len,WH ao,?_⟩;refine zg 6 rfl (Am (v:=CE (Bw old&&& 5)) rfl (λρ h=>Eh (c:=5) an (h _ _ rfl) (h _ _ rfl) (by decide)) ?_);refine Am (v:= .bool true) rfl (λρ h=>Yl.to (Yl.eql (h _ _ rfl) (h _ _ rfl)) (by rw [decide_eq_true ((LK old).2 ao)])) (zg 3 rfl ?_);exact am X O aj _ rfl
    ·by_cases a1:wt=0
     ·refine⟨some ((.H3 sv)),Q6 ao _ (.inl rfl),?_⟩;refine zg 6 rfl (Am (v:=CE (Bw old&&& 5)) rfl (λρ h=>Eh (c:=5) an (h _ _ rfl) (h _ _ rfl) (by decide)) ?_);refine Am (v:= .bool false) rfl (λρ h=>Yl.to (Yl.eql (h _ _ rfl) (h _ _ rfl)) (by rw [decide_eq_false (λe=>ao ((LK old).1 e))])) ?_;refine zg 13 rfl (Am (v:= .bool true) rfl (λρ h=>Yl.to (Yl.eql (h _ _ rfl) (h _ _ rfl)) (by rw [decide_eq_true a1])) ?_);refine zg 3 rfl (Oc (kk:=kk) (p:= .H3 sv) O aa rfl rfl rfl rfl rfl OS Pl λm aq v ac=>⟨some (.Cl sv),List.mem_singleton.2 rfl,?_⟩);refine zg 6 rfl (Am (v:= .pointer (some F.qA)) rfl (λρ h=>Gi (a:=F.uA) 0 1 Tryz.underlying140 Mk rfl rfl rfl (h _ _ rfl)) ?_);refine zg 1 rfl (Qw (kk:=kk) (sv:=sv) O aa rfl rfl rfl rfl Sj rfl rfl ?_);refine JL.done ?_;cases sv
      ·rw [if_neg (by decide)];refine zg 4 rfl (Oc (kk:=kk) (p:= .FW) O aa rfl rfl rfl rfl rfl OS Pl λbf bg v2 bh=>⟨some (.Ek (decide (IntKind.i64.wrap (v2 - v)>1000000))),by (cases decide (IntKind.i64.wrap (v2 - v)>1000000) <;> simp [Fam.BQ]),?_⟩);refine zg 1 rfl (Am (v:= .int .i64 (IntKind.i64.wrap (v2 - v))) rfl (λρ h=>Yl.sub (h _ _ rfl) (h _ _ rfl)) ?_);refine zg 4 rfl ?_;generalize decide (IntKind.i64.wrap (v2 - v)>1000000)=ai;refine zg 4 rfl (JL.uA rfl rfl ?_);refine GZ (kk:=kk) (p:= .Ek ai) O aa rfl rfl rfl rfl rfl GR H7 rfl ?_;intro m aS al;have av:CR m:=al.2.2;have ae:Cb m:=av.Cb;by_cases ab:m.s=true
       ·refine⟨some (.DJ (!ai || m.w==1)),by simp [Fam.BQ,ab],?_⟩;refine zg 2 rfl ?_;obtain⟨aF,aG,aH⟩:=al.1 ab;refine zg 4 rfl (Am (v:=CE (Bw m&&& 4)) rfl (λρ h=>Eh (c:=4) ae (h _ _ rfl) (h _ _ rfl) (by decide)) ?_);refine Am (v:= .bool true) rfl (λρ h=>Yl.to (Hq (h _ _ rfl) (h _ _ rfl)) (by have aI:(((Bw m&&& 4:Nat):Int)≠0):=(λe=>by rw [(Hx m).1 e] at ab;cases ab);rw [decide_eq_true aI])) ?_;refine zg 6 rfl (Am (v:=CE (Bw m&&& 3)) rfl (λρ h=>Eh (c:=3) ae (h _ _ rfl) (h _ _ rfl) (by decide)) ?_);refine Am (v:= .bool false) rfl (λρ h=>Yl.to (Hq (h _ _ rfl) (h _ _ rfl)) (by rw [(Ns m).2 ⟨aF,aG⟩];rfl)) (zg 2 rfl ?_);refine Am (v:=CE m.w) rfl (λρ h=>It ae (h _ _ rfl) (h _ _ rfl)) (Am (v:= .bool false) rfl (λρ h=>Yl.to (Yl.eql (h _ _ rfl) (h _ _ rfl)) (by rw [decide_eq_false (λe=>aH (by omega))])) ?_);refine zg 12 rfl (Am (v:= .bool (!ai)) rfl (λρ h=>Yl.not (h _ _ rfl)) ?_);refine zg 1 rfl (J5 (c:= !ai) (i:=119) rfl (λd1=>?_) (λd1=>?_))
        ·refine H5 rfl rfl rfl (zg 5 rfl ?_);have hex:(!ai || m.w==1)=true:=by rw [d1];simp
         rw [hex];refine zg 2 rfl (Am (v:= .int .i32 (-11)) rfl (λρ h=>Yl.to (Yl.sub (h _ _ rfl) (h _ _ rfl)) rfl) ?_);refine zg 6 rfl (JL.uA rfl rfl ?_);refine zg 1 rfl (GX (kk:=kk) (p:= .DJ true) (dl:= -11) O aa rfl rfl rfl rfl rfl G6 rfl rfl λK aq ac=>⟨⟨true,K.k,false,K.w - 1⟩,some .len,?_,List.mem_singleton.2 rfl,?_⟩)
         ·obtain⟨ay,az,aA,w3⟩:=K;obtain⟨U,g2,Z,ag,aB,ah⟩:=ac;simp only at U g2 Z ag;subst U g2 Z;have aC:w3<134217728:=ah;have e:(⟨false,false,true,w3⟩:M4).num+(-11)=((8*(w3 - 1)+1:Nat):Int):=by simp only [M4.num,Bool.toNat_true,Bool.toNat_false];omega
          rw [e,Fh (by omega)];simp only [M4.num,Bool.toNat_true,Bool.toNat_false];omega
         exact zg 2 rfl (am X O aj _ rfl)
        ·refine Am (v:= .int .i32 (m:M4).num) rfl (λρ h=>Yl.move (h _ _ rfl)) (Am (v:=CE m.w) rfl (λρ h=>It ae (h _ _ rfl) (h _ _ rfl)) ?_);refine zg 3 rfl (F1 (p:=(m.w:Int)=1) rfl (λd2=>?_) (λd2=>?_))
         ·have hex:(!ai || m.w==1)=true:=by rw [d1];simp;omega
          rw [hex];refine zg 2 rfl (Am (v:= .int .i32 (-11)) rfl (λρ h=>Yl.to (Yl.sub (h _ _ rfl) (h _ _ rfl)) rfl) ?_);refine zg 6 rfl (JL.uA rfl rfl ?_);refine zg 1 rfl (GX (kk:=kk) (p:= .DJ true) (dl:= -11) O aa rfl rfl rfl rfl rfl G6 rfl rfl λK aq ac=>⟨⟨true,K.k,false,K.w - 1⟩,some .len,?_,List.mem_singleton.2 rfl,?_⟩)
          ·obtain⟨ay,az,aA,w3⟩:=K;obtain⟨U,g2,Z,ag,aB,ah⟩:=ac;simp only at U g2 Z ag;subst U g2 Z;have aC:w3<134217728:=ah;have e:(⟨false,false,true,w3⟩:M4).num+(-11)=((8*(w3 - 1)+1:Nat):Int):=by simp only [M4.num,Bool.toNat_true,Bool.toNat_false];omega
           rw [e,Fh (by omega)];simp only [M4.num,Bool.toNat_true,Bool.toNat_false];omega
          exact zg 2 rfl (am X O aj _ rfl)
         ·have hex:(!ai || m.w==1)=false:=by rw [d1];simp;omega
          rw [hex];refine zg 5 rfl (JL.uA rfl rfl ?_);refine zg 1 rfl (GX (kk:=kk) (p:= .DJ false) (dl:= -7) O aa rfl rfl rfl rfl rfl G6 rfl rfl λK aq ac=>⟨⟨true,K.k,true,K.w - 1⟩,some .len,?_,List.mem_singleton.2 rfl,?_⟩)
          ·obtain⟨ay,az,aA,w3⟩:=K;obtain⟨U,g2,Z,ag,aB,ah⟩:=ac;simp only at U g2 Z ag;subst U g2 Z;have aC:w3<134217728:=ah;have e:(⟨false,false,true,w3⟩:M4).num+(-7)=((8*(w3 - 1)+5:Nat):Int):=by simp only [M4.num,Bool.toNat_true,Bool.toNat_false];omega
           rw [e,Fh (by omega)];simp only [M4.num,Bool.toNat_true,Bool.toNat_false];omega
          exact zg 2 rfl (am X O aj _ rfl)
       ·refine⟨some (.Ca ai true 0 m),by simp [Fam.BQ,ab],?_⟩;refine zg 2 rfl ?_;have aD:m.s=false:=by simpa using ab
        refine zg 4 rfl (Am (v:=CE (Bw m&&& 4)) rfl (λρ h=>Eh (c:=4) ae (h _ _ rfl) (h _ _ rfl) (by decide)) ?_);refine Am (v:= .bool false) rfl (λρ h=>Yl.to (Hq (h _ _ rfl) (h _ _ rfl)) (by rw [(Hx m).2 aD];rfl)) (zg 11 rfl ?_);refine JL.again ?_;rw [← ar];exact Ej [(0,.pointer (some F.uA)),(2,iV v),(3,.bool ai),(4,.bool true),(5,iV ((0:Nat):Int)),(6,.int .i32 (m:M4).num)] rfl (aN (ai,true,0,m,v) ⟨λ_=>al.2.1 aD,Nat.zero_le _,av⟩)
      ·rw [if_pos rfl];refine zg 15 rfl (JL.uA rfl rfl ?_);refine GZ (kk:=kk) (p:= .Ek true) O aa rfl rfl rfl rfl rfl GR H7 rfl ?_;intro m aS al;have av:CR m:=al.2.2;have ae:Cb m:=av.Cb;by_cases ab:m.s=true
       ·refine⟨some (.DJ (!true || m.w==1)),by simp [Fam.BQ,ab],?_⟩;refine zg 2 rfl ?_;obtain⟨aF,aG,aH⟩:=al.1 ab;refine zg 4 rfl (Am (v:=CE (Bw m&&& 4)) rfl (λρ h=>Eh (c:=4) ae (h _ _ rfl) (h _ _ rfl) (by decide)) ?_);refine Am (v:= .bool true) rfl (λρ h=>Yl.to (Hq (h _ _ rfl) (h _ _ rfl)) (by have aI:(((Bw m&&& 4:Nat):Int)≠0):=(λe=>by rw [(Hx m).1 e] at ab;cases ab);rw [decide_eq_true aI])) ?_;refine zg 6 rfl (Am (v:=CE (Bw m&&& 3)) rfl (λρ h=>Eh (c:=3) ae (h _ _ rfl) (h _ _ rfl) (by decide)) ?_);refine Am (v:= .bool false) rfl (λρ h=>Yl.to (Hq (h _ _ rfl) (h _ _ rfl)) (by rw [(Ns m).2 ⟨aF,aG⟩];rfl)) (zg 2 rfl ?_);refine Am (v:=CE m.w) rfl (λρ h=>It ae (h _ _ rfl) (h _ _ rfl)) (Am (v:= .bool false) rfl (λρ h=>Yl.to (Yl.eql (h _ _ rfl) (h _ _ rfl)) (by rw [decide_eq_false (λe=>aH (by omega))])) ?_);refine zg 12 rfl (Am (v:= .bool (!true)) rfl (λρ h=>Yl.not (h _ _ rfl)) ?_);refine zg 1 rfl (J5 (c:= !true) (i:=119) rfl (λd1=>?_) (λd1=>?_))
        ·refine H5 rfl rfl rfl (zg 5 rfl ?_);have hex:(!true || m.w==1)=true:=by rw [d1];simp
         rw [hex];refine zg 2 rfl (Am (v:= .int .i32 (-11)) rfl (λρ h=>Yl.to (Yl.sub (h _ _ rfl) (h _ _ rfl)) rfl) ?_);refine zg 6 rfl (JL.uA rfl rfl ?_);refine zg 1 rfl (GX (kk:=kk) (p:= .DJ true) (dl:= -11) O aa rfl rfl rfl rfl rfl G6 rfl rfl λK aq ac=>⟨⟨true,K.k,false,K.w - 1⟩,some .len,?_,List.mem_singleton.2 rfl,?_⟩)
         ·obtain⟨ay,az,aA,w3⟩:=K;obtain⟨U,g2,Z,ag,aB,ah⟩:=ac;simp only at U g2 Z ag;subst U g2 Z;have aC:w3<134217728:=ah;have e:(⟨false,false,true,w3⟩:M4).num+(-11)=((8*(w3 - 1)+1:Nat):Int):=by simp only [M4.num,Bool.toNat_true,Bool.toNat_false];omega
          rw [e,Fh (by omega)];simp only [M4.num,Bool.toNat_true,Bool.toNat_false];omega
         exact zg 2 rfl (am X O aj _ rfl)
        ·refine Am (v:= .int .i32 (m:M4).num) rfl (λρ h=>Yl.move (h _ _ rfl)) (Am (v:=CE m.w) rfl (λρ h=>It ae (h _ _ rfl) (h _ _ rfl)) ?_);refine zg 3 rfl (F1 (p:=(m.w:Int)=1) rfl (λd2=>?_) (λd2=>?_))
         ·have hex:(!true || m.w==1)=true:=by rw [d1];simp;omega
          rw [hex];refine zg 2 rfl (Am (v:= .int .i32 (-11)) rfl (λρ h=>Yl.to (Yl.sub (h _ _ rfl) (h _ _ rfl)) rfl) ?_);refine zg 6 rfl (JL.uA rfl rfl ?_);refine zg 1 rfl (GX (kk:=kk) (p:= .DJ true) (dl:= -11) O aa rfl rfl rfl rfl rfl G6 rfl rfl λK aq ac=>⟨⟨true,K.k,false,K.w - 1⟩,some .len,?_,List.mem_singleton.2 rfl,?_⟩)
          ·obtain⟨ay,az,aA,w3⟩:=K;obtain⟨U,g2,Z,ag,aB,ah⟩:=ac;simp only at U g2 Z ag;subst U g2 Z;have aC:w3<134217728:=ah;have e:(⟨false,false,true,w3⟩:M4).num+(-11)=((8*(w3 - 1)+1:Nat):Int):=by simp only [M4.num,Bool.toNat_true,Bool.toNat_false];omega
           rw [e,Fh (by omega)];simp only [M4.num,Bool.toNat_true,Bool.toNat_false];omega
          exact zg 2 rfl (am X O aj _ rfl)
         ·have hex:(!true || m.w==1)=false:=by rw [d1];simp;omega
          rw [hex];refine zg 5 rfl (JL.uA rfl rfl ?_);refine zg 1 rfl (GX (kk:=kk) (p:= .DJ false) (dl:= -7) O aa rfl rfl rfl rfl rfl G6 rfl rfl λK aq ac=>⟨⟨true,K.k,true,K.w - 1⟩,some .len,?_,List.mem_singleton.2 rfl,?_⟩)
          ·obtain⟨ay,az,aA,w3⟩:=K;obtain⟨U,g2,Z,ag,aB,ah⟩:=ac;simp only at U g2 Z ag;subst U g2 Z;have aC:w3<134217728:=ah;have e:(⟨false,false,true,w3⟩:M4).num+(-7)=((8*(w3 - 1)+5:Nat):Int):=by simp only [M4.num,Bool.toNat_true,Bool.toNat_false];omega
           rw [e,Fh (by omega)];simp only [M4.num,Bool.toNat_true,Bool.toNat_false];omega
          exact zg 2 rfl (am X O aj _ rfl)
       ·refine⟨some (.Ca true true 0 m),by simp [Fam.BQ,ab],?_⟩;refine zg 2 rfl ?_;have aD:m.s=false:=by simpa using ab
        refine zg 4 rfl (Am (v:=CE (Bw m&&& 4)) rfl (λρ h=>Eh (c:=4) ae (h _ _ rfl) (h _ _ rfl) (by decide)) ?_);refine Am (v:= .bool false) rfl (λρ h=>Yl.to (Hq (h _ _ rfl) (h _ _ rfl)) (by rw [(Hx m).2 aD];rfl)) (zg 11 rfl ?_);refine JL.again ?_;rw [← ar];exact Ej [(0,.pointer (some F.uA)),(2,iV v),(3,.bool true),(4,.bool true),(5,iV ((0:Nat):Int)),(6,.int .i32 (m:M4).num)] rfl (aN (true,true,0,m,v) ⟨λ_=>al.2.1 aD,Nat.zero_le _,av⟩)
     ·refine⟨some ((.Cl sv)),Q6 ao _ (.inr rfl),?_⟩;refine zg 6 rfl (Am (v:=CE (Bw old&&& 5)) rfl (λρ h=>Eh (c:=5) an (h _ _ rfl) (h _ _ rfl) (by decide)) ?_);refine Am (v:= .bool false) rfl (λρ h=>Yl.to (Yl.eql (h _ _ rfl) (h _ _ rfl)) (by rw [decide_eq_false (λe=>ao ((LK old).1 e))])) ?_;refine zg 13 rfl (Am (v:= .bool false) rfl (λρ h=>Yl.to (Yl.eql (h _ _ rfl) (h _ _ rfl)) (by rw [decide_eq_false a1])) ?_);refine zg 7 rfl (Am (v:= .pointer (some F.qA)) rfl (λρ h=>Gi (a:=F.uA) 0 1 Tryz.underlying140 Mk rfl rfl rfl (h _ _ rfl)) ?_);refine zg 1 rfl (Qw (kk:=kk) (sv:=sv) O aa rfl rfl rfl rfl Sj rfl rfl ?_);refine JL.done ?_;cases sv
      ·rw [if_neg (by decide)];refine zg 4 rfl (Oc (kk:=kk) (p:= .FW) O aa rfl rfl rfl rfl rfl OS Pl λbf bg v2 bh=>⟨some (.Ek (decide (IntKind.i64.wrap (v2 - wt)>1000000))),by (cases decide (IntKind.i64.wrap (v2 - wt)>1000000) <;> simp [Fam.BQ]),?_⟩);refine zg 1 rfl (Am (v:= .int .i64 (IntKind.i64.wrap (v2 - wt))) rfl (λρ h=>Yl.sub (h _ _ rfl) (h _ _ rfl)) ?_);refine zg 4 rfl ?_;generalize decide (IntKind.i64.wrap (v2 - wt)>1000000)=ai;refine zg 4 rfl (JL.uA rfl rfl ?_);refine GZ (kk:=kk) (p:= .Ek ai) O aa rfl rfl rfl rfl rfl GR H7 rfl ?_;intro m aS al;have av:CR m:=al.2.2;have ae:Cb m:=av.Cb;by_cases ab:m.s=true
       ·refine⟨some (.DJ (!ai || m.w==1)),by simp [Fam.BQ,ab],?_⟩;refine zg 2 rfl ?_;obtain⟨aF,aG,aH⟩:=al.1 ab;refine zg 4 rfl (Am (v:=CE (Bw m&&& 4)) rfl (λρ h=>Eh (c:=4) ae (h _ _ rfl) (h _ _ rfl) (by decide)) ?_);refine Am (v:= .bool true) rfl (λρ h=>Yl.to (Hq (h _ _ rfl) (h _ _ rfl)) (by have aI:(((Bw m&&& 4:Nat):Int)≠0):=(λe=>by rw [(Hx m).1 e] at ab;cases ab);rw [decide_eq_true aI])) ?_;refine zg 6 rfl (Am (v:=CE (Bw m&&& 3)) rfl (λρ h=>Eh (c:=3) ae (h _ _ rfl) (h _ _ rfl) (by decide)) ?_);refine Am (v:= .bool false) rfl (λρ h=>Yl.to (Hq (h _ _ rfl) (h _ _ rfl)) (by rw [(Ns m).2 ⟨aF,aG⟩];rfl)) (zg 2 rfl ?_);refine Am (v:=CE m.w) rfl (λρ h=>It ae (h _ _ rfl) (h _ _ rfl)) (Am (v:= .bool false) rfl (λρ h=>Yl.to (Yl.eql (h _ _ rfl) (h _ _ rfl)) (by rw [decide_eq_false (λe=>aH (by omega))])) ?_);refine zg 12 rfl (Am (v:= .bool (!ai)) rfl (λρ h=>Yl.not (h _ _ rfl)) ?_);refine zg 1 rfl (J5 (c:= !ai) (i:=119) rfl (λd1=>?_) (λd1=>?_))
        ·refine H5 rfl rfl rfl (zg 5 rfl ?_);have hex:(!ai || m.w==1)=true:=by rw [d1];simp
         rw [hex];refine zg 2 rfl (Am (v:= .int .i32 (-11)) rfl (λρ h=>Yl.to (Yl.sub (h _ _ rfl) (h _ _ rfl)) rfl) ?_);refine zg 6 rfl (JL.uA rfl rfl ?_);refine zg 1 rfl (GX (kk:=kk) (p:= .DJ true) (dl:= -11) O aa rfl rfl rfl rfl rfl G6 rfl rfl λK aq ac=>⟨⟨true,K.k,false,K.w - 1⟩,some .len,?_,List.mem_singleton.2 rfl,?_⟩)
         ·obtain⟨ay,az,aA,w3⟩:=K;obtain⟨U,g2,Z,ag,aB,ah⟩:=ac;simp only at U g2 Z ag;subst U g2 Z;have aC:w3<134217728:=ah;have e:(⟨false,false,true,w3⟩:M4).num+(-11)=((8*(w3 - 1)+1:Nat):Int):=by simp only [M4.num,Bool.toNat_true,Bool.toNat_false];omega
          rw [e,Fh (by omega)];simp only [M4.num,Bool.toNat_true,Bool.toNat_false];omega
         exact zg 2 rfl (am X O aj _ rfl)
        ·refine Am (v:= .int .i32 (m:M4).num) rfl (λρ h=>Yl.move (h _ _ rfl)) (Am (v:=CE m.w) rfl (λρ h=>It ae (h _ _ rfl) (h _ _ rfl)) ?_);refine zg 3 rfl (F1 (p:=(m.w:Int)=1) rfl (λd2=>?_) (λd2=>?_))
         ·have hex:(!ai || m.w==1)=true:=by rw [d1];simp;omega
          rw [hex];refine zg 2 rfl (Am (v:= .int .i32 (-11)) rfl (λρ h=>Yl.to (Yl.sub (h _ _ rfl) (h _ _ rfl)) rfl) ?_);refine zg 6 rfl (JL.uA rfl rfl ?_);refine zg 1 rfl (GX (kk:=kk) (p:= .DJ true) (dl:= -11) O aa rfl rfl rfl rfl rfl G6 rfl rfl λK aq ac=>⟨⟨true,K.k,false,K.w - 1⟩,some .len,?_,List.mem_singleton.2 rfl,?_⟩)
          ·obtain⟨ay,az,aA,w3⟩:=K;obtain⟨U,g2,Z,ag,aB,ah⟩:=ac;simp only at U g2 Z ag;subst U g2 Z;have aC:w3<134217728:=ah;have e:(⟨false,false,true,w3⟩:M4).num+(-11)=((8*(w3 - 1)+1:Nat):Int):=by simp only [M4.num,Bool.toNat_true,Bool.toNat_false];omega
           rw [e,Fh (by omega)];simp only [M4.num,Bool.toNat_true,Bool.toNat_false];omega
          exact zg 2 rfl (am X O aj _ rfl)
         ·have hex:(!ai || m.w==1)=false:=by rw [d1];simp;omega
          rw [hex];refine zg 5 rfl (JL.uA rfl rfl ?_);refine zg 1 rfl (GX (kk:=kk) (p:= .DJ false) (dl:= -7) O aa rfl rfl rfl rfl rfl G6 rfl rfl λK aq ac=>⟨⟨true,K.k,true,K.w - 1⟩,some .len,?_,List.mem_singleton.2 rfl,?_⟩)
          ·obtain⟨ay,az,aA,w3⟩:=K;obtain⟨U,g2,Z,ag,aB,ah⟩:=ac;simp only at U g2 Z ag;subst U g2 Z;have aC:w3<134217728:=ah;have e:(⟨false,false,true,w3⟩:M4).num+(-7)=((8*(w3 - 1)+5:Nat):Int):=by simp only [M4.num,Bool.toNat_true,Bool.toNat_false];omega
           rw [e,Fh (by omega)];simp only [M4.num,Bool.toNat_true,Bool.toNat_false];omega
          exact zg 2 rfl (am X O aj _ rfl)
       ·refine⟨some (.Ca ai true 0 m),by simp [Fam.BQ,ab],?_⟩;refine zg 2 rfl ?_;have aD:m.s=false:=by simpa using ab
        refine zg 4 rfl (Am (v:=CE (Bw m&&& 4)) rfl (λρ h=>Eh (c:=4) ae (h _ _ rfl) (h _ _ rfl) (by decide)) ?_);refine Am (v:= .bool false) rfl (λρ h=>Yl.to (Hq (h _ _ rfl) (h _ _ rfl)) (by rw [(Hx m).2 aD];rfl)) (zg 11 rfl ?_);refine JL.again ?_;rw [← ar];exact Ej [(0,.pointer (some F.uA)),(2,iV wt),(3,.bool ai),(4,.bool true),(5,iV ((0:Nat):Int)),(6,.int .i32 (m:M4).num)] rfl (aN (ai,true,0,m,wt) ⟨λ_=>al.2.1 aD,Nat.zero_le _,av⟩)
      ·rw [if_pos rfl];refine zg 15 rfl (JL.uA rfl rfl ?_);refine GZ (kk:=kk) (p:= .Ek true) O aa rfl rfl rfl rfl rfl GR H7 rfl ?_;intro m aS al;have av:CR m:=al.2.2;have ae:Cb m:=av.Cb;by_cases ab:m.s=true
       ·refine⟨some (.DJ (!true || m.w==1)),by simp [Fam.BQ,ab],?_⟩;refine zg 2 rfl ?_;obtain⟨aF,aG,aH⟩:=al.1 ab;refine zg 4 rfl (Am (v:=CE (Bw m&&& 4)) rfl (λρ h=>Eh (c:=4) ae (h _ _ rfl) (h _ _ rfl) (by decide)) ?_);refine Am (v:= .bool true) rfl (λρ h=>Yl.to (Hq (h _ _ rfl) (h _ _ rfl)) (by have aI:(((Bw m&&& 4:Nat):Int)≠0):=(λe=>by rw [(Hx m).1 e] at ab;cases ab);rw [decide_eq_true aI])) ?_;refine zg 6 rfl (Am (v:=CE (Bw m&&& 3)) rfl (λρ h=>Eh (c:=3) ae (h _ _ rfl) (h _ _ rfl) (by decide)) ?_);refine Am (v:= .bool false) rfl (λρ h=>Yl.to (Hq (h _ _ rfl) (h _ _ rfl)) (by rw [(Ns m).2 ⟨aF,aG⟩];rfl)) (zg 2 rfl ?_);refine Am (v:=CE m.w) rfl (λρ h=>It ae (h _ _ rfl) (h _ _ rfl)) (Am (v:= .bool false) rfl (λρ h=>Yl.to (Yl.eql (h _ _ rfl) (h _ _ rfl)) (by rw [decide_eq_false (λe=>aH (by omega))])) ?_);refine zg 12 rfl (Am (v:= .bool (!true)) rfl (λρ h=>Yl.not (h _ _ rfl)) ?_);refine zg 1 rfl (J5 (c:= !true) (i:=119) rfl (λd1=>?_) (λd1=>?_))
        ·refine H5 rfl rfl rfl (zg 5 rfl ?_);have hex:(!true || m.w==1)=true:=by rw [d1];simp
         rw [hex];refine zg 2 rfl (Am (v:= .int .i32 (-11)) rfl (λρ h=>Yl.to (Yl.sub (h _ _ rfl) (h _ _ rfl)) rfl) ?_);refine zg 6 rfl (JL.uA rfl rfl ?_);refine zg 1 rfl (GX (kk:=kk) (p:= .DJ true) (dl:= -11) O aa rfl rfl rfl rfl rfl G6 rfl rfl λK aq ac=>⟨⟨true,K.k,false,K.w - 1⟩,some .len,?_,List.mem_singleton.2 rfl,?_⟩)
         ·obtain⟨ay,az,aA,w3⟩:=K;obtain⟨U,g2,Z,ag,aB,ah⟩:=ac;simp only at U g2 Z ag;subst U g2 Z;have aC:w3<134217728:=ah;have e:(⟨false,false,true,w3⟩:M4).num+(-11)=((8*(w3 - 1)+1:Nat):Int):=by simp only [M4.num,Bool.toNat_true,Bool.toNat_false];omega
          rw [e,Fh (by omega)];simp only [M4.num,Bool.toNat_true,Bool.toNat_false];omega
         exact zg 2 rfl (am X O aj _ rfl)
        ·refine Am (v:= .int .i32 (m:M4).num) rfl (λρ h=>Yl.move (h _ _ rfl)) (Am (v:=CE m.w) rfl (λρ h=>It ae (h _ _ rfl) (h _ _ rfl)) ?_);refine zg 3 rfl (F1 (p:=(m.w:Int)=1) rfl (λd2=>?_) (λd2=>?_))
         ·have hex:(!true || m.w==1)=true:=by rw [d1];simp;omega
          rw [hex];refine zg 2 rfl (Am (v:= .int .i32 (-11)) rfl (λρ h=>Yl.to (Yl.sub (h _ _ rfl) (h _ _ rfl)) rfl) ?_);refine zg 6 rfl (JL.uA rfl rfl ?_);refine zg 1 rfl (GX (kk:=kk) (p:= .DJ true) (dl:= -11) O aa rfl rfl rfl rfl rfl G6 rfl rfl λK aq ac=>⟨⟨true,K.k,false,K.w - 1⟩,some .len,?_,List.mem_singleton.2 rfl,?_⟩)
          ·obtain⟨ay,az,aA,w3⟩:=K;obtain⟨U,g2,Z,ag,aB,ah⟩:=ac;simp only at U g2 Z ag;subst U g2 Z;have aC:w3<134217728:=ah;have e:(⟨false,false,true,w3⟩:M4).num+(-11)=((8*(w3 - 1)+1:Nat):Int):=by simp only [M4.num,Bool.toNat_true,Bool.toNat_false];omega
           rw [e,Fh (by omega)];simp only [M4.num,Bool.toNat_true,Bool.toNat_false];omega
          exact zg 2 rfl (am X O aj _ rfl)
         ·have hex:(!true || m.w==1)=false:=by rw [d1];simp;omega
          rw [hex];refine zg 5 rfl (JL.uA rfl rfl ?_);refine zg 1 rfl (GX (kk:=kk) (p:= .DJ false) (dl:= -7) O aa rfl rfl rfl rfl rfl G6 rfl rfl λK aq ac=>⟨⟨true,K.k,true,K.w - 1⟩,some .len,?_,List.mem_singleton.2 rfl,?_⟩)
          ·obtain⟨ay,az,aA,w3⟩:=K;obtain⟨U,g2,Z,ag,aB,ah⟩:=ac;simp only at U g2 Z ag;subst U g2 Z;have aC:w3<134217728:=ah;have e:(⟨false,false,true,w3⟩:M4).num+(-7)=((8*(w3 - 1)+5:Nat):Int):=by simp only [M4.num,Bool.toNat_true,Bool.toNat_false];omega
           rw [e,Fh (by omega)];simp only [M4.num,Bool.toNat_true,Bool.toNat_false];omega
          exact zg 2 rfl (am X O aj _ rfl)
       ·refine⟨some (.Ca true true 0 m),by simp [Fam.BQ,ab],?_⟩;refine zg 2 rfl ?_;have aD:m.s=false:=by simpa using ab
        refine zg 4 rfl (Am (v:=CE (Bw m&&& 4)) rfl (λρ h=>Eh (c:=4) ae (h _ _ rfl) (h _ _ rfl) (by decide)) ?_);refine Am (v:= .bool false) rfl (λρ h=>Yl.to (Hq (h _ _ rfl) (h _ _ rfl)) (by rw [(Hx m).2 aD];rfl)) (zg 11 rfl ?_);refine JL.again ?_;rw [← ar];exact Ej [(0,.pointer (some F.uA)),(2,iV wt),(3,.bool true),(4,.bool true),(5,iV ((0:Nat):Int)),(6,.int .i32 (m:M4).num)] rfl (aN (true,true,0,m,wt) ⟨λ_=>al.2.1 aD,Nat.zero_le _,av⟩)
   ·refine JL.done (zg 4 rfl ?_);refine JL.uA rfl rfl (GZ (kk:=kk) (p:= .DO sv aw it) O aa rfl rfl rfl rfl rfl GR H7 rfl λau aX aE=>⟨some (.Ca sv aw it au),List.mem_singleton.2 rfl,?_⟩);refine zg 3 rfl (JL.again ?_);rw [← ar];exact Ej [(0,.pointer (some F.uA)),(2,iV wt),(3,.bool sv),(4,.bool aw),(5,iV (it:Int)),(6,.int .i32 (au:M4).num)] rfl (aN (sv,aw,it,au,wt) ⟨aE.2.2.2,aJ.2.1,aE.2.2.1⟩)
 exact λa aT=>key 5 a (by omega) aT
set_option maxHeartbeats 4000000 in
theorem Uf{F:Fam}{n:Nat}{L:Env}{ds:Ld_}{k:Li_}{cs:Lf_}{s:St}{b:Frame}{ops:Ao_}{i:Nat}{rest:List Nat}{d:Option Tmp}{x:Operand}{ats:Array TypeId}{ty:TypeId}{pp:String}{af:Ae_}{g:On_}{kk:Nat}(K:s.q=false)(O:ops[i]? =some ⟨d,.call ⟨.value (.func 162),#[x],ats⟩,ty,pp,af,g⟩)(hw:AM L ops ⟨d,.call ⟨.value (.func 162),#[x],ats⟩,ty,pp,af,g⟩=some true)(U:((b.kind != .early)&&Bg n d)=true)(Y:ev L x=some (.pointer (some F.uA)))
  (h:JL (AR Tryz.prog false) (Stop Tryz.prog F (.lk kk .EP)) b n (Au L d (.tuple #[])) ds (.inRegion ops rest::k) cs s):
  JL (AR Tryz.prog false) (Stop Tryz.prog F (.lk kk .FX)) b n L ds (.inRegion ops (i::rest)::k) cs s:=by
 refine G1 (vs:= [.pointer (some F.uA)]) O hw U Tryz.func162 (by decide+kernel) rfl (by simp [evs,Y]) (Nat.le_of_ble_eq_true rfl) λaa back=>zg 2 rfl (KQ (kk:=kk) (p:= .FX) CJ.stop K rfl (λ_ _=>rfl) rfl rfl rfl rfl (by simp) Tf ?_);refine zg 6 rfl (JL.uA rfl rfl ?_);refine Rb (kk:=kk) (p:= .G5) (old:=M4.zero) (nw:=⟨true,false,false,0⟩) CJ.stop K rfl rfl rfl rfl rfl Nv rfl rfl rfl (λq Z=>⟨some .len,by simp [Fam.BQ],?_⟩) (λm q hm Z=>⟨some (.DO false false 0),by simp [Fam.BQ,hm],?_⟩)
 ·refine JL.done (zg 5 rfl ?_);refine KQ (kk:=kk) (p:= .len) CJ.stop K rfl (λ_ _=>rfl) rfl rfl rfl rfl (by simp) NC (zg 3 rfl ?_);refine N9 (kk:=kk) (p:= .Kt) CJ.stop K rfl (λ_ _=>rfl) rfl rfl rfl rfl Tryz.underlying229 Tryz.underlying185 OC rfl (OI (kk:=kk) (p:= .Jw) (ad:=F.uA) CJ.stop K rfl (λ_ _=>rfl) rfl rfl rfl rfl (by simp) Tm rfl rfl ?_);exact JL.done (JL.ret rfl rfl (Bx.none Tryz.func162 rfl) (back _ _ _ _ h))
 ·refine JL.done (zg 4 rfl ?_);refine UN (kk:=kk) K rfl rfl rfl rfl (JL.done ?_);exact JL.fin rfl rfl (Bx.none Tryz.func162 rfl) (back _ _ _ _ h)
set_option maxHeartbeats 4000000 in
theorem Uy{F:Fam}{n:Nat}{L:Env}{ds:Ld_}{k:Li_}{cs:Lf_}{s:St}{b:Frame}{ops:Ao_}{i:Nat}{rest:List Nat}{d:Option Tmp}{x:Operand}{ats:Array TypeId}{ty:TypeId}{pp:String}{af:Ae_}{g:On_}{kk:Nat}(K:s.q=false)(O:ops[i]? =some ⟨d,.call ⟨.value (.func 121),#[x],ats⟩,ty,pp,af,g⟩)(hw:AM L ops ⟨d,.call ⟨.value (.func 121),#[x],ats⟩,ty,pp,af,g⟩=some true)(U:((b.kind != .early)&&Bg n d)=true)(Y:ev L x=some (.pointer (some F.uA)))
  (h:JL (AR Tryz.prog false) (Stop Tryz.prog F (.lk kk .EP)) b n (Au L d (.tuple #[])) ds (.inRegion ops rest::k) cs s):
  JL (AR Tryz.prog false) (Stop Tryz.prog F (.lk kk .FX)) b n L ds (.inRegion ops (i::rest)::k) cs s:=by
 refine G1 (vs:= [.pointer (some F.uA)]) O hw U Tryz.func121 (by decide+kernel) rfl (by simp [evs,Y]) (Nat.le_of_ble_eq_true rfl) λZ back=>zg 3 rfl (Am (v:= .pointer (some F.uA)) rfl (λρ h=>Gi (a:=F.uA) 1 0 Tryz.underlying142 (AQ Tryz.type140) rfl rfl rfl (h _ _ rfl)) ?_);refine Uf (kk:=kk) K rfl rfl rfl rfl (JL.done ?_);exact JL.fin rfl rfl (Bx.none Tryz.func121 rfl) (back _ _ _ _ h)
end Pal
namespace Pal
open Go Go.Conc Go.Conc.Lib Go.Proofs Go.ConcR.Gen
def Ik(m:M4):LP:=if m.l=false/\m.k=false/\m.s=false/\m.w≠0 then .Ew m else .ES
def Py(m:M4):LP:=if m.s=true then .EO true else if m.k=false/\m.w≠0 then .Ew {m with l:=false} else .ES
set_option maxHeartbeats 4000000 in
theorem Ub{F:Fam}{n:Nat}{L:Env}{ds:Ld_}{k:Li_}{cs:Lf_}{s:St}{b:Frame}{ops:Ao_}{i:Nat}{rest:List Nat}{d:Option Tmp}{x Z:Operand}{nw:M4}{ats:Array TypeId}{ty:TypeId}{pp:String}{af:Ae_}{g:On_}{kk:Nat}(U:s.q=false)(ap:ops[i]? =some ⟨d,.call ⟨.value (.func 191),#[x,Z],ats⟩,ty,pp,af,g⟩)(hw:AM L ops ⟨d,.call ⟨.value (.func 191),#[x,Z],ats⟩,ty,pp,af,g⟩=some true)(aq:((b.kind != .early)&&Bg n d)=true)(ar:ev L x=some (.pointer (some F.uA)))(au:ev L Z=some (.int .i32 nw.num))(ac:nw.l=false)(av:CR nw)(aa:Cb nw)
  (h:JL (AR Tryz.prog false) (Stop Tryz.prog F (.lk kk .ES)) b n (Au L d (.tuple #[])) ds (.inRegion ops rest::k) cs s):
  JL (AR Tryz.prog false) (Stop Tryz.prog F (.lk kk (if nw.s=true then .EO true else if nw.k=false/\nw.w≠0 then .Ew nw else .ES))) b n L ds (.inRegion ops (i::rest)::k) cs s:=by
 refine G1 (vs:= [.pointer (some F.uA),.int .i32 nw.num]) ap hw aq Tryz.func191 (by decide+kernel) rfl (by simp [evs,ar,au]) (Nat.le_of_ble_eq_true rfl) λae back=>zg 4 rfl (Am (v:= .int .i32 ({nw with l:=true}:M4).num) rfl (λρ h=>Ww aa ac (h _ _ rfl) (h _ _ rfl)) ?_);refine Am (v:=CE (Bw ({nw with l:=true}:M4)&&& 1)) rfl (λρ h=>Eh (c:=1) (m:={nw with l:=true}) aa (h _ _ rfl) (h _ _ rfl) (by decide)) (Am (v:= .bool false) rfl (λρ h=>Yl.to (Yl.eql (h _ _ rfl) (h _ _ rfl)) (by rw [decide_eq_false (λe=>by have q:=(Pj _).1 e;cases q)])) ?_);refine zg 6 rfl (Am (v:=CE (Bw nw&&& 4)) rfl (λρ h=>Eh (c:=4) aa (h _ _ rfl) (h _ _ rfl) (by decide)) ?_);refine zg 2 rfl (F1 (p:=((Bw nw&&& 4:Nat):Int)=0) rfl (λc=>?_) (λc=>?_))
 ·have ag:=(Hx nw).1 c;rw [if_neg (by rw [ag];exact Bool.false_ne_true)];refine zg 6 rfl ?_;refine Ip ?_;refine Ej [(0,.pointer (some F.uA)),(4,.int .i32 nw.num)] rfl ?_;refine Tb λah ai=>?_;have aw:(if nw.k=false/\nw.w≠0 then LP.Ew nw else .ES)=Ik nw:=by unfold Ik;rw [ac,ag];simp
  rw [aw];refine SX (P:=Tryz.prog) (F:=F) (s:=s) (kk:=kk) (ph:=λm=>LP.Ew m) (ok:=CR) (head:=λ(X:Ph->GP) (a:M4)=>JL (AR Tryz.prog false) (X (.lk kk (Ik a))) (base 191) Tryz.f191.ntmps ([(0,.pointer (some F.uA)),(4,.int .i32 (a:M4).num)]) [] ah (ae::cs) s) ?_ nw av;intro Y aG aj hC old ak;have K:Cb old:=ak.Cb;show JL (AR Tryz.prog false) (Y (.lk kk (Ik old))) (base 191) Tryz.f191.ntmps [(0,.pointer (some F.uA)),(4,.int .i32 old.num)] [] ah (ae::cs) s;rw [ai];refine zg 5 rfl (Am (v:=CE old.w) rfl (λρ h=>It K (h _ _ rfl) (h _ _ rfl)) ?_);refine zg 2 rfl (Lj (q:=(old.w:Int)=0) (i:=17) rfl (λc2=>?_) (λc2=>?_))
  ·have O:Ik old= .ES:=by unfold Ik;rw [if_neg (λe=>e.2.2.2 (by omega))]
   refine zg 6 rfl ?_;rw [O];exact JL.ret rfl rfl (Bx.none Tryz.func191 rfl) (back _ _ _ _ (MD (λg s=>aj _ g s) h))
  ·refine Am (v:= .int .i32 (old:M4).num) rfl (λρ h=>Yl.move (h _ _ rfl)) (Am (v:=CE (Bw old&&& 7)) rfl (λρ h=>Eh (c:=7) K (h _ _ rfl) (h _ _ rfl) (by decide)) ?_);refine zg 3 rfl (F1 (p:=((Bw old&&& 7:Nat):Int)≠0) rfl (λc3=>?_) (λc3=>?_))
   ·have O:Ik old= .ES:=by unfold Ik;rw [if_neg (λe=>c3 ((Tj old).2 ⟨e.1,e.2.1,e.2.2.1⟩))]
    rw [O];exact JL.ret rfl rfl (Bx.none Tryz.func191 rfl) (back _ _ _ _ (MD (λg s=>aj _ g s) h))
   ·have ay:=(Tj old).1 (Decidable.not_not.1 c3);obtain⟨l0,aH,aI,w0⟩:=old;obtain⟨z1,al,am⟩:=ay;simp only at z1 al am c2;subst z1 al am;have an:w0≠0:=by omega
    have O:Ik ⟨false,false,false,w0⟩= .Ew ⟨false,false,false,w0⟩:=by unfold Ik;rw [if_pos ⟨rfl,rfl,rfl,an⟩]
    rw [O];refine zg 4 rfl (Am (v:= .int .i32 (⟨false,false,false,w0 - 1⟩:M4).num) rfl (λρ h=>WS (m:=⟨false,false,false,w0⟩) K an (h _ _ rfl) (h _ _ rfl)) ?_);refine Am (v:= .int .i32 (⟨false,true,false,w0 - 1⟩:M4).num) rfl (λρ h=>M8 (c:=2) (m:=⟨false,false,false,w0 - 1⟩) (by unfold Cb at K ⊢;simp only at K ⊢;omega) (by decide) (PK _) rfl (h _ _ rfl) (h _ _ rfl)) (zg 7 rfl ?_);refine JL.uA rfl rfl (zg 2 rfl ?_);refine λT az=>(AR Tryz.prog false).stop (hC ⟨false,false,false,w0⟩ _ ak λX aJ aA ao aB aC=>?_);refine Oj (kk:=kk) (p:= .Ew ⟨false,false,false,w0⟩) (old:=⟨false,false,false,w0⟩) (nw:=⟨false,true,false,w0 - 1⟩) aA U rfl rfl rfl rfl rfl Nv rfl rfl rfl (λq aD=>⟨some (.EO false),by simp [Fam.BQ],?_⟩) (λm q hm aD=>⟨some .G8,by simp [Fam.BQ,hm],?_⟩) T az
    ·refine JL.done (zg 5 rfl ?_);refine Am (v:= .pointer (some F.qA)) rfl (λρ h=>Gi (a:=F.uA) 0 1 Tryz.underlying140 Mk rfl rfl rfl (h _ _ rfl)) (Qn (kk:=kk) (st:=false) ao U rfl rfl rfl rfl Sk rfl rfl ?_);exact JL.done (JL.ret rfl rfl (Bx.none Tryz.func191 rfl) (back _ _ _ _ (MD (λg s=>aB _ g s) h)))
    ·refine JL.done (zg 5 rfl ?_);refine JL.uA rfl rfl (GZ (kk:=kk) (p:= .G8) ao U rfl rfl rfl rfl rfl GR Zg rfl λab aK aE=>⟨some (Ik ab),List.mem_singleton.2 rfl,?_⟩);refine zg 3 rfl (JL.again ?_);rw [← ai];exact Ej [(0,.pointer (some F.uA)),(4,.int .i32 ab.num)] rfl (aC ab aE)
 ·have aF:nw.s=true:=by rcases Bool.eq_false_or_eq_true nw.s with hh | hh;exact hh;exact absurd ((Hx nw).2 hh) c
  rw [if_pos aF];refine zg 3 rfl (Am (v:= .pointer (some F.qA)) rfl (λρ h=>Gi (a:=F.uA) 0 1 Tryz.underlying140 Mk rfl rfl rfl (h _ _ rfl)) ?_);refine Qn (kk:=kk) (st:=true) CJ.stop U rfl rfl rfl rfl Sk rfl rfl (JL.done ?_);exact JL.fin rfl rfl (Bx.none Tryz.func191 rfl) (back _ _ _ _ h)
set_option maxHeartbeats 4000000 in
theorem TS{F:Fam}{n:Nat}{L:Env}{ds:Ld_}{k:Li_}{cs:Lf_}{s:St}{b:Frame}{ops:Ao_}{i:Nat}{rest:List Nat}{d:Option Tmp}{x:Operand}{ats:Array TypeId}{ty:TypeId}{pp:String}{af:Ae_}{g:On_}{kk:Nat}(K:s.q=false)(ac:ops[i]? =some ⟨d,.call ⟨.value (.func 163),#[x],ats⟩,ty,pp,af,g⟩)(hw:AM L ops ⟨d,.call ⟨.value (.func 163),#[x],ats⟩,ty,pp,af,g⟩=some true)(ae:((b.kind != .early)&&Bg n d)=true)(ag:ev L x=some (.pointer (some F.uA)))
  (h:JL (AR Tryz.prog false) (Stop Tryz.prog F .HG) b n (Au L d (.tuple #[])) ds (.inRegion ops rest::k) cs s):
  JL (AR Tryz.prog false) (Stop Tryz.prog F (.lk kk .Gn)) b n L ds (.inRegion ops (i::rest)::k) cs s:=by
 refine G1 (vs:= [.pointer (some F.uA)]) ac hw ae Tryz.func163 (by decide+kernel) rfl (by simp [evs,ag]) (Nat.le_of_ble_eq_true rfl) λam back=>zg 6 rfl (JL.uA rfl rfl ?_);refine GZ (kk:=kk) (p:= .Gn) CJ.stop K rfl rfl rfl rfl rfl GR Zd rfl λan ao ap=>⟨some .JM,List.mem_singleton.2 rfl,?_⟩;refine zg 4 rfl (N9 (kk:=kk) (p:= .JM) CJ.stop K rfl (λ_ _=>rfl) rfl rfl rfl rfl Tryz.underlying229 Tryz.underlying185 OC rfl ?_);refine OI (kk:=kk) (p:= .JI) (ad:=F.uA) CJ.stop K rfl (λ_ _=>rfl) rfl rfl rfl rfl (by simp) ZU rfl rfl (zg 2 rfl ?_);refine KQ (kk:=kk) (p:= .Jy) CJ.stop K rfl (λ_ _=>rfl) rfl rfl rfl rfl (by simp) Tf (zg 5 rfl ?_);refine JL.uA rfl rfl (GX (kk:=kk) (p:= .HE) (dl:= -1) CJ.stop K rfl rfl rfl rfl rfl G6 rfl rfl λm q Y=>⟨{m with l:=false},some (Py m),?_,List.mem_singleton.2 rfl,?_⟩)
 ·obtain⟨ah,O,U,w3⟩:=m;obtain⟨Z,ai⟩:=Y;simp only at Z;subst Z;have aq:w3<134217728:=ai;have ar:=Bool.toNat_le O;have au:=Bool.toNat_le U;have e:(⟨true,O,U,w3⟩:M4).num+(-1)=((2*O.toNat+4*U.toNat+8*w3:Nat):Int):=by simp only [M4.num,Bool.toNat_true];omega
  rw [e,Fh (by omega)];simp only [M4.num,Bool.toNat_false];omega
 ·have aa:CR m:=Y.2;have aj:Cb ({m with l:=false}:M4):=(show CR ({m with l:=false}:M4) from aa).Cb;refine zg 8 rfl ?_;refine F1 (p:=({m with l:=false}:M4).num≠0) rfl (λc=>?_) (λc=>?_)
  ·refine JL.region (zg 2 rfl ?_);refine Ub (kk:=kk) (nw:={m with l:=false}) K rfl rfl rfl rfl rfl rfl aa aj (zg 2 rfl ?_);refine KQ (kk:=kk) (p:= .ES) CJ.stop K rfl (λ_ _=>rfl) rfl rfl rfl rfl (by simp) NC (JL.done ?_);exact JL.fin rfl rfl (Bx.none Tryz.func163 rfl) (back _ _ _ _ h)
  ·have ak:({m with l:=false}:M4).num=0:=Decidable.not_not.1 c;have ab:m.k=false/\m.s=false/\m.w=0:=by
    obtain⟨ah,O,U,w3⟩:=m;cases O <;> cases U <;> simp [M4.num] at ak ⊢ <;> omega
   have al:Py m= .ES:=by unfold Py;rw [if_neg (by rw [ab.2.1];exact Bool.false_ne_true),if_neg (λe=>e.2 ab.2.2)]
   rw [al];refine zg 2 rfl (KQ (kk:=kk) (p:= .ES) CJ.stop K rfl (λ_ _=>rfl) rfl rfl rfl rfl (by simp) NC ?_);exact JL.done (JL.fin rfl rfl (Bx.none Tryz.func163 rfl) (back _ _ _ _ h))
theorem JO.Xh{F:Fam}{n:Nat}{M:Env}{ds:Ld_}{cs:Lf_}{s:St}{b:Frame}{kk:Nat}(K:b.roundOf=none)(O:s.q=false)(h:JO (AR Tryz.prog false) (Stop Tryz.prog F .HG) b n M ds cs s):
  JO (AR Tryz.prog false) (Stop Tryz.prog F (.lk kk .Gn)) b n M (dcall 122 #[.pointer (some F.uA)]::ds) cs s:=by
 refine JO.enter (vs:= [.pointer (some F.uA)]) K Tryz.func122 (by decide+kernel) rfl (Nat.le_of_ble_eq_true rfl) λT U todo=>zg 3 rfl (Am (v:= .pointer (some F.uA)) rfl (λρ h=>Gi (a:=F.uA) 1 0 Tryz.underlying142 (AQ Tryz.type140) rfl rfl rfl (h _ _ rfl)) ?_);refine TS (kk:=kk) O rfl rfl rfl rfl (JL.done ?_);exact JL.out rfl (JO.leaveD rfl Tryz.func122 rfl (.inl rfl) (h T U todo))
end Pal
namespace Pal
open Go Go.Conc
open Go.ConcN (upd)
section
variable {P:Program}{F:Fam}{n:Nat}{L L':Env}{ds:Ld_}{k:Li_}{cs:Lf_}{s s':St}{b:Frame}
variable {ops:Ao_}{i:Nat}{rest:List Nat}{d:Option Tmp}{f:FuncId}{x y z:Operand}{ats:Array TypeId}{ty t u tw:TypeId}{pp:String}{af:Ae_}{g:On_}{kk:Nat}
theorem T8{m:Nat}(h:Bl P t=some m)(w:World):(Go.sizeOf t).run P w= .ok m w:=by
 unfold Bl at h;simp only [Go.sizeOf,typeInfo,bind,Sem.bind,program,Sem.run];cases hi:P.info? t with
 | none=>rw [hi] at h;cases h
 | some j=>rw [hi] at h;simp at h;subst h;rfl
theorem Xl{w:World}{K:Nat->Value}(h:F.FD w K)(O:kk<F.n):w.cell? ⟨F.fd,kk,none⟩=some (K kk)/\w.frozen? ⟨F.fd,kk,none⟩=false:=by
 unfold Fam.FD Fam.Ih at h;constructor
 ·simp [World.cell?,h,O]
 ·simp [World.frozen?,h]
theorem T9{w:World}{O:Nat->Value}{v:Value}(h:F.FD w O)(aa:kk<F.n):w.setCell ⟨F.fd,kk,none⟩ v=F.G7 w (upd O kk v):=by
 unfold Fam.G7 World.setCell;congr 1;apply Array.ext_getElem?;intro i;unfold Fam.FD Fam.Ih at h;rw [Array.getElem?_modify];have U:F.fd<w.heap.size:=by
  rcases Nat.lt_or_ge F.fd w.heap.size with K | K
  ·exact K
  ·simp [Array.getElem?_eq_none K] at h
 by_cases e:F.fd=i
 ·subst e;rw [Array.getElem?_setIfInBounds_self_of_lt U,h];simp only [if_true,Option.map_some,Fam.Ih,Option.some.injEq,Obj.cells.injEq,and_true];apply Array.ext
  ·simp
  ·intro j ab Y;by_cases e2:kk=j
   ·subst e2;simp [upd]
   ·have Z:¬j=kk:=λe=>e2 e.symm;simp [upd,Z];rw [Array.getElem_setIfInBounds (by simpa using Y),if_neg e2];simp
 ·rw [Array.getElem?_setIfInBounds_ne e,if_neg e]
theorem Ui{X:Ph->GP}(ai:CJ P F X){a:Option Addr}{l c:Nat}(aj:s.q=false)(Y:kk<F.n)
  (ak:ops[i]? =some ⟨d,.store t x y,ty,pp,af,g⟩) (Z:b.roundOf=none) (hw:AM L ops ⟨d,.store t x y,ty,pp,af,g⟩=some true) (U:((b.kind != .early)&&Bg n d)=true)
  (al:Bl P t=some 1) (am:(P.funcs[b.fn]?).any (·.norace)=false) (an:ev L x=some (.pointer (some ⟨F.fd,kk,none⟩))) (ao:ev L y=some (.slice a l c)) (hm:F.msg kk (.slice a l c) s.E)
  (h:JL (AR P false) (X (.lk kk .Gn)) b n (Au L d undef) ds (.inRegion ops rest::k) cs s):
  JL (AR P false) (X (.lk kk .EP)) b n L ds (.inRegion ops (i::rest)::k) cs s:=λT K=>by
 simp only [Bool.and_eq_true] at U
 refine(AR P _).stop (ai _ _ _ {
  run:=rfl,offers:=rfl,quiet:=(by simp [Fam.Cz]),live:=λ_=>aj,act:=(by simp [Fam.act]),Iy:=(by simp),ER:=(by simp),go:=(by simp),lk:=λk' l e ap=>by cases e;exact absurd rfl ap
  Cl:=(by simp),store:=λk' e=>?_,fin:=(by simp)})
 cases e
 refine⟨_,hm,G (fr b (Cx T d undef) ds (.inRegion ops rest::k)) cs,rfl,λw aq aa=>?_,h _ (K.put U.2 _)⟩
 obtain⟨c1,c2⟩:=Xl aa Y
 have ab:execOp (⟨T,ds⟩:Act).eval ⟨d,.store t x y,ty,pp,af,g⟩=(do Instr.storeAt t (.pointer (some ⟨F.fd,kk,none⟩)) (.slice a l c);pure Next.skip):=by
  rw [KA];simp only [execOp,K.ev an,K.ev ao]
 have ac:(Value.slice a l c).cells= #[.slice a l c]:=rfl;have ae:(Value.slice a l c).oneCell'=true:=rfl;have ag:(Addr.add ⟨F.fd,kk,none⟩ 0)=⟨F.fd,kk,none⟩:=by rw [Dm rfl];rfl
 have ah:=T8 (P:=P) al w;have O:=run_store P w ⟨F.fd,kk,none⟩ (.slice a l c) .plain ae;rw [c1] at O;simp only [c2,Bool.false_eq_true,if_false] at O;rw [BE Z,BE Z,stepG_none (a:=⟨T,ds⟩) (w':=F.G7 w (upd aq kk (.slice a l c))) ak (BX K hw) (by simpa using U.1) (by
  rw [ab]
  simp [Instr.storeAt,Instr.sureAddr,storeVar,ac,ah,storeCells,ag,O,T9 aa Y,Result.andThen]),DD]
 have e2:listed P b.fn ⟨T,ds⟩ ⟨d,.store t x y,ty,pp,af,g⟩ w= #[⟨.cell ⟨F.fd,kk,none⟩,true,false⟩]:=by
  unfold listed;rw [ab];have ar:=events_store (P:=P) (w:=w) (es:= #[]) ⟨F.fd,kk,none⟩ (.slice a l c) .plain ae;have au:(do Instr.storeAt t (.pointer (some ⟨F.fd,kk,none⟩)) (.slice a l c);pure Next.skip:Sem Next).events P w #[]= #[⟨.cell ⟨F.fd,kk,none⟩,true,false⟩]:=by
   simp [Instr.storeAt,Instr.sureAddr,storeVar,ac,ah,storeCells,ag,O,c1,c2,ar,Result.evThen]
  rw [au,seen_def];simp [seenStep,am]
 rw [e2]
end
end Pal
namespace Pal
open Go Go.Conc Go.Proofs
open Go.Proofs.Tryz
open Go.Conc.Lib Go.ConcR.Gen
theorem ZG:(Tryz.prog.funcs[117]?).any (·.norace)=false:=by rw [func117];rfl
def Kl(fu_:Nat)(K:AY)(p:Ay)(j:Nat):Option (List Int):=
 (f120 fu_ K).bind λO=>
 (f119 fu_ ([O]:List (List (AF))) ((j:Nat):Int) p ([]:List ((Nat×A1)×Bool))).bind λU=>
 some U.1
set_option maxHeartbeats 1000000 in
theorem XQ{F:Fam}{j:Nat}{E:LH}{ap a1 ag:Ao}{Z c2 ah aa op ab ac ae oi kf off:Nat}{p:Ay}{O:AY}(an:At E aa op [.slice ap p.length Z])(ao:Al Ax E ap Z p)(aq:At E ab ac [sV a1 O.1 c2,sV ag O.2 ah])(ar:Al (rL rI) E a1 c2 O.1)(au:Al Ax E ag ah O.2)(hi:At E ae oi [iV ((j:Nat):Int)])(av:At E kf off [.slice (some ⟨F.fd,0,none⟩) F.n F.n]){fu_:Nat}{r:List Int}(ak:Kl fu_ O p j=some r)(al:j<F.n)(aw:∀E' a c,Le E E'->Al rI E' a c r->(r= []->a=none)->F.msg j (.slice a r.length c) E'):
  Way Tryz.prog false (Stop Tryz.prog F (F.start j)) (born Tryz.prog ⟨.fn (.func 117) [.pointer (some F.sA),Aj aa op,Aj ab ac,Aj ae oi,.pointer (some F.uA),Aj kf off].toArray,#[]⟩) ⟨E,λ_=>none,false⟩:=by
 refine V5 (fn:=Tryz.f117) (vs:= [.pointer (some F.sA),Aj aa op,Aj ab ac,Aj ae oi,.pointer (some F.uA),Aj kf off]) func117 (by decide+kernel) rfl (by simp) (Nat.le_of_ble_eq_true rfl) ?_;obtain⟨H,ay⟩:∃H:LH,H=λ_=>none:=⟨_,rfl⟩;rw [← ay];have az:Aq E H []:=trivial;refine(?_:JL (AR Tryz.prog false) (Stop Tryz.prog F (.lk j .FX)) (baseD 117) Tryz.f117.ntmps (F2 0 [.pointer (some F.sA),Aj aa op,Aj ab ac,Aj ae oi,.pointer (some F.uA),Aj kf off]) [] [.code _] [KU Tryz.prog] (Ak E H []));unfold Kl at ak;refine zg 2 rfl (JL.defer (vs:= [.pointer (some F.sA)]) rfl rfl rfl rfl rfl ?_);refine zg 3 rfl (Ch 0 an Bz rfl rfl rfl ?_);refine JS.makeMap rfl rfl rfl az λr1 aA=>Am (v:= .agg #[sV ap p Z,.map (some r1)]) rfl (λρ h=>Dc [(0,1),(1,1)] h (CQ type153) underlying153 ⟨rfl,AQ type80,rfl,AQ type151,trivial⟩ rfl rfl) (JS.box (v:= .agg #[sV ap p Z,.map (some r1)]) rfl rfl rfl aA rfl λaU aB=>?_);refine zg 3 rfl (CP 1 aB rfl λaV K aC aD=>?_);refine EX 5 λai=>C5 0 ai rfl rfl (Jq 1 ai (aq.Ag K) FL Dl rfl rfl rfl ?_);refine Eu 4 ai 0 (hi.Ag K) A4 rfl rfl rfl rfl ?_;obtain⟨am,aE,aF⟩:=bs ak;refine JG.call (i:=2) (vs:= [.agg #[sV a1 O.1 c2,sV ag O.2 ah]]) (YI (ar.Ag K) (au.Ag K) aE) (by decide+kernel) rfl rfl rfl (A7 func120 rfl) rfl aD ?_;rintro _ aW _ U ⟨aG,aH,rfl,rfl,aI⟩ aJ;refine JG.one (i:=3) rfl (by decide+kernel) (Take.EH (pp:=(rL (rM rI false rI false))) [sV aG am aH] ([am]:List (List AF)) aJ rfl rfl rfl underlying158 Jc Mf (by decide) rfl rfl rfl ⟨⟨_,_,rfl,aI⟩,trivial⟩ λaX aY aK aL=>?_);refine Dd [5,6] (B8 3 aK aL rfl λaZ Y aM aN=>?_);obtain⟨aO,aP,aQ⟩:=bs aF;refine Cq 0 (Xp aM (aC.Ag (U.Ad Y)) (ao.Ag ((K.Ad U).Ad Y)) BA.nil aP) rfl rfl (A7 func119 rfl) aN rfl ?_;rintro _ a0 _ aj ⟨a2,a3,a4,rfl,rfl,aR,aS,a5⟩ a6;refine zg 3 rfl ?_;have aT:r=aO.1:=(Option.some.inj aQ).symm;subst aT;refine JL.region (Uy (kk:=j) rfl rfl rfl rfl rfl ?_);refine zg 3 rfl (JL.defer (vs:= [.pointer (some F.uA)]) rfl rfl rfl rfl rfl ?_);refine zg 2 rfl (Ch 0 (av.Ag (((K.Ad U).Ad Y).Ad aj)) FM rfl rfl rfl ?_);refine Ch 0 (hi.Ag (((K.Ad U).Ad Y).Ad aj)) A4 rfl rfl rfl (zg 1 rfl ?_);refine Am (v:= Aj F.fd j) rfl (λρ h=>Yl.to (Fg (xs:=List.replicate F.n ()) (m:=((j:Nat):Int)) (xv:=()) (List.length_replicate) (by simp [ix,al]) underlying22 Dy (h _ _ rfl) (h _ _ rfl)) (by show Aj F.fd (j*1)=_;rw [Nat.mul_one])) (Ui (kk:=j) CJ.stop rfl al rfl rfl rfl rfl Dy ZG rfl rfl (aw _ _ _ (((K.Ad U).Ad Y).Ad aj) aR aS) ?_);exact JL.done (JL.out rfl (JO.Xh (kk:=j) rfl rfl (JO.ZN Tryz.Ki rfl rfl (JO.leaveD rfl func117 rfl (.inr rfl) Ut))))
end Pal
namespace Pal
open Go Go.Conc Go.Proofs
open Go.Proofs.Tryz
open Go.Conc.Lib Go.ConcR.Gen
theorem OL.XI{e:TypeId}{E:LH}{r c:Nat}{seg:Seg}{xs:Lv_}(h:OL e rV E (AP r) c seg xs)(Y:c=xs.length):seg= [(r,.cells xs.toArray e (0,0))]:=by
 obtain⟨wss,ab,K,Z⟩:=h;rcases ab with⟨ac,_⟩ | ⟨bk,f,ae,e2,aa,ag,O⟩
 ·cases ac
 cases ae;have hw:wss=xs.map λx=> [x]:=by
  apply List.ext_getElem?;intro i;rw [List.getElem?_map];cases U:xs[i]? with
  | none=>rw [List.getElem?_eq_none (by rw [K];exact List.getElem?_eq_none_iff.1 U)];rfl
  | some x=>
   have hi:i<wss.length:=by rw [K];exact(List.getElem?_eq_some_iff.1 U).1
   have:=(Z i x wss[i] U (List.getElem?_eq_getElem hi)).1;rw [List.getElem?_eq_getElem hi,this];rfl
 have ah:wss.flatten=xs:=by
  rw [hw];clear hw O Z K aa ag Y
  induction xs with
  | nil=>rfl
  | cons x xs ai=>simp [ai]
 rw [ah] at O;have ak:rV.n=1:=rfl;have aj:f.toList=xs:=by
  rw [O];rw [List.take_of_length_le (by rw [Array.length_toList,aa,Y];exact Nat.le_refl _)]
 rw [e2,← aj]
noncomputable def Kp:Code:=match(Tryz.f77.body).bind (I4 0) with | some (.loop c)=>c | _=> .skip
noncomputable def Tr:Code:=match(Tryz.f77.body).bind (I4 2) with | some (.loop c)=>c | _=> .skip
set_option maxHeartbeats 1000000 in
theorem Xe{F:Fam}{n:Nat}(ai:F.n=n)(aF:0<n)(aG:n<=1000){E:LH}{ap a1 ac:Ao}{ae c2 ag:Nat}{p:Ay}{O:AY}(aj:Al Ax E ap ae p)(ak:Al (rL rI) E a1 c2 O.1)(al:Al Ax E ac ag O.2)(hlen:p.length=n){Y Z kf:Nat}(am:At E Y 0 [.slice ap p.length ae])(an:At E Z 0 [sV a1 O.1 c2,sV ac O.2 ag])(ao:At E kf 0 [.slice (some ⟨F.fd,0,none⟩) F.n F.n]){fu_:Nat}{xs:Nat->List Int}(aq:∀j,j<n->Kl fu_ O p j=some (xs j))(ar:∀j,j<n->∀E' a c,Al rI E' a c (xs j)->(xs j= []->a=none)->F.msg j (.slice a (xs j).length c) E'){j:Nat}(aa:j<n){ab H:LH}(hle:Le E ab)(au:Aq ab H []){k:Li_}{cs:Lf_}
  (h:∀U,Le E U->Aq U H []->JL (AR Tryz.prog true) (Stop Tryz.prog F (F.El j)) (base 77) Tryz.f77.ntmps [(2,Aj Z 0),(3,Aj Y 0),(6,.pointer (some F.uA)),(7,.pointer (some F.sA)),(8,Aj kf 0),(19,iV (p.length:Int)),(20,iV ((j+1:Nat):Int))] [] (.inLoop Kp::k) cs (Ak U H [])):
  JL (AR Tryz.prog true) (Stop Tryz.prog F (.F3 j)) (base 77) Tryz.f77.ntmps [(2,Aj Z 0),(3,Aj Y 0),(6,.pointer (some F.uA)),(7,.pointer (some F.sA)),(8,Aj kf 0),(19,iV (p.length:Int)),(20,iV ((j:Nat):Int))] [] (.code Kp:: .inLoop Kp::k) cs (Ak ab H []):=by
 refine zg 2 rfl (Am (v:= .bool true) rfl (λρ h=>Yl.to (Yl.lss (h _ _ rfl) (h _ _ rfl)) (by rw [decide_eq_true (show((j:Nat):Int)<(p.length:Int) by omega)])) ?_);refine zg 9 rfl (BI au Cd λrn av=>?_);refine BB 0 av Az λaw=>?_;refine CP 0 aw rfl λU ay az aA=>HU (S':= []) (by simp) aA λaB=>?_;have K:=hle.trans ay;refine zg 3 rfl (U1 Tryz.Ki rfl rfl rfl rfl rfl rfl ?_);refine zg 2 rfl (Am (v:= .func (.func 117) #[] ([.pointer (some F.sA),Aj Y 0,Aj Z 0,Aj rn 0,.pointer (some F.uA),Aj kf 0]:Lv_).toArray) rfl (λρ h=>Ji (by simp) (by simp [h (.tmp 7) _ rfl,h (.tmp 3) _ rfl,h (.tmp 2) _ rfl,h (.tmp 9) _ rfl,h (.tmp 6) _ rfl,h (.tmp 8) _ rfl])) ?_);have ah:=XQ (F:=F) (j:=j) (am.Ag K) (aj.Ag K) (an.Ag K) (ak.Ag K) (al.Ag K) az (ao.Ag K) (aq j aa) (by rw [ai];exact aa) (λE' a c _ aC aD=>ar j aa E' a c aC aD);refine X7 (fi:= #[]) rfl rfl rfl rfl rfl rfl rfl (by first | exact ah | (simp only [List.append_toArray,List.nil_append,Array.append_empty,Array.empty_append];exact ah)) ?_
 refine zg 3 rfl ?_;have aE:Av (((j:Nat):Int)+1)=some (((j+1:Nat)):Int):=by unfold Av;rw [if_pos (by omega)];simp
 refine Bm aE rfl rfl rfl (zg 2 rfl ?_);exact AA (h U K aB) rfl
theorem Ug{F:Fam}{n:Nat}(Y:F.n=n)(ai:0<n)(aj:n<=1000){E:LH}{ap a1 ab:Ao}{ac c2 ae:Nat}{p:Ay}{O:AY}(ak:Al Ax E ap ac p)(al:Al (rL rI) E a1 c2 O.1)(am:Al Ax E ab ae O.2)(hlen:p.length=n){Z aa kf:Nat}(an:At E Z 0 [.slice ap p.length ac])(ao:At E aa 0 [sV a1 O.1 c2,sV ab O.2 ae])(aq:At E kf 0 [.slice (some ⟨F.fd,0,none⟩) F.n F.n]){fu_:Nat}{xs:Nat->List Int}(ar:∀j,j<n->Kl fu_ O p j=some (xs j))(au:∀j,j<n->∀E' a c,Al rI E' a c (xs j)->(xs j= []->a=none)->F.msg j (.slice a (xs j).length c) E'){H:LH}{k:Li_}{cs:Lf_}
  (h:∀K,Le E K->Aq K H []->JL (AR Tryz.prog true) (Stop Tryz.prog F .C7) (base 77) Tryz.f77.ntmps [(2,Aj aa 0),(3,Aj Z 0),(6,.pointer (some F.uA)),(7,.pointer (some F.sA)),(8,Aj kf 0),(19,iV (p.length:Int)),(20,iV (p.length:Int))] [] (.code Kp:: .inLoop Kp::k) cs (Ak K H [])):
  ∀(m j:Nat),j+m=n->0<m->∀U,Le E U->Aq U H []->JL (AR Tryz.prog true) (Stop Tryz.prog F (.F3 j)) (base 77) Tryz.f77.ntmps [(2,Aj aa 0),(3,Aj Z 0),(6,.pointer (some F.uA)),(7,.pointer (some F.sA)),(8,Aj kf 0),(19,iV (p.length:Int)),(20,iV ((j:Nat):Int))] [] (.code Kp:: .inLoop Kp::k) cs (Ak U H []):=by
 intro m
 induction m with
 | zero=>intro j _ av;cases av
 | succ m aw=>
  intro j aA _ U hle ay;refine Xe Y ai aj ak al am hlen an ao aq ar au (by omega) hle ay λK ag ah=>JL.again ?_;by_cases hm:m=0
  ·subst hm;have az:j+1=F.n:=by rw [Y];omega
   have e:F.El j= .C7:=by unfold Fam.El;rw [if_pos az]
   rw [e];have e2:((j+1:Nat):Int)=(p.length:Int):=by rw [hlen];omega
   rw [e2];exact h K ag ah
  ·have e:F.El j= .F3 (j+1):=by unfold Fam.El;rw [if_neg (by rw [Y];omega)]
   rw [e];exact aw (j+1) (by omega) (by omega) K ag ah
def ND(fu_:Nat)(K:AY)(p:Ay)(j:Nat):List Int:=(Kl fu_ K p j).getD []
def Lu(n:Nat)(xs:Nat->List Int):(List Int)×Bool:=match(List.range n).find? (λj=> !(xs j).isEmpty) with | some j=>(xs j,true) | none=>([],false)
def f77(fu_:Nat)(K:AY)(p:Ay):Option ((List Int)×Bool):= if p.length=0 then some ([],true) else if p.length<=1000/\(List.range p.length).all (λj=>(Kl fu_ K p j).isSome)=true then some (Lu p.length (ND fu_ K p)) else none
theorem UE{n:Nat}{xs:Nat->List Int}{i:Nat}(hi:i<n)(K:xs i≠ [])(O:∀k,k<i->xs k= []):Lu n xs=(xs i,true):=by
 unfold Lu;have:(List.range n).find? (λj=> !(xs j).isEmpty)=some i:=by
  rw [List.find?_range_eq_some];refine⟨by simp [K],by simpa using hi,λj U=>by simp [O j U]⟩
 rw [this]
theorem Vj{n:Nat}{xs:Nat->List Int}(K:∀k,k<n->xs k= []):Lu n xs=([],false):=by
 unfold Lu;have:(List.range n).find? (λj=> !(xs j).isEmpty)=none:=by
  rw [List.find?_eq_none];intro j O;simp [K j (List.mem_range.1 O)]
 rw [this]
theorem WO{E:LH}{a:Ao}{c:Nat}{xs:List Int}(h:Al rI E a c xs)(K:xs≠ []):a.isNone=false:=by
 rcases h.2 with⟨e,_⟩ | ⟨bk,off,e,_⟩
 ·exact absurd e K
 ·rw [e];rfl
set_option maxHeartbeats 1000000 in
theorem XG{J:Judge Tryz.prog}{Q:Gs_}{Y:Frame}{cs:Lf_}{fd n:Nat}{f:Nat->Value}{xs:Nat->List Int}(ak:n<=1000){E H:LH}{k:Li_}(ab:Aq E H [[(fd,.cells (Array.ofFn λi:Fin n=>f i) 28 (0,0))]])(hm:∀k,k<n->∃a c,f k= .slice a (xs k).length c/\Al rI E a c (xs k)/\(xs k= []->a=none))
  (ac:∀i a c L',i<n->xs i≠ []->(∀k,k<i->xs k= [])->Al rI E a c (xs i)->look L' 4=some (.slice a (xs i).length c)->look L' 5=some (.bool true)->∀k',JL J Q (base 77) Tryz.f77.ntmps L' [] (.code .ret::k') (Y::cs) (Ak E H [[(fd,.cells (Array.ofFn λi:Fin n=>f i) 28 (0,0))]]))
  (ae:(∀k,k<n->xs k= [])->JL J Q (base 77) Tryz.f77.ntmps [] [] k (Y::cs) (Ak E H [[(fd,.cells (Array.ofFn λi:Fin n=>f i) 28 (0,0))]])):
  ∀m i,i+m=n->(∀k,k<i->xs k= [])->JL J Q (base 77) Tryz.f77.ntmps [(27,.slice (AP fd) n n),(28,iV (n:Int)),(29,iV (i:Int))] [] (.code Tr:: .inLoop Tr:: .inBlock 2::k) (Y::cs) (Ak E H [[(fd,.cells (Array.ofFn λi:Fin n=>f i) 28 (0,0))]]):=by
 intro m
 induction m with
 | zero=>
  intro i hi K;refine zg 2 rfl (Am (v:= .bool false) rfl (λρ h=>Yl.to (Yl.lss (h _ _ rfl) (h _ _ rfl)) (by rw [decide_eq_false (show ¬((i:Int)<(n:Int)) by omega)])) ?_);refine zg 4 rfl (Ej [] rfl ?_);exact ae λk al=>K k (by omega)
 | succ m ag=>
  intro i hi K;have O:i<n:=by omega
  obtain⟨a,c,ah,aa,ai⟩:=hm i O;refine zg 2 rfl (Am (v:= .bool true) rfl (λρ h=>Yl.to (Yl.lss (h _ _ rfl) (h _ _ rfl)) (by rw [decide_eq_true (show(i:Int)<(n:Int) by omega)])) ?_);refine zg 8 rfl (Am (v:= Aj fd i) rfl (λρ h=>Yl.to (Fg (xs:=List.replicate n ()) (m:=((i:Nat):Int)) (xv:=()) (List.length_replicate) (by simp [ix,O]) underlying22 Dy (h _ _ rfl) (h _ _ rfl)) (by show Aj fd (i*1)=_;rw [Nat.mul_one])) ?_);refine Am (v:= .slice a (xs i).length c) rfl (λρ h=>Yl.load Gc (h _ _ rfl) (BL (j:=0) (off:=i) ab rfl (by simp [O,ah]))) (zg 5 rfl ?_);refine Am (v:= .bool (!a.isNone)) rfl (λρ h=>UH underlying28 (h _ _ rfl) (h _ _ rfl)) (JL.done ?_);by_cases U:xs i= []
  ·have Z:(!a.isNone)=false:=by rw [ai U];rfl
   rw [Z];refine zg 4 rfl ?_;have aj:Av (((i:Nat):Int)+1)=some (((i+1:Nat)):Int):=by unfold Av;rw [if_pos (by omega)];simp
   refine Bm aj rfl rfl rfl ?_;refine zg 2 rfl ?_;refine JL.again ?_;refine EK ?_ (ag (i+1) (by omega) (λk am=>by
    by_cases e:k=i
    ·subst e;exact U
    ·exact K k (by omega)))
   exact⟨rfl,rfl,rfl,trivial⟩
  ·have Z:(!a.isNone)=true:=by rw [WO aa U];rfl
   rw [Z];exact zg 7 rfl (ac i a c _ O U K aa rfl rfl _)
end Pal
namespace Pal
open Go Go.Conc Go.Proofs
open Go.Proofs.Tryz
open Go.Conc.Lib Go.ConcR.Gen
set_option maxHeartbeats 2000000 in
theorem Zu{E:LH}{a1:Ao}{c2:Nat}{av:Ao}{aw:Nat}{ap:Ao}{ay:Nat}{O:AY}{p:Ay}(aP:Al (rL rI) E a1 c2 O.1)(aQ:Al Ax E av aw O.2)(aR:Al Ax E ap ay p){fu_:Nat}{r:(List Int)×Bool}(U:f77 fu_ O p=some r):
  AL (Gx Tryz.prog) 77 [.agg #[sV a1 O.1 c2,sV av O.2 aw],sV ap p ay] E [] (λw E' B'=>∃(az:Ao) (aA:Nat),w= .tuple #[sV az r.1 aA,.bool r.2]/\B'= []/\Al rI E' az aA r.1):=by
 refine OY func77 rfl rfl λQ bu cs H aS Y=>?_;unfold f77 at U;refine zg 2 rfl (Dg aS λaT bv aU aV aW=>?_);refine Dg aW λaX bw aB ae aY=>?_;refine HU (S':= []) (by simp) aY λaC=>?_;have aD:=aU.Ad aB;refine zg 6 rfl (Ch 0 ae Bz rfl rfl rfl ?_);refine JL.ln underlying80 rfl rfl rfl (zg 2 rfl ?_);refine F1 (p:=(p.length:Int)=0) rfl (λaZ=>?_) (λaZ=>?_)
 ·rw [if_pos (by omega)] at U;have Z:=(Option.some.inj U).symm;subst Z;refine zg 5 rfl (AX func77 rfl rfl ?_);exact Y _ _ _ _ aD rfl ⟨none,0,rfl,rfl,Al.nil⟩ aC
 rw [if_neg (by omega)] at U;split at U
 rotate_left
 ·cases U
 rename_i hb;obtain⟨aE,a0⟩:=hb;have Z:=(Option.some.inj U).symm;have ab:∀j,j<p.length->Kl fu_ O p j=some (ND fu_ O p j):=λj ak=>by
  have ag:=List.all_eq_true.1 a0 j (List.mem_range.2 ak);obtain⟨x,al⟩:=Option.isSome_iff_exists.1 ag;unfold ND;rw [al];rfl
 generalize bx:ND fu_ O p=xs at ab Z;have aF:0<p.length:=by omega
 refine zg 3 rfl (BI aC (CQ type142) λmu a2=>?_);refine zg 3 rfl (BI a2 (CQ type148) λwg a3=>?_);refine JL.done (HU (S':= [[(mu,.cells #[.int .i32 0,.int .u32 0] 142 (0,0))],[(wg,.cells #[.int .u64 0,.int .u32 0] 148 (0,0))]]) (by simp [Value.cells]) a3 λa4=>?_);refine zg 2 rfl (Ch 0 ae Bz rfl rfl rfl ?_);refine JL.ln underlying80 rfl rfl rfl ?_;have a5:H9 (p.length:Int) (Value.slice none 0 0)=some (List.replicate p.length nS):=by unfold H9;rw [if_pos (by omega)];simp
 refine JS.make (pp:=rV) a5 rfl rfl rfl rfl rfl underlying22 Dy (C4 type28) (by decide) JW (by decide) ⟨rfl,rfl⟩ a4 λfd bz a6 aG=>?_;have a7:=OL.XI a6 rfl;subst a7;obtain⟨K,aH⟩:∃K,K=List.replicate p.length (Value.slice none 0 0):=⟨_,rfl⟩;have aI:(List.replicate p.length (Value.slice none 0 0)).length=p.length:=by simp
 rw [← aH] at aG aI ⊢;rw [aI];refine BI aG (CQ type22) λkf a8=>?_;refine BB 3 a8 Fs λa9=>?_;refine CP 3 a9 rfl λaa ah aJ ba=>HU (S':= [[(mu,.cells #[.int .i32 0,.int .u32 0] 142 (0,0))],[(wg,.cells #[.int .u64 0,.int .u32 0] 148 (0,0))],[(fd,.cells K.toArray 28 (0,0))]]) (by simp) ba λac=>?_;have ai:=aD.Ad ah;refine zg 4 rfl (Ch 0 (ae.Ag ah) Bz rfl rfl rfl ?_);refine JL.ln underlying80 rfl rfl rfl (zg 3 rfl ?_);refine Ip (Ej [(2,Aj aT 0),(3,Aj aX 0),(6,.pointer (some (⟨mu,0,none⟩:Addr))),(7,.pointer (some (⟨wg,0,none⟩:Addr))),(8,Aj kf 0),(19,iV (p.length:Int)),(20,iV ((0:Nat):Int))] rfl ?_);have aK:=Nd.iff.1 ac;intro T bb;let F:Fam:=⟨wg,mu,fd,148,142,28,p.length,λkk v E=>kk<p.length/\∃a c,v= .slice a (xs kk).length c/\Al rI E a c (xs kk)/\(xs kk= []->a=none),λg s=>(Gx Tryz.prog).ok Q g s⟩;have aj:=aK.1;simp only [List.flatten_cons,List.flatten_nil,List.append_nil,List.cons_append,List.nil_append,List.map_cons,List.map_nil,List.nodup_cons,List.mem_cons,List.not_mem_nil,not_or,or_false,not_false_eq_true,and_true,List.nodup_nil] at aj;have be:(Ak aa H [[(mu,.cells #[.int .i32 0,.int .u32 0] 142 (0,0))],[(wg,.cells #[.int .u64 0,.int .u32 0] 148 (0,0))],[(fd,.cells K.toArray 28 (0,0))]]).H fd=some (F.Ih λ_=> nS):=by
  rw [Jx (j:=2) ac rfl];have:(Array.ofFn λ_:Fin p.length=>Value.slice none 0 0)=K.toArray:=by
   rw [aH];apply Array.ext
   ·simp
   ·intro i ag aL;simp
  show some (Obj.cells K.toArray 28 (0,0))=some (Obj.cells (Array.ofFn λ_:Fin p.length=>Value.slice none 0 0) 28 (0,0));rw [this]
 refine Wv F (f₀:=λ_=> .slice none 0 0) (show 1<=p.length by omega) (show p.length<134217728 by omega) ?_ aj.1.1 (λe=>aj.2 e.symm) (λe=>aj.1.2 e.symm) (Jx (j:=1) ac rfl) (Jx (j:=0) ac rfl) be ?_ (λg s h=>h)
 ·rintro kk v bA bB bf ⟨ag,a,c,aL,am,an⟩;exact⟨ag,a,c,aL,am.Ag bf,an⟩
 have bg:=Uu ac;show Way Tryz.prog true (Stop Tryz.prog F (.F3 0)) _ (⟨(Ak aa H [[(mu,.cells #[.int .i32 0,.int .u32 0] 142 (0,0))],[(wg,.cells #[.int .u64 0,.int .u32 0] 148 (0,0))],[(fd,.cells K.toArray 28 (0,0))]]).E,Jk (Ak aa H [[(mu,.cells #[.int .i32 0,.int .u32 0] 142 (0,0))],[(wg,.cells #[.int .u64 0,.int .u32 0] 148 (0,0))],[(fd,.cells K.toArray 28 (0,0))]]).H wg mu fd,false⟩:St);rw [show(Ak aa H [[(mu,.cells #[.int .i32 0,.int .u32 0] 142 (0,0))],[(wg,.cells #[.int .u64 0,.int .u32 0] 148 (0,0))],[(fd,.cells K.toArray 28 (0,0))]]).E=aa from rfl,bg];have bh:Aq aa H []:=trivial;have bi:H fd=none:=(aK.2 (fd,.cells K.toArray 28 (0,0)) (by simp)).2;refine Ug (F:=F) (n:=p.length) rfl aF aE (aR.Ag ai) (aP.Ag ai) (aQ.Ag ai) rfl (ae.Ag ah) (aV.Ag (aB.Ad ah)) aJ ab (λj ak E' a c bj bl=>⟨ak,a,c,rfl,bj,bl⟩) (λbm aM bC=>?_) p.length 0 (by omega) aF aa Aw bh T bb;refine zg 2 rfl ?_;refine Am (v:= .bool false) rfl (λρ h=>Yl.to (Yl.lss (h _ _ rfl) (h _ _ rfl)) (by rw [decide_eq_false (show ¬((p.length:Int)<(p.length:Int)) by omega)])) ?_;refine zg 6 rfl ?_;refine JL.wait Tryz.Ki (F:=F) (show p.length<2147483648 by omega) rfl rfl rfl rfl rfl (Q:=Q) (λg s h=>h) λao f aN bn bD bo=>?_;have aq:Aq ao H [[(fd,F.Ih f)]]:=Nd.iff.2 ⟨by simp,λq ab=>by
  simp at ab;subst ab;exact⟨bn,bi⟩⟩
 have es:(⟨ao,F.Jp (Ak bm H []).H f,false⟩:St)=Ak ao H [[(fd,F.Ih f)]]:=by
  unfold Ak mk;congr 1
 rw [es];have aO:=(ai.Ad aM).Ad aN;refine zg 4 rfl (Ch 0 (aJ.Ag (aM.Ad aN)) FM rfl rfl rfl ?_);refine JL.ln underlying22 rfl rfl rfl (zg 3 rfl ?_);refine Ip (Ej [(27,.slice (AP fd) p.length p.length),(28,iV (p.length:Int)),(29,iV ((0:Nat):Int))] rfl ?_);refine XG (n:=p.length) (f:=f) (xs:=xs) aE aq (λk Y=>?_) (λi a c L' hi al ar bp am an k'=>?_) (λar=>?_) p.length 0 (by omega) (λk Y=>absurd Y (Nat.not_lt_zero _))
 ·obtain⟨_,a,c,bq,e2,br⟩:=bo k Y;exact⟨a,c,bq,e2,br⟩
 ·rw [UE hi al ar] at Z;subst Z;exact JL.ret (v:= .tuple #[.slice a (xs i).length c,.bool true]) rfl rfl (Bx.list func77 rfl (vs:= [.slice a (xs i).length c,.bool true]) ⟨am,an,trivial⟩) (P9 aq λau=>Y _ _ _ _ aO rfl ⟨a,c,rfl,rfl,bp⟩ au)
 ·rw [Vj ar] at Z;subst Z;refine zg 5 rfl (AX func77 rfl rfl ?_);exact P9 aq λau=>Y _ _ _ _ aO rfl ⟨none,0,rfl,rfl,Al.nil⟩ au
end Pal
namespace Pal
open Go Go.Conc Go.Proofs
open Go.Proofs.Tryz
def SP(fu_:Nat)(Z:AY×Int)(O:AV)(K:Int):Option (Bj Int ((Ay×(List Int)×Int)⊕(Unit))):= if K<(O.length:Int) then((ix O K).bind λU=> (f77 fu_ Z.1 U).bind λY=> if Y.2=true then(some (.done (Sum.inl (U,Y.1,0)))) else((Av (K+1)).bind λaa=> some (.more aa))) else(some (.done (Sum.inr ())))
def f27(fu_:Nat)(p0:AY):Option (Ay×(List Int)×Int):= (f70 fu_ p0 ([])).bind λK=> if K.2≠0 then(some ([],[],K.2)) else((f71 fu_ K.1 0).bind λO=> (f76 fu_ O).bind λU=> Option.bind (iter (SP fu_ K U) fu_ 0) λY=> Sum.elim (λr=>some r) (λZ=> some ([],[],11)) Y)
theorem YU{E:LH}{a1:Ao}{c2:Nat}{ac:Ao}{ae:Nat}{p0:AY}(aQ:Al (rL rI) E a1 c2 p0.1)(aR:Al Ax E ac ae p0.2){fu_:Nat}{r:Ay×(List Int)×Int}(av:f27 fu_ p0=some r):AL (Gx Tryz.prog) 27 [.agg #[sV a1 p0.1 c2,sV ac p0.2 ae]] E [] (λw E' B'=>∃(aw:Ao) (ay:Nat) (az:Ao) (aA:Nat),w= .tuple #[sV aw r.1 ay,sV az r.2.1 aA,iV r.2.2]/\B'= []/\Al Ax E' aw ay r.1/\Al rI E' az aA r.2.1):=by
 refine Bi func27 λQ bP cs H aS an=>?_;unfold f27 at av;refine zg 2 rfl (Dg aS λaT bQ Y aU aV=>?_);refine zg 6 rfl (Cw aU FN Db rfl rfl ?_);obtain⟨K,aW,aX⟩:=bs av;refine BT (Kc (aQ.Ag Y) (aR.Ag Y) Al.nil aW) rfl rfl JV aV ?_;rintro _ bR _ ao ⟨ag,ah,ai,aj,rfl,rfl,aB,aC⟩ aY;refine zg 3 rfl (BI aY Hj λaD aZ=>?_);refine BB 3 aZ Dl λa0=>?_;refine CP 3 a0 rfl λbS O aE aF=>zg 8 rfl (AS aX (λa2 a3=>?_) (λa2 a4=>?_))
 ·refine zg 7 rfl ?_;obtain rfl:=oi a3;exact AX func27 rfl rfl (an ((Y.Ad ao).Ad O) rfl ⟨none,0,none,0,rfl,rfl,Al.nil,Al.nil⟩ aF)
 ·refine zg 3 rfl (Cw aE FL Dl rfl rfl ?_);obtain⟨bT,a5,a6⟩:=bs a4;refine BT (Pv (aB.Ag O) (aC.Ag O) a5) rfl rfl NQ aF ?_;rintro _ bU bV Z ⟨ak,al,_,rfl,rfl,a7⟩ a8;obtain⟨aa,a9,ba⟩:=bs a6;refine zg 5 rfl (Cq 4 (Yo a7 a9) rfl rfl (A7 func76 rfl) a8 rfl ?_);rintro _ bb be ab ⟨rfl,bf,ap⟩ bg;refine EK (L':= [(23,.tuple #[]),(0,.agg #[.slice a1 p0.1.length c2,.slice ac p0.2.length ae]),(1,Aj aT 0),(2,.slice none 0 0),(3,.slice none 0 0),(4,iV 0),(13,.agg #[.slice a1 p0.1.length c2,.slice ac p0.2.length ae]),(14,.tuple #[.agg #[.slice ag K.1.1.length ah,.slice ai K.1.2.length aj],iV K.2]),(12,.tuple #[.agg #[.slice ag K.1.1.length ah,.slice ai K.1.2.length aj],iV K.2]),(15,.agg #[.slice ag K.1.1.length ah,.slice ai K.1.2.length aj]),(16,iV K.2),(5,Aj aD 0),(6,iV K.2),(17,iV K.2),(18,.bool (decide (K.2≠0))),(20,.agg #[.slice ag K.1.1.length ah,.slice ai K.1.2.length aj]),(21,.slice ak aa.length al),(7,.slice ak aa.length al),(22,.slice ak aa.length al)]) ⟨rfl,rfl,rfl,rfl,rfl,rfl,rfl,rfl,rfl,rfl,rfl,rfl,rfl,rfl,rfl,rfl,by rw [ap];rfl,by rw [ap];rfl,by rw [ap];rfl,trivial⟩ ?_;refine zg 5 rfl (JL.ln underlying83 rfl rfl rfl ?_);obtain⟨aG,bh,aH⟩:=bs ba;refine zg 2 rfl (Bq (λL s=>∃(aI:Unit) (aJ:LH),aG=Sum.inr aI/\Jm bb H aJ [] [] L s) ?_ ?_)
  ·rintro _ _ ⟨aI,aJ,rfl,rfl,rfl,bi,bj⟩;have bl:=elim_inr aH;refine zg 6 rfl ?_;obtain rfl:=oi bl;exact AX func27 rfl rfl (an (((((Y.Ad ao).Ad O).Ad Z).Ad ab).Ad bi) rfl ⟨none,0,none,0,rfl,rfl,Al.nil,Al.nil⟩ bj)
  ·intro bm;refine JL.block (Dh bh (λaq=> [be]) (λaq=> [(5,Aj aD 0),(24,sV ak aa al),(25,iV (aa.length:Int)),(26,iV aq)]) Aw bg ?_);rintro aq bn U ar aK ⟨bW,am⟩ bo;have aL:=am;unfold SP at aL;refine zg 5 rfl (AS aL (λbp bq=>?_) (λbp br=>?_))
   ·obtain⟨bu,bv,bw⟩:=bs bq;refine zg 5 rfl (KM 0 (bf.Ag U) bv rfl rfl rfl rfl rfl rfl underlying83 Bh ?_);rintro bY bZ f93 _ bx ⟨aM,aN,rfl,aO⟩ bz b0 b1 b2 b3;refine Am (v:= sV aM bu aN) rfl (λρ h=>Yl.load Bz (h _ _ rfl) (BL (j:=0) ar bx (bz 0 _ rfl))) (zg 4 rfl ?_);refine Cw (aE.Ag ((Z.Ad ab).Ad U)) FL Dl rfl rfl ?_;obtain⟨b4,bA,bB⟩:=bs bw;refine zg 1 rfl (BT (Zu (aB.Ag (((O.Ad Z).Ad ab).Ad U)) (aC.Ag (((O.Ad Z).Ad ab).Ad U)) aO bA) rfl rfl (A7 func77 rfl) ar ?_);rintro _ b5 _ au ⟨bC,bD,rfl,rfl,bE⟩ aP;refine zg 10 rfl (CC bB (λbF bG=>?_) (λbF bH=>?_))
    ·refine zg 8 rfl (JS.drop 0 aP rfl λbI=>?_);obtain rfl:=oi bG;obtain rfl:=aK _ am;have bJ:=elim_inl aH;obtain rfl:=oi bJ;exact AX func27 rfl rfl (an ((((((Y.Ad ao).Ad O).Ad Z).Ad ab).Ad U).Ad au) rfl ⟨aM,aN,bC,bD,rfl,rfl,(aO.Ag au),bE⟩ bI)
    ·obtain⟨bK,bL,bM⟩:=bs bH;refine zg 3 rfl (Bm bL rfl rfl rfl ?_);refine zg 2 rfl ?_;obtain rfl:=oi bM;exact bo bK (U.Ad au) aP rfl am
   ·refine JL.exit rfl (JS.drop 0 ar rfl λbN=>?_);obtain rfl:=oi br;have bO:aG=(Sum.inr ()):=(aK _ am).symm;exact AA (bm _ _ ⟨(),bn,bO,rfl,rfl,U,bN⟩) rfl
end Pal
namespace Pal
open Go Go.Conc Go.Proofs
open Go.Proofs.Tryz
variable {J:Judge Tryz.prog}{E:LH}
def SG(fu_:Nat)(p0:List Int)(K:Ay×Int):Option (Bj (Ay×Int) (Ay)):= (Av (K.2+2)).bind λO=> if O<(p0.length:Int) then((ix p0 K.2).bind λU=> (Av (K.2+1)).bind λY=> (ix p0 Y).bind λZ=> (Av (K.2+2)).bind λaa=> (ix p0 aa).bind λab=> (Dp K.1 ([(U,Z,ab)]:Ay)).bind λac=> (Av (K.2+3)).bind λae=> some (.more (ac,ae))) else(some (.done K.1))
def f67(fu_:Nat)(p0:List Int):Option (Ay):= Option.bind (iter (SG fu_ p0) fu_ ([],0)) λK=> some K
theorem Np{a1:Ao}{c2:Nat}{p0:List Int}(ah:Al rI E a1 c2 p0){fu_:Nat}{r:Ay}(an:f67 fu_ p0=some r):AL J 67 [sV a1 p0 c2] E [] (λw E' B'=>∃(ao:Ao) (ap:Nat) (g0:Seg),w= sV ao r ap/\B'=g0/\OL 27 Ax E' ao ap g0 r):=by
 refine Bi func67 λQ bn cs H az aA=>?_;unfold f67 at an;obtain⟨aq,aB,aC⟩:=bs an;refine zg 13 rfl (Bq (λL s=>∃(ai:LH) (Y:Ao) (Z:Nat) (aa:Seg),Jn E H ai [aa] [(3,sV Y aq Z)] L s (OL 27 Ax ai Y Z aa aq)) ?_ ?_)
 ·rintro _ _ ⟨ai,Y,Z,aa,rfl,rfl,aD,aE,aF⟩;refine zg 5 rfl ?_;obtain rfl:=oi aC;exact AX func67 rfl rfl (aA aD rfl ⟨Y,Z,aa,rfl,(by first | rfl | simp | (simp [Value.cells])),aF⟩ aE)
 ·intro aG;refine JL.block (Cj aB (λL s ab=>∃(ac:LH) (ae:Ao) (ag:Nat) (O:Seg),Jn E H ac [O] [(0,sV a1 p0 c2),(3,sV ae ab.1 ag),(4,iV ab.2)] L s (OL 27 Ax ac ae ag O ab.1)) ⟨E,none,0,[],rfl,rfl,Aw,az,OL.nil⟩ ?_);rintro _ _ ab ⟨ac,ae,ag,O,rfl,rfl,U,ar,au⟩ aH ⟨bo,aj⟩ aI;have av:=aj;unfold SG at av;obtain⟨bp,aJ,aK⟩:=bs av;refine zg 4 rfl (Bm aJ rfl rfl rfl ?_);refine zg 1 rfl (JL.ln underlying28 rfl rfl rfl ?_);refine zg 2 rfl (AS aK (λaL aM=>?_) (λaL aN=>?_))
  ·refine zg 3 rfl (EX 17 λK=>?_);refine Ba K rfl [0,1,2] rfl ?_;obtain⟨ak,aO,aP⟩:=bs aM;refine Fz 3 (ah.Ag U) aO K underlying28 Az ?_;rintro bq br _ rfl aQ;refine Eu 4 K 0 aQ A4 rfl rfl rfl rfl (Ba K rfl [5,6] rfl ?_);obtain⟨bu,aR,aS⟩:=bs aP;refine AK 7 K rfl rfl (λρ h s' aw=>Ff (h _ _ rfl) (h _ _ rfl) aR) ?_;obtain⟨al,aT,aU⟩:=bs aS;refine Fz 8 (ah.Ag U) aT K underlying28 Az ?_;rintro bv bw _ rfl aV;refine Eu 9 K 0 aV A4 rfl rfl rfl rfl (Ba K rfl [10,11] rfl ?_);obtain⟨bx,aW,aX⟩:=bs aU;refine AK 12 K rfl rfl (λρ h s' aw=>Ff (h _ _ rfl) (h _ _ rfl) aW) ?_;obtain⟨am,aY,aZ⟩:=bs aX;refine Fz 13 (ah.Ag U) aY K underlying28 Az ?_;rintro bz bA _ rfl a0;refine Eu 14 K 0 a0 A4 rfl rfl rfl rfl (AK (v:= .agg #[iV ak,iV al,iV am]) 15 K rfl rfl (λρ h s' aw=>Dc [(0,1),(1,1),(2,1)] h BK underlying27 ⟨rfl,AQ type3,rfl,AQ type3,rfl,AQ type3,trivial⟩ rfl rfl) ?_);refine JG.one (i:=16) rfl (by decide+kernel) (Take.EH (pp:=Ax) [.agg #[iV ak,iV al,iV am]] ([(ak,al,am)]:Ay) ar rfl rfl rfl underlying23 Bp BK (by decide) rfl rfl rfl ⟨⟨_,_,rfl,rfl,⟨_,_,rfl,rfl,rfl⟩⟩,trivial⟩ λbB a2 a3 a4=>?_);refine Dd [17,18] (Bt (S':= [O,a2]) rfl a4 λa5=>?_);refine B8 1 a3 a5 rfl λa6 ay a7 a8=>?_;obtain⟨a9,ba,bb⟩:=bs aZ;refine IW (pp:=Ax) 0 ba rfl rfl rfl rfl rfl rfl rfl underlying23 underlying23 Bp (C4 type27) BK rfl (by decide) (by decide) (au.Ag ay) a7 a8 rfl λbe bf bg bh bi=>?_;obtain⟨bj,bl,bm⟩:=bs bb;refine zg 5 rfl (Bm bl rfl rfl rfl ?_);refine zg 2 rfl ?_;obtain rfl:=oi bm;exact AA (aI _ _ (a9,bj) ⟨a6,be,bf,bg,rfl,rfl,(U.Ad ay),bi,bh⟩ aj) rfl
  ·refine JL.exit rfl ?_;obtain rfl:=oi aN;obtain rfl:=aH _ aj;exact AA (aG _ _ ⟨ac,ae,ag,O,rfl,rfl,U,ar,au⟩) rfl
def f110(fu_:Nat)(p0:List Int)(K:List Int):Option (AY):= (f67 fu_ ([0,1,5,1,2,5,2,3,2,0,3,1,3,1,1]:List Int)).bind λO=> (f67 fu_ K).bind λU=> (Dp O U).bind λY=> some (([p0,[],([3]:List Int),([1]:List Int)]:A1),Y)
theorem O7{a1:Ao}{c2:Nat}{ak:Ao}{al:Nat}{p0:List Int}{ac:List Int}(aw:Al rI E a1 c2 p0)(ay:Al rI E ak al ac){fu_:Nat}{r:AY}(am:f110 fu_ p0 ac=some r):AL J 110 [sV a1 p0 c2,sV ak ac al] E [] (λw E' B'=>∃(an:Ao) (ao:Nat) (ap:Ao) (aq:Nat),w= .agg #[sV an r.1 ao,sV ap r.2 aq]/\B'= []/\Al (rL rI) E' an ao r.1/\Al Ax E' ap aq r.2):=by
 refine Bi func110 λQ bo cs H az aA=>?_;unfold f110 at am;refine zg 2 rfl (BI az Jb λY aB=>?_);refine zg 4 rfl (Fx (pp:=rI) [iV 3] [3] rfl rfl rfl underlying28 Az Cd (by decide) rfl rfl rfl ⟨rfl,trivial⟩ aB λaC aD aE aF=>?_);refine Fx (pp:=rI) [iV 1] [1] rfl rfl rfl underlying28 Az Cd (by decide) rfl rfl rfl ⟨rfl,trivial⟩ aF λaG aH aI aJ=>Bt (S':= [[],[(Y,.cells #[nS,nS] 25 (0,0))],aD,aH]) rfl aJ λaK=>B8 2 aE aK rfl λbp aa aL aM=>B8 3 (aI.Ag aa) aM rfl λbq ab aN aO=>Fx (pp:=(rL rI)) [sV a1 p0 c2,nS,.slice (AP aC) (([3]:List Int)).length 1,.slice (AP aG) (([1]:List Int)).length 1] [p0,[],([3]:List Int),([1]:List Int)] rfl rfl rfl underlying22 Dy JW (by decide) rfl rfl rfl ⟨⟨_,_,rfl,(aw.Ag (aa.Ad ab))⟩,⟨_,_,rfl,Al.nil⟩,⟨_,_,rfl,(aL.Ag ab)⟩,⟨_,_,rfl,aN⟩,trivial⟩ aO λK ae aP aQ=>Bt (S':= [[],[(Y,.cells #[nS,nS] 25 (0,0))],[],[],ae]) rfl aQ λaR=>Fx (pp:=rI) [iV 0,iV 1,iV 5,iV 1,iV 2,iV 5,iV 2,iV 3,iV 2,iV 0,iV 3,iV 1,iV 3,iV 1,iV 1] [0,1,5,1,2,5,2,3,2,0,3,1,3,1,1] rfl rfl rfl underlying28 Az Cd (by decide) rfl rfl rfl ⟨rfl,rfl,rfl,rfl,rfl,rfl,rfl,rfl,rfl,rfl,rfl,rfl,rfl,rfl,rfl,trivial⟩ aR λbr bu aS aT=>B8 5 aS aT rfl λbv ag aU aV=>?_;obtain⟨bw,aW,aX⟩:=bs am;refine BT (Np aU aW) rfl rfl Me aV ?_;rintro _ bx aY ah ⟨bz,bA,_,rfl,rfl,aZ⟩ a0;refine Bt (S':= [[],[(Y,.cells #[nS,nS] 25 (0,0))],[],[],ae,[],aY]) rfl a0 λa2=>?_;obtain⟨bB,a3,a4⟩:=bs aX;refine zg 1 rfl (BT (Np (ay.Ag (((aa.Ad ab).Ad ag).Ad ah)) a3) rfl rfl Me a2 ?_);rintro _ bC bD ai ⟨bE,bF,_,rfl,rfl,a5⟩ a6;refine B8 7 a5 a6 rfl λbG aj a7 a8=>?_;obtain⟨Z,a9,ba⟩:=bs a4;refine IW (pp:=Ax) 6 a9 rfl rfl rfl rfl rfl rfl rfl underlying23 underlying23 Bp (C4 type27) BK rfl (by decide) (by decide) (aZ.Ag (ai.Ad aj)) a7 a8 rfl λO U bb be bf=>Bt (S':= [[],[(Y,.cells #[nS,nS] 25 (0,0))],[],[],ae,[],bb,[]]) rfl bf λbg=>Am (v:= .agg #[.slice (AP K) (([p0,[],([3]:List Int),([1]:List Int)]:A1)).length 4,sV O Z U]) rfl (λρ h=>Dc [(0,1),(1,1)] h Jb underlying25 ⟨rfl,AQ type22,rfl,AQ type23,trivial⟩ rfl rfl) (BB 1 bg Db λbh=>?_);refine JL.done (B8 4 (aP.Ag (((ag.Ad ah).Ad ai).Ad aj)) bh rfl λbH ar bi bj=>?_);refine B8 6 (be.Ag ar) bj rfl λbI au bl bm=>Bt (S':= [[],[(Y,.cells #[.slice (AP K) (([p0,[],([3]:List Int),([1]:List Int)]:A1)).length 4,sV O Z U] 25 (0,0))],[],[],[],[],[],[]]) rfl bm λav=>?_;obtain rfl:=oi ba;refine JL.ret (v:= .agg #[.slice (AP K) (([p0,[],([3]:List Int),([1]:List Int)]:A1)).length 4,sV O Z U]) rfl rfl (Bx.list func110 rfl (vs:= [.agg #[.slice (AP K) (([p0,[],([3]:List Int),([1]:List Int)]:A1)).length 4,sV O Z U]]) ⟨⟨_,rfl,Ld.many (vs:= [.slice (AP K) (([p0,[],([3]:List Int),([1]:List Int)]:A1)).length 4,sV O Z U]) FN Db (GV (off:=0) 1 av rfl rfl)⟩,trivial⟩) (Eg 1 av rfl λbn=>?_);exact aA (((((((aa.Ad ab).Ad ag).Ad ah).Ad ai).Ad aj).Ad ar).Ad au) rfl ⟨(AP K),4,O,U,rfl,rfl,(bi.Ag au),bl⟩ bn
def f63(fu_:Nat):Option (AY):= (f110 fu_ ([1,2,3]:List Int) ([])).bind λK=> some K
theorem Nr{fu_:Nat}{r:AY}(aa:f63 fu_=some r):AL J 63 [] E [] (λw E' B'=>∃(ab:Ao) (ac:Nat) (ae:Ao) (ag:Nat),w= .agg #[sV ab r.1 ac,sV ae r.2 ag]/\B'= []/\Al (rL rI) E' ab ac r.1/\Al Ax E' ae ag r.2):=by
 refine Bi func63 λQ aA cs H ai aj=>?_;unfold f63 at aa;refine zg 2 rfl (BI ai Jb λr1 ak=>?_);refine zg 3 rfl (Fx (pp:=rI) [iV 1,iV 2,iV 3] [1,2,3] rfl rfl rfl underlying28 Az Cd (by decide) rfl rfl rfl ⟨rfl,rfl,rfl,trivial⟩ ak λaB aC al am=>?_);refine B8 2 al am rfl λaD an ao ap=>?_;obtain⟨K,aq,ar⟩:=bs aa;refine BT (O7 ao Al.nil aq) rfl rfl NN ap ?_;rintro _ aE _ au ⟨O,U,Y,Z,rfl,rfl,av,aw⟩ ay;refine BB 1 ay Db λah=>?_;refine JL.done ?_;obtain rfl:=oi ar;refine JL.ret (v:= .agg #[sV O K.1 U,sV Y K.2 Z]) rfl rfl (Bx.list func63 rfl (vs:= [.agg #[sV O K.1 U,sV Y K.2 Z]]) ⟨⟨_,rfl,Ld.many (vs:= [sV O K.1 U,sV Y K.2 Z]) FN Db (GV (off:=0) 1 ah rfl rfl)⟩,trivial⟩) (Eg 1 ah rfl λaz=>?_);exact aj (an.Ad au) rfl ⟨O,U,Y,Z,rfl,rfl,av,aw⟩ az
def f64(fu_:Nat):Option (AY):= (f110 fu_ ([]) ([])).bind λK=> some K
theorem ZC{fu_:Nat}{r:AY}(aa:f64 fu_=some r):AL J 64 [] E [] (λw E' B'=>∃(ab:Ao) (ac:Nat) (ae:Ao) (ag:Nat),w= .agg #[sV ab r.1 ac,sV ae r.2 ag]/\B'= []/\Al (rL rI) E' ab ac r.1/\Al Ax E' ae ag r.2):=by
 refine Bi func64 λQ au cs H ai aj=>?_;unfold f64 at aa;refine zg 2 rfl (BI ai Jb λr1 ak=>?_);obtain⟨K,al,am⟩:=bs aa;refine zg 3 rfl (BT (O7 Al.nil Al.nil al) rfl rfl NN ak ?_);rintro _ av _ an ⟨O,U,Y,Z,rfl,rfl,ao,ap⟩ aq;refine BB 1 aq Db λah=>?_;refine JL.done ?_;obtain rfl:=oi am;refine JL.ret (v:= .agg #[sV O K.1 U,sV Y K.2 Z]) rfl rfl (Bx.list func64 rfl (vs:= [.agg #[sV O K.1 U,sV Y K.2 Z]]) ⟨⟨_,rfl,Ld.many (vs:= [sV O K.1 U,sV Y K.2 Z]) FN Db (GV (off:=0) 1 ah rfl rfl)⟩,trivial⟩) (Eg 1 ah rfl λar=>?_);exact aj an rfl ⟨O,U,Y,Z,rfl,rfl,ao,ap⟩ ar
def f65(fu_:Nat):Option (AY):= (f110 fu_ ([5,1]:List Int) ([])).bind λK=> some K
theorem Y7{fu_:Nat}{r:AY}(aa:f65 fu_=some r):AL J 65 [] E [] (λw E' B'=>∃(ab:Ao) (ac:Nat) (ae:Ao) (ag:Nat),w= .agg #[sV ab r.1 ac,sV ae r.2 ag]/\B'= []/\Al (rL rI) E' ab ac r.1/\Al Ax E' ae ag r.2):=by
 refine Bi func65 λQ aA cs H ai aj=>?_;unfold f65 at aa;refine zg 2 rfl (BI ai Jb λr1 ak=>?_);refine zg 3 rfl (Fx (pp:=rI) [iV 5,iV 1] [5,1] rfl rfl rfl underlying28 Az Cd (by decide) rfl rfl rfl ⟨rfl,rfl,trivial⟩ ak λaB aC al am=>?_);refine B8 2 al am rfl λaD an ao ap=>?_;obtain⟨K,aq,ar⟩:=bs aa;refine BT (O7 ao Al.nil aq) rfl rfl NN ap ?_;rintro _ aE _ au ⟨O,U,Y,Z,rfl,rfl,av,aw⟩ ay;refine BB 1 ay Db λah=>?_;refine JL.done ?_;obtain rfl:=oi ar;refine JL.ret (v:= .agg #[sV O K.1 U,sV Y K.2 Z]) rfl rfl (Bx.list func65 rfl (vs:= [.agg #[sV O K.1 U,sV Y K.2 Z]]) ⟨⟨_,rfl,Ld.many (vs:= [sV O K.1 U,sV Y K.2 Z]) FN Db (GV (off:=0) 1 ah rfl rfl)⟩,trivial⟩) (Eg 1 ah rfl λaz=>?_);exact aj (an.Ad au) rfl ⟨O,U,Y,Z,rfl,rfl,av,aw⟩ az
def f66(fu_:Nat):Option (Ay):= (f67 fu_ ([0,1,1,0,2,3,0,3,2]:List Int)).bind λK=> some K
theorem Zm{fu_:Nat}{r:Ay}(K:f66 fu_=some r):AL J 66 [] E [] (λw E' B'=>∃(O:Ao) (U:Nat),w= sV O r U/\B'= []/\Al Ax E' O U r):=by
 refine Bi func66 λQ ar cs H Y Z=>?_;unfold f66 at K;refine zg 6 rfl (Fx (pp:=rI) [iV 0,iV 1,iV 1,iV 0,iV 2,iV 3,iV 0,iV 3,iV 2] [0,1,1,0,2,3,0,3,2] rfl rfl rfl underlying28 Az Cd (by decide) rfl rfl rfl ⟨rfl,rfl,rfl,rfl,rfl,rfl,rfl,rfl,rfl,trivial⟩ Y λr1 g2 aa ab=>?_);refine B8 1 aa ab rfl λau ac ae ag=>?_;obtain⟨av,ah,ai⟩:=bs K;refine BT (Np ae ah) rfl rfl Me ag ?_;rintro _ aw ay aj ⟨ak,al,_,rfl,rfl,am⟩ an;refine zg 2 rfl (B8 2 am an rfl λaz ao ap aq=>?_);obtain rfl:=oi ai;exact AX func66 rfl rfl (Z ((ac.Ad aj).Ad ao) rfl ⟨ak,al,rfl,rfl,ap⟩ aq)
def M9(fu_:Nat)(p0:List Int)(O:List Int)(K:Int):Option (Bj Int ((Bool)⊕(Unit))):= Option.bind (if K<(p0.length:Int) then(some (decide (K<(O.length:Int)))) else(some false)) λU=> if U=true then((ix p0 K).bind λY=> (ix O K).bind λZ=> if Y≠Z then(some (.done (Sum.inl false))) else((Av (K+1)).bind λaa=> some (.more aa))) else(some (.done (Sum.inr ())))
def f29(fu_:Nat)(p0:List Int)(K:List Int):Option Bool:= Option.bind (iter (M9 fu_ p0 K) fu_ 0) λO=> Sum.elim (λr=>some r) (λU=> some (decide ((p0.length:Int)=(K.length:Int)))) O
theorem LQ{a1:Ao}{c2:Nat}{U:Ao}{Y:Nat}{p0:List Int}{K:List Int}(au:Al rI E a1 c2 p0)(av:Al rI E U Y K){fu_:Nat}{r:Bool}(ai:f29 fu_ p0 K=some r):AL J 29 [sV a1 p0 c2,sV U K Y] E [] (λw E' B'=>w= .bool r/\B'= []):=by
 refine Bi func29 λQ a2 cs H aw aj=>?_;unfold f29 at ai;obtain⟨ak,ay,al⟩:=bs ai;refine zg 9 rfl (Bq (λL s=>∃(am:Unit) (an:LH),ak=Sum.inr am/\Jm E H an [] [(0,sV a1 p0 c2),(1,sV U K Y)] L s) ?_ ?_)
 ·rintro _ _ ⟨am,an,rfl,rfl,rfl,az,aA⟩;have aB:=elim_inr al;refine zg 3 rfl (JL.ln underlying28 rfl rfl rfl ?_);refine zg 1 rfl (JL.ln underlying28 rfl rfl rfl ?_);refine zg 3 rfl ?_;obtain rfl:=oi aB;exact AX func29 rfl rfl (aj az rfl ⟨rfl,rfl⟩ aA)
 ·intro aC;refine JL.block (Dh ay (λab=> []) (λab=> [(0,sV a1 p0 c2),(1,sV U K Y),(5,iV ab)]) Aw aw ?_);rintro ab ae Z ao ap ⟨a3,ac⟩ aD;have aq:=ac;unfold M9 at aq;refine zg 5 rfl (JL.ln underlying28 rfl rfl rfl ?_);obtain⟨aE,aF,aG⟩:=bs aq;refine zg 2 rfl (Hp [] (λL s=>∃(ag:LH),Jm ae H ag [] [(0,sV a1 p0 c2),(1,sV U K Y),(5,iV ab),(15,.bool aE)] L s) ?_ ?_)
  ·rintro _ _ ⟨ag,rfl,rfl,aa,ah⟩;refine JL.done (CC aG (λaH aI=>?_) (λaH aJ=>?_))
   ·refine zg 4 rfl (EX 8 λO=>?_);refine Ba O rfl [0,1] rfl ?_;obtain⟨a4,aK,aL⟩:=bs aI;refine Fz 2 (au.Ag (Z.Ad aa)) aK O underlying28 Az ?_;rintro a5 a6 _ rfl aM;refine Eu 3 O 0 aM A4 rfl rfl rfl rfl (Ba O rfl [4,5] rfl ?_);obtain⟨a7,aN,aO⟩:=bs aL;refine Fz 6 (av.Ag (Z.Ad aa)) aN O underlying28 Az ?_;rintro a8 a9 _ rfl aP;refine Eu 7 O 0 aP A4 rfl rfl rfl rfl (Dd [8] ?_);refine zg 2 rfl (AS aO (λaQ aR=>?_) (λaQ aS=>?_))
    ·refine zg 4 rfl ?_;obtain rfl:=oi aR;obtain rfl:=ap _ ac;have aT:=elim_inl al;obtain rfl:=oi aT;exact AX func29 rfl rfl (aj (Z.Ad aa) rfl ⟨rfl,rfl⟩ ah)
    ·obtain⟨aU,aV,aW⟩:=bs aS;refine zg 4 rfl (Bm aV rfl rfl rfl ?_);refine zg 2 rfl ?_;obtain rfl:=oi aW;exact aD aU (Z.Ad aa) ah rfl ac
   ·refine JL.exit rfl ?_;obtain rfl:=oi aJ;have aX:ak=(Sum.inr ()):=(ap _ ac).symm;exact AA (aC _ _ ⟨(),ag,aX,rfl,rfl,(Z.Ad aa),ah⟩) rfl
  ·intro ar;refine I1 10 aF (λaY aZ=>?_) (λaY a0=>?_)
   ·refine zg 2 rfl (JL.ln underlying28 rfl rfl rfl ?_);refine zg 2 rfl ?_;obtain rfl:=oi aZ;exact AA (ar _ _ ⟨ae,rfl,rfl,Aw,ao⟩) rfl
   ·refine zg 5 rfl ?_;obtain rfl:=oi a0;exact AA (ar _ _ ⟨ae,rfl,rfl,Aw,ao⟩) rfl
def SS(fu_:Nat)(p0:Ay)(O:Ay)(K:Int):Option (Bj Int ((Bool)⊕(Unit))):= Option.bind (if K<(p0.length:Int) then(some (decide (K<(O.length:Int)))) else(some false)) λU=> if U=true then((ix p0 K).bind λY=> (ix O K).bind λZ=> if Y≠Z then(some (.done (Sum.inl false))) else((Av (K+1)).bind λaa=> some (.more aa))) else(some (.done (Sum.inr ())))
def f26(fu_:Nat)(p0:Ay)(K:Ay):Option Bool:= Option.bind (iter (SS fu_ p0 K) fu_ 0) λO=> Sum.elim (λr=>some r) (λU=> some (decide ((p0.length:Int)=(K.length:Int)))) O
theorem S4{a1:Ao}{c2:Nat}{U:Ao}{Y:Nat}{p0:Ay}{K:Ay}(aw:Al Ax E a1 c2 p0)(ay:Al Ax E U Y K){fu_:Nat}{r:Bool}(ak:f26 fu_ p0 K=some r):AL J 26 [sV a1 p0 c2,sV U K Y] E [] (λw E' B'=>w= .bool r/\B'= []):=by
 refine Bi func26 λQ a4 cs H az al=>?_;unfold f26 at ak;obtain⟨am,aA,an⟩:=bs ak;refine zg 9 rfl (Bq (λL s=>∃(ao:Unit) (ap:LH),am=Sum.inr ao/\Jm E H ap [] [(0,sV a1 p0 c2),(1,sV U K Y)] L s) ?_ ?_)
 ·rintro _ _ ⟨ao,ap,rfl,rfl,rfl,aB,aC⟩;have aD:=elim_inr an;refine zg 3 rfl (JL.ln underlying23 rfl rfl rfl ?_);refine zg 1 rfl (JL.ln underlying23 rfl rfl rfl ?_);refine zg 3 rfl ?_;obtain rfl:=oi aD;exact AX func26 rfl rfl (al aB rfl ⟨rfl,rfl⟩ aC)
 ·intro aE;refine JL.block (Dh aA (λag=> []) (λag=> [(0,sV a1 p0 c2),(1,sV U K Y),(5,iV ag)]) Aw az ?_);rintro ag ai Z aq ar ⟨a5,ah⟩ aF;have au:=ah;unfold SS at au;refine zg 5 rfl (JL.ln underlying23 rfl rfl rfl ?_);obtain⟨aG,aH,aI⟩:=bs au;refine zg 2 rfl (Hp [] (λL s=>∃(aa:LH),Jm ai H aa [] [(0,sV a1 p0 c2),(1,sV U K Y),(5,iV ag),(15,.bool aG)] L s) ?_ ?_)
  ·rintro _ _ ⟨aa,rfl,rfl,ab,aj⟩;refine JL.done (CC aI (λaJ aK=>?_) (λaJ aL=>?_))
   ·refine zg 4 rfl (EX 8 λO=>?_);refine Ba O rfl [0,1] rfl ?_;obtain⟨ac,aM,aN⟩:=bs aK;refine Fz 2 (aw.Ag (Z.Ad ab)) aM O underlying23 Bp ?_;rintro a6 a7 _ ⟨_,_,rfl,rfl,⟨_,_,rfl,rfl,rfl⟩⟩ aO;refine Jq 3 O aO DX Bp rfl rfl rfl (Ba O rfl [4,5] rfl ?_);obtain⟨ae,aP,aQ⟩:=bs aN;refine Fz 6 (ay.Ag (Z.Ad ab)) aP O underlying23 Bp ?_;rintro a8 a9 _ ⟨_,_,rfl,rfl,⟨_,_,rfl,rfl,rfl⟩⟩ aR;refine Jq 7 O aR DX Bp rfl rfl rfl (Dd [8] ?_);refine Am (v:= .bool (decide (ac≠ae))) rfl (λρ h=>RD (E:=aa) (E':=aa) (ws:= [iV ac.1,iV ac.2.1,iV ac.2.2]) (ws':= [iV ae.1,iV ae.2.1,iV ae.2.2]) (a:=ac) (b:=ae) ZM (by decide) (by decide+kernel) ⟨_,_,rfl,rfl,⟨_,_,rfl,rfl,rfl⟩⟩ ⟨_,_,rfl,rfl,⟨_,_,rfl,rfl,rfl⟩⟩ (h _ _ rfl) (h _ _ rfl)) (JL.done ?_);refine AS aQ (λaS aT=>?_) (λaS aU=>?_)
    ·refine zg 4 rfl ?_;obtain rfl:=oi aT;obtain rfl:=ar _ ah;have aV:=elim_inl an;obtain rfl:=oi aV;exact AX func26 rfl rfl (al (Z.Ad ab) rfl ⟨rfl,rfl⟩ aj)
    ·obtain⟨aW,aX,aY⟩:=bs aU;refine zg 4 rfl (Bm aX rfl rfl rfl ?_);refine zg 2 rfl ?_;obtain rfl:=oi aY;exact aF aW (Z.Ad ab) aj rfl ah
   ·refine JL.exit rfl ?_;obtain rfl:=oi aL;have aZ:am=(Sum.inr ()):=(ar _ ah).symm;exact AA (aE _ _ ⟨(),aa,aZ,rfl,rfl,(Z.Ad ab),aj⟩) rfl
  ·intro av;refine I1 10 aH (λa0 a2=>?_) (λa0 a3=>?_)
   ·refine zg 2 rfl (JL.ln underlying23 rfl rfl rfl ?_);refine zg 2 rfl ?_;obtain rfl:=oi a2;exact AA (av _ _ ⟨ai,rfl,rfl,Aw,aq⟩) rfl
   ·refine zg 5 rfl ?_;obtain rfl:=oi a3;exact AA (av _ _ ⟨ai,rfl,rfl,Aw,aq⟩) rfl
def f18(fu_:Nat):Option Bool:= (f63 fu_).bind λab=> (f43 fu_ ab).bind λO=> (f63 fu_).bind λac=> (f33 fu_ ac).bind λU=> (f63 fu_).bind λae=> (f22 fu_ ae).bind λY=> (f63 fu_).bind λag=> (f24 fu_ ag).bind λZ=> (f64 fu_).bind λah=> (f39 fu_ ah).bind λaa=> (f65 fu_).bind λai=> (f27 fu_ ai).bind λK=> Option.bind (if O.2=0 then(some (decide (U.2=0))) else(some false)) λaj=> Option.bind (if aj=true then(some (decide (Y.2=0))) else(some false)) λak=> Option.bind (if ak=true then(some (decide (Z.2=0))) else(some false)) λal=> Option.bind (if al=true then(some (decide (aa.2=0))) else(some false)) λam=> Option.bind (if am=true then(some (decide (K.2.2=0))) else(some false)) λan=> Option.bind (if an=true then(some (decide (Z.1=16))) else(some false)) λao=> Option.bind (if ao=true then((f29 fu_ O.1 ([(-6),1,3,2]:List Int)).bind λap=> some ap) else(some false)) λaq=> Option.bind (if aq=true then((f29 fu_ U.1 ([1,2,3]:List Int)).bind λar=> some ar) else(some false)) λau=> Option.bind (if au=true then((f66 fu_).bind λav=> (f26 fu_ Y.1 av).bind λaw=> some aw) else(some false)) λay=> Option.bind (if ay=true then((f29 fu_ aa.1 ([0]:List Int)).bind λaz=> some az) else(some false)) λaA=> Option.bind (if aA=true then((f67 fu_ ([0,2,6,2,3,3,3,1,1]:List Int)).bind λaB=> (f26 fu_ K.1 aB).bind λaC=> some aC) else(some false)) λaD=> Option.bind (if aD=true then((f29 fu_ K.2.1 ([0,1,2]:List Int)).bind λaE=> some aE) else(some false)) λaF=> some aF
theorem YY{E:LH}{fu_:Nat}{r:Bool}(aK:f18 fu_=some r):AL (Gx Tryz.prog) 18 [] E [] (λw E' B'=>w= .bool r/\B'= []):=by
 refine Bi func18 λQ eZ cs H bn bo=>?_;unfold f18 at aK;obtain⟨e0,bp,bq⟩:=bs aK;refine zg 6 rfl (BT (Nr bp) rfl rfl Mh bn ?_);rintro _ e1 _ br ⟨e3,e4,e5,e6,rfl,rfl,bu,bv⟩ bw;obtain⟨au,bx,bz⟩:=bs bq;refine BT (Zr bu bv bx) rfl rfl (A7 func43 rfl) bw ?_;rintro _ e7 _ bA ⟨av,aw,rfl,rfl,bB⟩ bC;obtain⟨e8,bD,bE⟩:=bs bz;refine zg 8 rfl (BT (Nr bD) rfl rfl Mh bC ?_);rintro _ e9 _ aL ⟨fa,fb,fc,fe,rfl,rfl,bF,bG⟩ bH;refine Bt (S':= [[],[],[],[]]) rfl bH λbI=>?_;obtain⟨ai,bJ,bK⟩:=bs bE;refine BT (ZB bF bG bJ) rfl rfl (A7 func33 rfl) bI ?_;rintro _ ff _ aM ⟨aj,ak,rfl,rfl,bL⟩ bM;obtain⟨fg,bN,bO⟩:=bs bK;refine zg 8 rfl (BT (Nr bN) rfl rfl Mh bM ?_);rintro _ fh _ aH ⟨fj,fk,fl,fm,rfl,rfl,bP,bQ⟩ bR;obtain⟨ab,bS,bT⟩:=bs bO;refine BT (Y0 bP bQ bS) rfl rfl (A7 func22 rfl) bR ?_;rintro _ fo _ aI ⟨ag,ah,rfl,rfl,bU⟩ bV;refine Bt (S':= [[],[],[],[],[],[],[]]) rfl bV λbW=>?_;obtain⟨fp,bY,bZ⟩:=bs bT;refine zg 8 rfl (BT (Nr bY) rfl rfl Mh bW ?_);rintro _ fq _ aC ⟨fs,fu,fv,fw,rfl,rfl,b0,b1⟩ b2;obtain⟨al,b3,b4⟩:=bs bZ;refine CM (Zv b0 b1 b3) rfl rfl (A7 func24 rfl) b2 λfx aD b5=>?_;obtain⟨fy,b6,b7⟩:=bs b4;refine zg 8 rfl (BT (ZC b6) rfl rfl (A7 func64 rfl) b5 ?_);rintro _ fz _ aE ⟨fA,fB,fC,fD,rfl,rfl,b8,b9⟩ ca;refine Bt (S':= [[],[],[],[],[],[],[],[],[],[]]) rfl ca λcb=>?_;obtain⟨O,cc,cd⟩:=bs b7;refine BT (Y6 b8 b9 cc) rfl rfl (A7 func39 rfl) cb ?_;rintro _ fE _ aF ⟨ac,ae,rfl,rfl,ce⟩ cf;obtain⟨fF,cg,ci⟩:=bs cd;refine zg 8 rfl (BT (Y7 cg) rfl rfl (A7 func65 rfl) cf ?_);rintro _ fG _ az ⟨fH,fI,fJ,fK,rfl,rfl,ck,cm⟩ cn;obtain⟨K,co,cp⟩:=bs ci;refine BT (YU ck cm co) rfl rfl (A7 func27 rfl) cn ?_;rintro _ fL _ aA ⟨Z,aa,U,Y,rfl,rfl,cq,cr⟩ ct;refine Bt (S':= [[],[],[],[],[],[],[],[],[],[],[],[],[]]) rfl ct λaN=>?_;obtain⟨cu,cv,cw⟩:=bs cp;refine zg 13 rfl (Fj 6 52 [] [(1,sV av au.1 aw),(3,sV aj ai.1 ak),(5,sV ag ab.1 ah),(6,iV ab.2),(7,iV al.1),(8,iV al.2),(9,sV ac O.1 ae),(10,iV O.2),(11,sV Z K.1 aa),(12,sV U K.2.1 Y),(13,iV K.2.2),(50,.bool cu)] (λfM am aO=>?_) (λaP=>?_))
 ·obtain⟨cy,cz,cA⟩:=bs cw;refine zg 1 rfl (Fj 10 48 [] [(1,sV av au.1 aw),(3,sV aj ai.1 ak),(5,sV ag ab.1 ah),(7,iV al.1),(8,iV al.2),(9,sV ac O.1 ae),(10,iV O.2),(11,sV Z K.1 aa),(12,sV U K.2.1 Y),(13,iV K.2.2),(54,.bool cy)] (λfN an aQ=>?_) (λaR=>?_))
  ·obtain⟨cB,cC,cD⟩:=bs cA;refine zg 1 rfl (Fj 14 44 [] [(1,sV av au.1 aw),(3,sV aj ai.1 ak),(5,sV ag ab.1 ah),(7,iV al.1),(9,sV ac O.1 ae),(10,iV O.2),(11,sV Z K.1 aa),(12,sV U K.2.1 Y),(13,iV K.2.2),(58,.bool cB)] (λfO ao aS=>?_) (λaT=>?_))
   ·obtain⟨cE,cF,cG⟩:=bs cD;refine zg 1 rfl (Fj 18 40 [] [(1,sV av au.1 aw),(3,sV aj ai.1 ak),(5,sV ag ab.1 ah),(7,iV al.1),(9,sV ac O.1 ae),(11,sV Z K.1 aa),(12,sV U K.2.1 Y),(13,iV K.2.2),(62,.bool cE)] (λfP ap aU=>?_) (λaV=>?_))
    ·obtain⟨cH,cI,cJ⟩:=bs cG;refine zg 1 rfl (Fj 22 36 [] [(1,sV av au.1 aw),(3,sV aj ai.1 ak),(5,sV ag ab.1 ah),(7,iV al.1),(9,sV ac O.1 ae),(11,sV Z K.1 aa),(12,sV U K.2.1 Y),(66,.bool cH)] (λfQ aq aW=>?_) (λaX=>?_))
     ·obtain⟨cK,cM,cN⟩:=bs cJ;refine zg 1 rfl (Fj 26 32 [] [(1,sV av au.1 aw),(3,sV aj ai.1 ak),(5,sV ag ab.1 ah),(9,sV ac O.1 ae),(11,sV Z K.1 aa),(12,sV U K.2.1 Y),(70,.bool cK)] (λfR ar aY=>?_) (λaZ=>?_))
      ·obtain⟨cO,cP,cQ⟩:=bs cN;refine zg 1 rfl (Fj 31 27 [] [(3,sV aj ai.1 ak),(5,sV ag ab.1 ah),(9,sV ac O.1 ae),(11,sV Z K.1 aa),(12,sV U K.2.1 Y),(75,.bool cO)] (λfS ay a0=>?_) (λa1=>?_))
       ·obtain⟨cR,cT,cV⟩:=bs cQ;refine zg 1 rfl (Fj 36 22 [] [(5,sV ag ab.1 ah),(9,sV ac O.1 ae),(11,sV Z K.1 aa),(12,sV U K.2.1 Y),(80,.bool cR)] (λfT aB a2=>?_) (λa3=>?_))
        ·obtain⟨cW,cX,cY⟩:=bs cV;refine zg 1 rfl (Fj 41 17 [] [(9,sV ac O.1 ae),(11,sV Z K.1 aa),(12,sV U K.2.1 Y),(85,.bool cW)] (λfU aG a4=>?_) (λa5=>?_))
         ·obtain⟨cZ,c0,c1⟩:=bs cY;refine zg 1 rfl (Fj 46 12 [] [(11,sV Z K.1 aa),(12,sV U K.2.1 Y),(90,.bool cZ)] (λfW aJ a6=>?_) (λa7=>?_))
          ·obtain⟨c2,c3,c4⟩:=bs c1;refine zg 1 rfl (Fj 52 6 [] [(12,sV U K.2.1 Y),(96,.bool c2)] (λfX a8 a9=>?_) (λba=>?_))
           ·obtain⟨c5,c6,c7⟩:=bs c4;refine zg 1 rfl (Fj 57 1 [] [(101,.bool c5)] (λfY c8 c9=>?_) (λbb=>?_))
            ·refine zg 2 rfl ?_;obtain rfl:=oi c7;exact AX func18 rfl rfl (bo (((((((((((((((((((((((br.Ad bA).Ad aL).Ad aM).Ad aH).Ad aI).Ad aC).Ad aD).Ad aE).Ad aF).Ad az).Ad aA).Ad am).Ad an).Ad ao).Ad ap).Ad aq).Ad ar).Ad ay).Ad aB).Ad aG).Ad aJ).Ad a8).Ad c8) rfl ⟨rfl,rfl⟩ c9)
            ·refine Et 97 c6 (λda db=>?_) (λda dc=>?_)
             ·refine zg 1 rfl (Fx (pp:=rI) [iV 0,iV 1,iV 2] [0,1,2] rfl rfl rfl underlying28 Az Cd (by decide) rfl rfl rfl ⟨rfl,rfl,rfl,trivial⟩ a9 λfZ ga dd de=>?_);refine B8 0 dd de rfl λgb be df dg=>?_;obtain⟨gc,dh,di⟩:=bs db;refine CM (LQ (cr.Ag (((((((((((am.Ad an).Ad ao).Ad ap).Ad aq).Ad ar).Ad ay).Ad aB).Ad aG).Ad aJ).Ad a8).Ad be)) df dh) rfl rfl K8 dg λgd dj dk=>Bt (S':= [[],[]]) rfl dk λdn=>zg 1 rfl ?_;obtain rfl:=oi di;exact bb (be.Ad dj) dn rfl
             ·refine zg 4 rfl ?_;obtain rfl:=oi dc;exact bb Aw a9 rfl
           ·refine Et 91 c3 (λdp dq=>?_) (λdp dr=>?_)
            ·refine zg 1 rfl (Fx (pp:=rI) [iV 0,iV 2,iV 6,iV 2,iV 3,iV 3,iV 3,iV 1,iV 1] [0,2,6,2,3,3,3,1,1] rfl rfl rfl underlying28 Az Cd (by decide) rfl rfl rfl ⟨rfl,rfl,rfl,rfl,rfl,rfl,rfl,rfl,rfl,trivial⟩ a6 λge gf dt du=>?_);refine B8 0 dt du rfl λgg bf dv dw=>?_;obtain⟨gh,dx,dy⟩:=bs dq;refine BT (Np dv dx) rfl rfl Me dw ?_;rintro _ gi dz bg ⟨gj,gk,_,rfl,rfl,dA⟩ dB;refine Bt (S':= [[],dz]) rfl dB λdC=>B8 1 dA dC rfl λgl bh dD dE=>?_;obtain⟨gm,dF,dG⟩:=bs dy;refine CM (S4 (cq.Ag ((((((((((((am.Ad an).Ad ao).Ad ap).Ad aq).Ad ar).Ad ay).Ad aB).Ad aG).Ad aJ).Ad bf).Ad bg).Ad bh)) dD dF) rfl rfl (A7 func26 rfl) dE λgn dH dI=>zg 1 rfl ?_;obtain rfl:=oi dG;exact ba (((bf.Ad bg).Ad bh).Ad dH) dI rfl
            ·refine zg 5 rfl ?_;obtain rfl:=oi dr;exact ba Aw a6 rfl
          ·refine Et 86 c0 (λdJ dK=>?_) (λdJ dL=>?_)
           ·refine zg 1 rfl (Fx (pp:=rI) [iV 0] [0] rfl rfl rfl underlying28 Az Cd (by decide) rfl rfl rfl ⟨rfl,trivial⟩ a4 λgp gq dM dN=>?_);refine B8 0 dM dN rfl λgr bi dO dP=>?_;obtain⟨gt,dQ,dR⟩:=bs dK;refine CM (LQ (ce.Ag (((((((((((az.Ad aA).Ad am).Ad an).Ad ao).Ad ap).Ad aq).Ad ar).Ad ay).Ad aB).Ad aG).Ad bi)) dO dQ) rfl rfl K8 dP λgu dS dT=>Bt (S':= [[],[]]) rfl dT λdU=>zg 1 rfl ?_;obtain rfl:=oi dR;exact a7 (bi.Ad dS) dU rfl
           ·refine zg 4 rfl ?_;obtain rfl:=oi dL;exact a7 Aw a4 rfl
         ·refine Et 81 cX (λdV dW=>?_) (λdV dX=>?_)
          ·obtain⟨gv,dY,dZ⟩:=bs dW;refine zg 1 rfl (BT (Zm dY) rfl rfl (A7 func66 rfl) a2 ?_);rintro _ gw _ bj ⟨gx,gy,rfl,rfl,ea⟩ eb;obtain⟨gz,ec,ed⟩:=bs dZ;refine CM (S4 (bU.Ag ((((((((((((((aC.Ad aD).Ad aE).Ad aF).Ad az).Ad aA).Ad am).Ad an).Ad ao).Ad ap).Ad aq).Ad ar).Ad ay).Ad aB).Ad bj)) ea ec) rfl rfl (A7 func26 rfl) eb λgA ee ef=>zg 1 rfl ?_;obtain rfl:=oi ed;exact a5 (bj.Ad ee) ef rfl
          ·refine zg 4 rfl ?_;obtain rfl:=oi dX;exact a5 Aw a2 rfl
        ·refine Et 76 cT (λeg eh=>?_) (λeg ei=>?_)
         ·refine zg 1 rfl (Fx (pp:=rI) [iV 1,iV 2,iV 3] [1,2,3] rfl rfl rfl underlying28 Az Cd (by decide) rfl rfl rfl ⟨rfl,rfl,rfl,trivial⟩ a0 λgB gC ej ek=>?_);refine B8 0 ej ek rfl λgD bl el em=>?_;obtain⟨gE,en,eo⟩:=bs eh;refine CM (LQ (bL.Ag (((((((((((((((aH.Ad aI).Ad aC).Ad aD).Ad aE).Ad aF).Ad az).Ad aA).Ad am).Ad an).Ad ao).Ad ap).Ad aq).Ad ar).Ad ay).Ad bl)) el en) rfl rfl K8 em λgF ep er=>Bt (S':= [[],[]]) rfl er λet=>zg 1 rfl ?_;obtain rfl:=oi eo;exact a3 (bl.Ad ep) et rfl
         ·refine zg 4 rfl ?_;obtain rfl:=oi ei;exact a3 Aw a0 rfl
       ·refine Et 71 cP (λeu ew=>?_) (λeu ex=>?_)
        ·refine zg 1 rfl (Fx (pp:=rI) [iV (-6),iV 1,iV 3,iV 2] [(-6),1,3,2] rfl rfl rfl underlying28 Az Cd (by decide) rfl rfl rfl ⟨rfl,rfl,rfl,rfl,trivial⟩ aY λgG gH ey ez=>?_);refine B8 0 ey ez rfl λgI bm eA eB=>?_;obtain⟨gJ,eC,eD⟩:=bs ew;refine CM (LQ (bB.Ag ((((((((((((((((aL.Ad aM).Ad aH).Ad aI).Ad aC).Ad aD).Ad aE).Ad aF).Ad az).Ad aA).Ad am).Ad an).Ad ao).Ad ap).Ad aq).Ad ar).Ad bm)) eA eC) rfl rfl K8 eB λgK eE eF=>Bt (S':= [[],[]]) rfl eF λeG=>zg 1 rfl ?_;obtain rfl:=oi eD;exact a1 (bm.Ad eE) eG rfl
        ·refine zg 4 rfl ?_;obtain rfl:=oi ex;exact a1 Aw aY rfl
      ·refine Et 67 cM (λeH eI=>?_) (λeH eJ=>?_)
       ·refine zg 3 rfl ?_;obtain rfl:=oi eI;exact aZ Aw aW rfl
       ·refine zg 3 rfl ?_;obtain rfl:=oi eJ;exact aZ Aw aW rfl
     ·refine Et 63 cI (λeK eL=>?_) (λeK eM=>?_)
      ·refine zg 3 rfl ?_;obtain rfl:=oi eL;exact aX Aw aU rfl
      ·refine zg 3 rfl ?_;obtain rfl:=oi eM;exact aX Aw aU rfl
    ·refine Et 59 cF (λeN eO=>?_) (λeN eP=>?_)
     ·refine zg 3 rfl ?_;obtain rfl:=oi eO;exact aV Aw aS rfl
     ·refine zg 3 rfl ?_;obtain rfl:=oi eP;exact aV Aw aS rfl
   ·refine Et 55 cC (λeQ eR=>?_) (λeQ eS=>?_)
    ·refine zg 3 rfl ?_;obtain rfl:=oi eR;exact aT Aw aQ rfl
    ·refine zg 3 rfl ?_;obtain rfl:=oi eS;exact aT Aw aQ rfl
  ·refine Et 51 cz (λeT eU=>?_) (λeT eV=>?_)
   ·refine zg 3 rfl ?_;obtain rfl:=oi eU;exact aR Aw aO rfl
   ·refine zg 3 rfl ?_;obtain rfl:=oi eV;exact aR Aw aO rfl
 ·refine I1 47 cv (λeW eX=>?_) (λeW eY=>?_)
  ·refine zg 3 rfl ?_;obtain rfl:=oi eX;exact aP Aw aN rfl
  ·refine zg 3 rfl ?_;obtain rfl:=oi eY;exact aP Aw aN rfl
end Pal
namespace Pal
open Go Go.Conc Go.Proofs
open Go.Proofs.Tryz
variable {J:Judge Tryz.prog}{E:LH}
def f20(fu_:Nat)(p0:List Int):Option ((CK)):= some (p0,0,2685821657736338717)
theorem ZF{a1:Ao}{c2:Nat}{p0:List Int}(Z:Al rI E a1 c2 p0){fu_:Nat}{r:(CK)}(K:f20 fu_ p0=some r):AL J 20 [sV a1 p0 c2] E [] (λw E' B'=>∃(O:Nat) (U:Ao) (Y:Nat),w= Aj O 0/\B'= [(O,.cells #[sV U r.1 Y,iV r.2.1,.int .u64 ((r.2.2:Nat):Int)] 74 (0,0))]/\Al rI E' U Y r.1):=by
 refine Bi func20 λQ ag cs H aa ab=>?_;unfold f20 at K;refine zg 7 rfl (Am (v:= .agg #[sV a1 p0 c2,iV 0,.int .u64 ((2685821657736338717:Nat):Int)]) rfl (λρ h=>Dc [(0,1),(1,1),(2,1)] h (CQ type74) underlying74 ⟨rfl,AQ type28,rfl,AQ type3,rfl,AQ type72,trivial⟩ rfl rfl) ?_);refine JS.box (v:= .agg #[sV a1 p0 c2,iV 0,.int .u64 ((2685821657736338717:Nat):Int)]) rfl rfl rfl aa rfl λac ae=>zg 2 rfl ?_;obtain rfl:=oi K;exact AX func20 rfl rfl (ab Aw rfl ⟨ac,a1,c2,rfl,(by first | rfl | simp | (simp [Value.cells])),Z⟩ ae)
def f92(fu_:Nat)(p0:Int)(K:Int)(p2:Int):Option Bool:= Option.bind (if K<=p0 then(some (decide (p0<=p2))) else(some false)) λO=> some O
def f88(fu_:Nat)(p0:Int)(K:Int×Int×Int)(p2:Int):Option Int:= (Av (p0 - 1)).bind λO=> (f92 fu_ K.1 0 O).bind λU=> Option.bind (if(!U)=true then(some true) else((Av (p0 - 1)).bind λY=> (f92 fu_ K.2.1 0 Y).bind λZ=> some (!Z))) λaa=> if aa=true then(some 3) else(if K.1=K.2.1 then(some 8) else((f92 fu_ K.2.2 1 p2).bind λab=> if(!ab)=true then(some 1) else(some 0)))
def LF(fu_:Nat)(p0:AY)(O:Int)(K:Int):Option (Bj Int ((Int)⊕(Unit))):= (ix p0.1 O).bind λU=> if K<(U.length:Int) then((ix p0.1 O).bind λY=> (ix Y K).bind λZ=> (f92 fu_ Z 1 9).bind λaa=> if(!aa)=true then(some (.done (Sum.inl 1))) else((Av (K+1)).bind λab=> some (.more ab))) else(some (.done (Sum.inr ())))
def LA(fu_:Nat)(p0:AY)(K:Int):Option (Bj Int ((Int)⊕(Unit))):= if K<(p0.1.length:Int) then((ix p0.1 K).bind λO=> if 3<(O.length:Int) then(some (.done (Sum.inl 6))) else(Option.bind (iter (LF fu_ p0 K) fu_ 0) λU=> Sum.elim (λr=>some (.done (Sum.inl r))) (λZ=> (Av (K+1)).bind λY=> some (.more Y)) U)) else(some (.done (Sum.inr ())))
def O0(fu_:Nat)(p0:AY)(K:Int):Option (Bj Int ((Int)⊕(Unit))):= if K<(p0.2.length:Int) then((ix p0.2 K).bind λU=> (f88 fu_ (p0.1.length:Int) U 9).bind λO=> if O≠0 then(some (.done (Sum.inl O))) else((Av (K+1)).bind λY=> some (.more Y))) else(some (.done (Sum.inr ())))
def f48(fu_:Nat)(p0:AY):Option Int:= if(p0.1.length:Int)<2 then(some 7) else(if 5<(p0.1.length:Int) then(some 6) else(Option.bind (iter (LA fu_ p0) fu_ 0) λK=> Sum.elim (λr=>some r) (λU=> if 8<(p0.2.length:Int) then(some 6) else(Option.bind (iter (O0 fu_ p0) fu_ 0) λO=> Sum.elim (λr=>some r) (λY=> some 0) O)) K))
end Pal
namespace Pal
open Go Go.Conc Go.Proofs
open Go.Proofs.Tryz
variable {J:Judge Tryz.prog}{E:LH}
def f83(fu_:Nat)(p0:CK):Option (Nat×(CK)):= (Av (p0.2.1+1)).bind λO=> Option.bind (if O<=(p0.1.length:Int) then((Av (O - 1)).bind λU=> (ix p0.1 U).bind λY=> some (((((CN O)*11400714819323198485) % 2 ^ 64) ^^^ (((CN Y)*14029467366897019727) % 2 ^ 64)) % 2 ^ 64)) else(some (((CN O)*11400714819323198485) % 2 ^ 64))) λK=> some (((((((((((p0.2.2 ^^^ K) % 2 ^ 64)*18397679294719823053) % 2 ^ 64) ^^^ (((((p0.2.2 ^^^ K) % 2 ^ 64)*18397679294719823053) % 2 ^ 64)>>>33)) % 2 ^ 64)*14181476777654086739) % 2 ^ 64) ^^^ (((((((((p0.2.2 ^^^ K) % 2 ^ 64)*18397679294719823053) % 2 ^ 64) ^^^ (((((p0.2.2 ^^^ K) % 2 ^ 64)*18397679294719823053) % 2 ^ 64)>>>33)) % 2 ^ 64)*14181476777654086739) % 2 ^ 64)>>>29)) % 2 ^ 64)>>>11,(p0.1,O,(((((p0.2.2 ^^^ K) % 2 ^ 64)*18397679294719823053) % 2 ^ 64) ^^^ (((((p0.2.2 ^^^ K) % 2 ^ 64)*18397679294719823053) % 2 ^ 64)>>>33)) % 2 ^ 64))
theorem YX{bk:Nat}{a1:Ao}{c2:Nat}{p0:CK}(ac:Al rI E a1 c2 p0.1){fu_:Nat}{r:Nat×(CK)}(ae:f83 fu_ p0=some r):AL J 83 [Aj bk 0] E [(bk,.cells #[sV a1 p0.1 c2,iV p0.2.1,.int .u64 ((p0.2.2:Nat):Int)] 74 (0,0))] (λw E' B'=>∃(ag:Ao) (ah:Nat),w= .int .u64 ((r.1:Nat):Int)/\B'= [(bk,.cells #[sV ag r.2.1 ah,iV r.2.2.1,.int .u64 ((r.2.2.2:Nat):Int)] 74 (0,0))]/\Al rI E' ag ah r.2.1):=by
 refine Bi func83 λQ aD cs H ai an=>?_;unfold f83 at ae;refine zg 8 rfl (JL.fd underlying74 Az rfl rfl rfl ?_);refine Am (v:=iV p0.2.1) rfl (λρ h=>Yl.load A4 (h _ _ rfl) (BL (j:=0) (off:=1) ai rfl rfl)) ?_;obtain⟨Y,ao,ap⟩:=bs ae;refine Bm ao rfl rfl rfl (zg 1 rfl ?_);refine JL.fd underlying74 Az rfl rfl rfl (BB 0 ai Az λU=>?_);refine zg 5 rfl (JL.fd underlying74 Az rfl rfl rfl ?_);refine Am (v:=iV Y) rfl (λρ h=>Yl.load A4 (h _ _ rfl) (BL (j:=0) (off:=1) U rfl rfl)) (Am (v:= .int .u64 ((CN Y:Nat):Int)) rfl (λρ h=>Yl.CN underlying3 underlying72 (h _ _ rfl)) ?_);refine Am (v:= .int .u64 ((((CN Y)*11400714819323198485) % 2 ^ 64:Nat):Int)) rfl (λρ h=>MG (h _ _ rfl) (h _ _ rfl)) (zg 4 rfl ?_);refine EY 9 [bk] ⟨⟨0,_,rfl⟩,trivial⟩ U λK=>Ba K rfl [0,1] rfl (JG.fd 2 K underlying74 Az rfl rfl rfl rfl ?_);refine Kh 3 K 1 0 U A4 ?_;refine Ba K rfl [4,5] rfl (JG.fd 6 K underlying74 Dy rfl rfl rfl rfl ?_);refine Kh 7 K 0 0 U Gc ?_;refine AK 8 K rfl rfl (λρ h s' Z=>Yl.len rfl underlying28 (h _ _ rfl)) (Dd [9] ?_);obtain⟨O,aq,ar⟩:=bs ap;refine zg 2 rfl (DF [bX bk #[sV a1 p0.1 c2,iV Y,.int .u64 ((p0.2.2:Nat):Int)] 74] [(0,Aj bk 0),(3,.int .u64 ((O:Nat):Int))] (λaE aj ak=>?_) (λal=>?_))
 ·refine zg 5 rfl (JL.fd underlying74 Jd rfl rfl rfl ?_);refine Am (v:= .int .u64 ((p0.2.2:Nat):Int)) rfl (λρ h=>Yl.load Ma (h _ _ rfl) (BL (j:=0) (off:=2) ak rfl rfl)) (zg 1 rfl ?_);refine Am (v:= .int .u64 (((p0.2.2 ^^^ O) % 2 ^ 64:Nat):Int)) rfl (λρ h=>MK (h _ _ rfl) (h _ _ rfl)) (Am (v:= .int .u64 (((((p0.2.2 ^^^ O) % 2 ^ 64)*18397679294719823053) % 2 ^ 64:Nat):Int)) rfl (λρ h=>MG (h _ _ rfl) (h _ _ rfl)) ?_);refine zg 1 rfl (JL.fd underlying74 Jd rfl rfl rfl ?_);refine BB 0 ak Jd λaa=>?_;refine zg 2 rfl (EY 11 [bk] ⟨⟨0,_,rfl⟩,trivial⟩ aa λK=>?_);refine Ba K rfl [0,1,2] rfl (JG.fd 3 K underlying74 Jd rfl rfl rfl rfl ?_);refine Kh 4 K 2 0 aa Ma ?_;refine Ba K rfl [5,6] rfl (JG.fd 7 K underlying74 Jd rfl rfl rfl rfl ?_);refine Kh 8 K 2 0 aa Ma ?_;refine AK (v:= .int .u64 ((((((p0.2.2 ^^^ O) % 2 ^ 64)*18397679294719823053) % 2 ^ 64)>>>33:Nat):Int)) 9 K rfl rfl (λρ h s' Z=>KL 33 (h _ _ rfl) (h _ _ rfl) (by decide)) (AK (v:= .int .u64 (((((((p0.2.2 ^^^ O) % 2 ^ 64)*18397679294719823053) % 2 ^ 64) ^^^ (((((p0.2.2 ^^^ O) % 2 ^ 64)*18397679294719823053) % 2 ^ 64)>>>33)) % 2 ^ 64:Nat):Int)) 10 K rfl rfl (λρ h s' Z=>MK (h _ _ rfl) (h _ _ rfl)) ?_);refine Dd [11,12,13] (zg 1 rfl ?_);refine JL.fd underlying74 Jd rfl rfl rfl (BB 0 aa Jd λam=>?_);refine zg 5 rfl (JL.fd underlying74 Jd rfl rfl rfl ?_);refine Am (v:= .int .u64 (((((((p0.2.2 ^^^ O) % 2 ^ 64)*18397679294719823053) % 2 ^ 64) ^^^ (((((p0.2.2 ^^^ O) % 2 ^ 64)*18397679294719823053) % 2 ^ 64)>>>33)) % 2 ^ 64:Nat):Int)) rfl (λρ h=>Yl.load Ma (h _ _ rfl) (BL (j:=0) (off:=2) am rfl rfl)) (Am (v:= .int .u64 (((((((((p0.2.2 ^^^ O) % 2 ^ 64)*18397679294719823053) % 2 ^ 64) ^^^ (((((p0.2.2 ^^^ O) % 2 ^ 64)*18397679294719823053) % 2 ^ 64)>>>33)) % 2 ^ 64)*14181476777654086739) % 2 ^ 64:Nat):Int)) rfl (λρ h=>MG (h _ _ rfl) (h _ _ rfl)) ?_);refine zg 6 rfl (Am (v:= .int .u64 ((((((((((p0.2.2 ^^^ O) % 2 ^ 64)*18397679294719823053) % 2 ^ 64) ^^^ (((((p0.2.2 ^^^ O) % 2 ^ 64)*18397679294719823053) % 2 ^ 64)>>>33)) % 2 ^ 64)*14181476777654086739) % 2 ^ 64)>>>29:Nat):Int)) rfl (λρ h=>KL 29 (h _ _ rfl) (h _ _ rfl) (by decide)) ?_);refine Am (v:= .int .u64 (((((((((((p0.2.2 ^^^ O) % 2 ^ 64)*18397679294719823053) % 2 ^ 64) ^^^ (((((p0.2.2 ^^^ O) % 2 ^ 64)*18397679294719823053) % 2 ^ 64)>>>33)) % 2 ^ 64)*14181476777654086739) % 2 ^ 64) ^^^ (((((((((p0.2.2 ^^^ O) % 2 ^ 64)*18397679294719823053) % 2 ^ 64) ^^^ (((((p0.2.2 ^^^ O) % 2 ^ 64)*18397679294719823053) % 2 ^ 64)>>>33)) % 2 ^ 64)*14181476777654086739) % 2 ^ 64)>>>29)) % 2 ^ 64:Nat):Int)) rfl (λρ h=>MK (h _ _ rfl) (h _ _ rfl)) (Am (v:= .int .u64 ((((((((((((p0.2.2 ^^^ O) % 2 ^ 64)*18397679294719823053) % 2 ^ 64) ^^^ (((((p0.2.2 ^^^ O) % 2 ^ 64)*18397679294719823053) % 2 ^ 64)>>>33)) % 2 ^ 64)*14181476777654086739) % 2 ^ 64) ^^^ (((((((((p0.2.2 ^^^ O) % 2 ^ 64)*18397679294719823053) % 2 ^ 64) ^^^ (((((p0.2.2 ^^^ O) % 2 ^ 64)*18397679294719823053) % 2 ^ 64)>>>33)) % 2 ^ 64)*14181476777654086739) % 2 ^ 64)>>>29)) % 2 ^ 64)>>>11:Nat):Int)) rfl (λρ h=>KL 11 (h _ _ rfl) (h _ _ rfl) (by decide)) ?_);refine zg 2 rfl ?_;obtain rfl:=oi ar;exact AX func83 rfl rfl (an aj rfl ⟨a1,c2,rfl,rfl,(ac.Ag aj)⟩ am)
 ·refine AS aq (λau av=>?_) (λau aw=>?_)
  ·refine EY 14 [bk] ⟨⟨0,_,rfl⟩,trivial⟩ U λK=>Ba K rfl [0,1,2] rfl (JG.fd 3 K underlying74 Dy rfl rfl rfl rfl ?_);refine Kh 4 K 0 0 U Gc ?_;refine Ba K rfl [5,6] rfl (JG.fd 7 K underlying74 Az rfl rfl rfl rfl ?_);refine Kh 8 K 1 0 U A4 ?_;obtain⟨aF,ay,az⟩:=bs av;refine AK 9 K rfl rfl (λρ h s' Z=>Dz (h _ _ rfl) (h _ _ rfl) ay) ?_;obtain⟨ab,aA,aB⟩:=bs az;refine Fz 10 ac aA K underlying28 Az ?_;rintro aG aH _ rfl aC;refine JG.lp 11 K 0 aC U ⟨⟨0,_,rfl⟩,trivial⟩ A4 ?_;refine AK (v:= .int .u64 ((CN ab:Nat):Int)) 12 K rfl rfl (λρ h s' Z=>Yl.CN underlying3 underlying72 (h _ _ rfl)) (AK (v:= .int .u64 ((((CN ab)*14029467366897019727) % 2 ^ 64:Nat):Int)) 13 K rfl rfl (λρ h s' Z=>MG (h _ _ rfl) (h _ _ rfl)) ?_);refine Dd [14,15] (Am (v:= .int .u64 ((((((CN Y)*11400714819323198485) % 2 ^ 64) ^^^ (((CN ab)*14029467366897019727) % 2 ^ 64)) % 2 ^ 64:Nat):Int)) rfl (λρ h=>MK (h _ _ rfl) (h _ _ rfl)) ?_);refine zg 2 rfl ?_;obtain rfl:=oi aB;exact al Aw U rfl
  ·refine JL.skip ?_;obtain rfl:=oi aw;exact al Aw U rfl
def f36(fu_:Nat)(p0:CK)(O:Int):Option (Int×(CK)):= (f83 fu_ p0).bind λK=> if O<1 then(some (0,K.2)) else((Nm K.1 ((CN O+1) % 2 ^ 64)).bind λU=> some (L2 U,K.2))
theorem KT{bk:Nat}{a1:Ao}{c2:Nat}{p0:CK}{K:Int}(ai:Al rI E a1 c2 p0.1){fu_:Nat}{r:Int×(CK)}(O:f36 fu_ p0 K=some r):AL J 36 [Aj bk 0,iV K] E [(bk,.cells #[sV a1 p0.1 c2,iV p0.2.1,.int .u64 ((p0.2.2:Nat):Int)] 74 (0,0))] (λw E' B'=>∃(U:Ao) (Y:Nat),w=iV r.1/\B'= [(bk,.cells #[sV U r.2.1 Y,iV r.2.2.1,.int .u64 ((r.2.2.2:Nat):Int)] 74 (0,0))]/\Al rI E' U Y r.2.1):=by
 refine Bi func36 λQ ar cs H aj Z=>?_;unfold f36 at O;obtain⟨au,ak,al⟩:=bs O;refine zg 7 rfl (Cq 0 (YX ai ak) rfl rfl (A7 func83 rfl) aj rfl ?_);rintro _ av _ aa ⟨ab,ac,rfl,rfl,ae⟩ ag;refine zg 8 rfl (AS al (λam an=>?_) (λam ao=>?_))
 ·refine zg 4 rfl ?_;obtain rfl:=oi an;exact AX func36 rfl rfl (Z aa rfl ⟨ab,ac,rfl,rfl,ae⟩ ag)
 ·refine zg 5 rfl (Am (v:= .int .u64 ((CN K:Nat):Int)) rfl (λρ h=>Yl.CN underlying3 underlying72 (h _ _ rfl)) ?_);refine Am (v:= .int .u64 (((CN K+1) % 2 ^ 64:Nat):Int)) rfl (λρ h=>Xi (h _ _ rfl) (h _ _ rfl)) ?_;obtain⟨ah,ap,aq⟩:=bs ao;refine Am (v:= .int .u64 ((ah:Nat):Int)) rfl (λρ h=>VX (h _ _ rfl) (h _ _ rfl) ap) (Am (v:=iV (L2 ah)) rfl (λρ h=>XN underlying72 underlying3 (h _ _ rfl)) ?_);refine zg 2 rfl ?_;obtain rfl:=oi aq;exact AX func36 rfl rfl (Z aa rfl ⟨ab,ac,rfl,rfl,ae⟩ ag)
def f37(fu_:Nat)(p0:CK)(K:Int)(p2:Int):Option (Int×(CK)):= (Av (p2 - K)).bind λU=> (f36 fu_ p0 U).bind λO=> (Av (K+O.1)).bind λY=> some (Y,O.2)
theorem Po{bk:Nat}{a1:Ao}{c2:Nat}{p0:CK}{K:Int}{p2:Int}(Z:Al rI E a1 c2 p0.1){fu_:Nat}{r:Int×(CK)}(O:f37 fu_ p0 K p2=some r):AL J 37 [Aj bk 0,iV K,iV p2] E [(bk,.cells #[sV a1 p0.1 c2,iV p0.2.1,.int .u64 ((p0.2.2:Nat):Int)] 74 (0,0))] (λw E' B'=>∃(U:Ao) (Y:Nat),w=iV r.1/\B'= [(bk,.cells #[sV U r.2.1 Y,iV r.2.2.1,.int .u64 ((r.2.2.2:Nat):Int)] 74 (0,0))]/\Al rI E' U Y r.2.1):=by
 refine Bi func37 λQ ap cs H aa ab=>?_;unfold f37 at O;obtain⟨aq,ac,ae⟩:=bs O;refine zg 10 rfl (Cg ac rfl rfl rfl ?_);obtain⟨ar,ag,ah⟩:=bs ae;refine Cq 0 (KT Z ag) rfl rfl Ky aa rfl ?_;rintro _ au _ ai ⟨aj,ak,rfl,rfl,al⟩ am;obtain⟨av,an,ao⟩:=bs ah;refine Bm an rfl rfl rfl (zg 2 rfl ?_);obtain rfl:=oi ao;exact AX func37 rfl rfl (ab ai rfl ⟨aj,ak,rfl,rfl,al⟩ am)
def f32(fu_:Nat)(p0:CK)(O:Int):Option (Bool×(CK)):= (Av (O - 1)).bind λU=> (f36 fu_ p0 U).bind λK=> some (decide (K.1=0),K.2)
theorem Zt{bk:Nat}{a1:Ao}{c2:Nat}{p0:CK}{K:Int}(Z:Al rI E a1 c2 p0.1){fu_:Nat}{r:Bool×(CK)}(O:f32 fu_ p0 K=some r):AL J 32 [Aj bk 0,iV K] E [(bk,.cells #[sV a1 p0.1 c2,iV p0.2.1,.int .u64 ((p0.2.2:Nat):Int)] 74 (0,0))] (λw E' B'=>∃(U:Ao) (Y:Nat),w= .bool r.1/\B'= [(bk,.cells #[sV U r.2.1 Y,iV r.2.2.1,.int .u64 ((r.2.2.2:Nat):Int)] 74 (0,0))]/\Al rI E' U Y r.2.1):=by
 refine Bi func32 λQ an cs H aa ab=>?_;unfold f32 at O;obtain⟨ao,ac,ae⟩:=bs O;refine zg 8 rfl (Cg ac rfl rfl rfl ?_);obtain⟨ap,ag,ah⟩:=bs ae;refine Cq 0 (KT Z ag) rfl rfl Ky aa rfl ?_;rintro _ aq _ ai ⟨aj,ak,rfl,rfl,al⟩ am;refine zg 3 rfl ?_;obtain rfl:=oi ah;exact AX func32 rfl rfl (ab ai rfl ⟨aj,ak,rfl,rfl,al⟩ am)
def f81(fu_:Nat)(p0:CK)(K:List Int):Option (Int×(CK)):= (Av ((K.length:Int) - 1)).bind λU=> (f36 fu_ p0 U).bind λO=> (ix K O.1).bind λY=> some (Y,O.2)
theorem Tk{bk:Nat}{a1:Ao}{c2:Nat}{O:Ao}{U:Nat}{p0:CK}{K:List Int}(ac:Al rI E a1 c2 p0.1)(ae:Al rI E O U K){fu_:Nat}{r:Int×(CK)}(Y:f81 fu_ p0 K=some r):AL J 81 [Aj bk 0,sV O K U] E [(bk,.cells #[sV a1 p0.1 c2,iV p0.2.1,.int .u64 ((p0.2.2:Nat):Int)] 74 (0,0))] (λw E' B'=>∃(Z:Ao) (aa:Nat),w=iV r.1/\B'= [(bk,.cells #[sV Z r.2.1 aa,iV r.2.2.1,.int .u64 ((r.2.2.2:Nat):Int)] 74 (0,0))]/\Al rI E' Z aa r.2.1):=by
 refine Bi func81 λQ av cs H ag ah=>?_;unfold f81 at Y;refine zg 9 rfl (JL.ln underlying28 rfl rfl rfl ?_);obtain⟨aw,ai,aj⟩:=bs Y;refine Cg ai rfl rfl rfl ?_;obtain⟨ay,ak,al⟩:=bs aj;refine Cq 0 (KT ac ak) rfl rfl Ky ag rfl ?_;rintro _ az _ ab ⟨am,an,rfl,rfl,ao⟩ ap;obtain⟨aA,aq,ar⟩:=bs al;refine JS.ix (ae.Ag ab) aq underlying28 Az ?_;rintro aB aC _ rfl au;refine Ch 0 au A4 rfl rfl rfl (zg 2 rfl ?_);obtain rfl:=oi ar;exact AX func81 rfl rfl (ah ab rfl ⟨am,an,rfl,rfl,ao⟩ ap)
def f40(fu_:Nat)(p0:CK)(K:Int):Option (Dq×(CK)):= (Av (K - 1)).bind λaa=> (f36 fu_ p0 aa).bind λO=> (f37 fu_ O.2 1 9).bind λU=> (f81 fu_ U.2 ([1,2,2,3,U.1]:List Int)).bind λY=> (Av (K - 1)).bind λab=> (f37 fu_ Y.2 1 ab).bind λZ=> (Av (O.1+Z.1)).bind λac=> (Nz ac K).bind λae=> some ((O.1,ae,Y.1),Z.2)
theorem Te{bk:Nat}{a1:Ao}{c2:Nat}{p0:CK}{aa:Int}(al:Al rI E a1 c2 p0.1){fu_:Nat}{r:Dq×(CK)}(ab:f40 fu_ p0 aa=some r):AL J 40 [Aj bk 0,iV aa] E [(bk,.cells #[sV a1 p0.1 c2,iV p0.2.1,.int .u64 ((p0.2.2:Nat):Int)] 74 (0,0))] (λw E' B'=>∃(ac:Ao) (ae:Nat),w= .agg #[iV r.1.1,iV r.1.2.1,iV r.1.2.2]/\B'= [(bk,.cells #[sV ac r.2.1 ae,iV r.2.2.1,.int .u64 ((r.2.2.2:Nat):Int)] 74 (0,0))]/\Al rI E' ac ae r.2.1):=by
 refine Bi func40 λQ a7 cs H am an=>?_;unfold f40 at ab;refine zg 2 rfl (BI am BK λa8 ao=>?_);obtain⟨a9,ap,aq⟩:=bs ab;refine zg 5 rfl (Cg ap rfl rfl rfl ?_);obtain⟨O,ar,au⟩:=bs aq;refine Cq 0 (KT al ar) rfl rfl Ky ao rfl ?_;rintro _ ba _ av ⟨bb,be,rfl,rfl,aw⟩ ay;obtain⟨ag,az,aA⟩:=bs au;refine zg 2 rfl (Cq 0 (Po aw az) rfl rfl NO ay rfl ?_);rintro _ bf _ aB ⟨bg,bh,rfl,rfl,aC⟩ aD;refine Fx (pp:=rI) [iV 1,iV 2,iV 2,iV 3,iV ag.1] [1,2,2,3,ag.1] rfl rfl rfl underlying28 Az Cd (by decide) rfl rfl rfl ⟨rfl,rfl,rfl,rfl,rfl,trivial⟩ aD λbi bj aE aF=>B8 2 aE aF rfl λbl ah aG aH=>?_;obtain⟨U,aI,aJ⟩:=bs aA;refine Cq 0 (Tk (aC.Ag ah) aG aI) rfl rfl (A7 func81 rfl) aH rfl ?_;rintro _ bm _ aK ⟨bn,bo,rfl,rfl,aL⟩ aM;refine Am (v:= .agg #[iV O.1,iV 0,iV U.1]) rfl (λρ h=>Dc [(0,1),(1,1),(2,1)] h BK underlying27 ⟨rfl,AQ type3,rfl,AQ type3,rfl,AQ type3,trivial⟩ rfl rfl) (BI aM BK λai aN=>?_);refine BB 3 aN Bp λZ=>?_;refine zg 2 rfl (EY 8 [ai] ⟨⟨3,_,rfl⟩,trivial⟩ Z λK=>?_);refine JG.fd 0 K underlying27 Az rfl rfl rfl rfl (Kh 1 K 0 3 Z A4 ?_);refine Ba K rfl [2,3] rfl ?_;obtain⟨aO,aP,aQ⟩:=bs aJ;refine AK 4 K rfl rfl (λρ h s' aR=>Dz (h _ _ rfl) (h _ _ rfl) aP) (C5 7 K rfl rfl ?_);obtain⟨bp,aS,aT⟩:=bs aQ;refine QH (i:=5) (vs:= [Aj bk 0,iV 1,iV aO]) 0 (by exact λx aU=>HB.mem (bks:= [ai]) (by exact⟨⟨3,_,rfl⟩,trivial⟩) x (by simpa [AT] using aU)) (Po aL aS) (by decide+kernel) rfl rfl rfl NO rfl Z rfl ?_;rintro _ bq _ aV ⟨aW,aX,rfl,rfl,aY⟩ aZ;obtain⟨br,a0,a2⟩:=bs aT;refine AK 6 K rfl rfl (λρ h s' aR=>Ff (h _ _ rfl) (h _ _ rfl) a0) (Dd [8,9,10] ?_);obtain⟨Y,a3,a4⟩:=bs a2;refine Am (v:=iV Y) rfl (λρ h=>W4 (h _ _ rfl) (h _ _ rfl) a3) (JL.fd underlying27 Az rfl rfl rfl ?_);refine BB 3 aZ Az λaj=>?_;refine zg 3 rfl (Am rfl (λρ h=>IS (vs:= [iV O.1,iV Y,iV U.1]) DX Bp (h _ _ rfl) (GV (off:=0) 3 aj rfl rfl)) ?_);refine BB 1 aj Bp λa5=>?_;refine JL.done (JS.drop 3 a5 rfl λak=>?_);obtain rfl:=oi a4;refine JL.ret (v:= .agg #[iV O.1,iV Y,iV U.1]) rfl rfl (Bx.list func40 rfl (vs:= [.agg #[iV O.1,iV Y,iV U.1]]) ⟨⟨_,rfl,Ld.many (vs:= [iV O.1,iV Y,iV U.1]) DX Bp (GV (off:=0) 1 ak rfl rfl)⟩,trivial⟩) (Eg 1 ak rfl λa6=>?_);exact an ((((av.Ad aB).Ad ah).Ad aK).Ad aV) rfl ⟨aW,aX,rfl,rfl,aY⟩ a6
end Pal
namespace Pal
open Go Go.Conc
section
variable {P:Program}{J:Judge P}{Q:Gs_}{b:Frame}{n:Nat}{ds:Ld_}{ops:Ao_}{k:Li_}{cs:Lf_}{m fuel:Nat}{D:Nat->Bool}{listed:Array Bool}{L:Env}{s:St}{E E' H:LH}{S:List Seg}
variable {d:Option Tmp}{x y:Operand}{t u ty e:TypeId}{p:String}{af:Ae_}{g:On_}{v:Value}{i:Nat}{kd:IntKind}
theorem Take.So{f:FuncId}{args:Array Operand}{ats:Array TypeId}{vs:Lv_}{seg:Seg}{R:Value->LH->Seg->Prop}(j:Nat)(O:Aq E H S)(ag:AL J f vs E seg R)
  (ah:ops[i]? =some ⟨d,.call ⟨.value (.func f),args,ats⟩,ty,p,af,g⟩) (hw:AM L ops ⟨d,.call ⟨.value (.func f),args,ats⟩,ty,p,af,g⟩=some true) (ai:Bg n d=true) (hb:De P f=true) (aj:evs L args.toList=some vs) (U:S[j]? =some seg)
  (ak:∀v E' seg',Le E E'->R v E' seg'->Aq E' H (S.set j seg')->AN J Q b n ds ops k cs m C6 fuel (A6 listed i) (Au L d v) (Ak E' H (S.set j seg'))):
  Take J Q b n ds ops k cs m C6 fuel listed L (Ak E H S) i:=by
 have Y:S.flatten.Perm (seg++(S.set j []).flatten):=(DZ (seg':=seg) U).1.trans List.perm_append_comm;have Z:Nd E H (seg++(S.set j []).flatten):=Nd.perm O Y;have al:Ak E H S=mk E (Bf (S.set j []).flatten H) seg:=by
  rw [show Ak E H S=mk E H S.flatten from rfl,EV O Y];unfold mk;rw [FQ]
 have aa:=Ez.K4 (ag (Bf (S.set j []).flatten H) (Nd.front Z)) (by rintro v s' ⟨E',B',_,_,_,rfl⟩;rfl);rw [← al] at aa;refine⟨_,ah,by simp [DG],ai,hw,λρ ab=>?_⟩;have am:args.map ρ=vs.toArray:=by
  rw [← Gf ab aj];apply Array.ext';simp
 have an:ρ (.func f)= .func (.func f) #[] #[]:=ab _ _ rfl;simp only [execOp,resolve,bind,Sem.bind,Deferred.ofValue,an,pure,invoke];have e: #[]++args.map ρ++ #[]=vs.toArray:=by rw [am];simp
 rw [e];refine Io hb ?_;rw [KB];refine⟨_,aa,?_⟩;rintro v aA ⟨⟨E',B',hle,ao,ap,rfl⟩,w,aq⟩;have e2:mk E' (Bf (S.set j []).flatten H) B'=mk E' H (B'++(S.set j []).flatten):=by unfold mk;rw [FQ]
 have ar:Nd E H (S.set j []).flatten:=by
  have:=Z;rw [Nd.iff] at this ⊢;rw [List.map_append,List.nodup_append] at this;exact⟨this.1.2.1,λq au=>this.2 q (List.mem_append_right _ au)⟩
 have av:Nd E' H (S.set j []).flatten:=ar.grow λx K=>by
  have aw:=aq.d x K;have ay:Bf B' (Bf (S.set j []).flatten H) x=none:=aw;exact(HP ay).1
 have ac:Nd E' H (B'++(S.set j []).flatten):=Nd.glue ap av;have ae:(B'++(S.set j []).flatten).Perm (S.set j B').flatten:=List.perm_append_comm.trans (DZ U).2.symm;have az:Aq E' H (S.set j B'):=Nd.perm ac ae;rw [e2,EV ac ae];exact⟨rfl,λx o K=>hle _ _ K,ak v E' B' hle ao az⟩
end
end Pal
namespace Pal
open Go Go.Conc Go.Proofs
open Go.Proofs.Tryz
variable {J:Judge Tryz.prog}{E:LH}
def Na(fu_:Nat)(Y:Bool×(CK))(K:(List Int)×Int×Nat×(List Int)×Int):Option (Bj ((List Int)×Int×Nat×(List Int)×Int) ((List Int)×CK)):= if 0<K.2.2.2.2 then(Option.bind (if Y.1=true then((room K.2.2.2.1 1).bind λZ=> some (Z,K.1,K.2.1,K.2.2.1)) else((f81 fu_ (K.1,K.2.1,K.2.2.1) ([1,1,2,2,3,5]:List Int)).bind λO=> (room K.2.2.2.1 O.1).bind λaa=> some (aa,O.2.1,O.2.2.1,O.2.2.2))) λU=> (Av (K.2.2.2.2 - 1)).bind λab=> some (.more (U.2.1,U.2.2.1,U.2.2.2,U.1,ab))) else(some (.done (K.2.2.2.1,K.1,K.2.1,K.2.2.1)))
def Nc(fu_:Nat)(Y:Int×(CK))(Z:Bool×(CK))(K:A1×(List Int)×Int×Nat×Int):Option (Bj (A1×(List Int)×Int×Nat×Int) ((List Int)×Int×Nat×A1)):= if K.2.2.2.2<Y.1 then((f36 fu_ (K.2.1,K.2.2.1,K.2.2.2.1) 3).bind λO=> Option.bind (iter (Na fu_ Z) fu_ (O.2.1,O.2.2.1,O.2.2.2,[],O.1)) λU=> (room K.1 U.1).bind λaa=> (Av (K.2.2.2.2+1)).bind λab=> some (.more (aa,U.2.1,U.2.2.1,U.2.2.2,ab))) else(some (.done (K.2.1,K.2.2.1,K.2.2.2.1,K.1)))
def Nb(fu_:Nat)(U:Int×(CK))(K:Ay×(List Int)×Int×Nat×Int):Option (Bj (Ay×(List Int)×Int×Nat×Int) ((List Int)×Int×Nat×Ay)):= if 0<K.2.2.2.2 then((f40 fu_ (K.2.1,K.2.2.1,K.2.2.2.1) U.1).bind λO=> (Dp K.1 ([O.1]:Ay)).bind λY=> (Av (K.2.2.2.2 - 1)).bind λZ=> some (.more (Y,O.2.1,O.2.2.1,O.2.2.2,Z))) else(some (.done (K.2.1,K.2.2.1,K.2.2.2.1,K.1)))
def f31(fu_:Nat)(p0:CK)(aa:Int)(p2:Int):Option (AY×(CK)):= (f37 fu_ p0 2 aa).bind λZ=> (f32 fu_ Z.2 3).bind λK=> Option.bind (iter (Nc fu_ Z K) fu_ ([],K.2.1,K.2.2.1,K.2.2.2,0)) λO=> (f36 fu_ (O.1,O.2.1,O.2.2.1) p2).bind λU=> Option.bind (iter (Nb fu_ Z) fu_ ([],U.2.1,U.2.2.1,U.2.2.2,U.1)) λY=> some ((O.2.2.2,Y.2.2.2),(Y.1,Y.2.1,Y.2.2.1))
theorem Zw{bk:Nat}{a1:Ao}{c2:Nat}{p0:CK}{bC:Int}{p2:Int}(cq:Al rI E a1 c2 p0.1){fu_:Nat}{r:AY×(CK)}(bD:f31 fu_ p0 bC p2=some r):AL J 31 [Aj bk 0,iV bC,iV p2] E [(bk,.cells #[sV a1 p0.1 c2,iV p0.2.1,.int .u64 ((p0.2.2:Nat):Int)] 74 (0,0))] (λw E' B'=>∃(bE:Ao) (bF:Nat) (bG:Ao) (bH:Nat) (bI:Ao) (bJ:Nat),w= .agg #[sV bE r.1.1 bF,sV bG r.1.2 bH]/\B'= [(bk,.cells #[sV bI r.2.1 bJ,iV r.2.2.1,.int .u64 ((r.2.2.2:Nat):Int)] 74 (0,0))]/\Al (rL rI) E' bE bF r.1.1/\Al Ax E' bG bH r.1.2/\Al rI E' bI bJ r.2.1):=by
 refine Bi func31 λQ fF cs H cr ct=>?_;unfold f31 at bD;refine zg 2 rfl (BI cr Jb λO cu=>?_);refine zg 3 rfl (BI cu Jb λU cv=>?_);obtain⟨al,cw,cy⟩:=bs bD;refine zg 5 rfl (Cq 0 (Po cq cw) rfl rfl NO cv rfl ?_);rintro _ fG _ cz ⟨cA,cB,rfl,rfl,cC⟩ cD;refine Bt (S':= [[(bk,.cells #[sV cA al.2.1 cB,iV al.2.2.1,.int .u64 ((al.2.2.2:Nat):Int)] 74 (0,0))],[(O,.cells #[nS,nS] 25 (0,0))],[(U,.cells #[nS,nS] 25 (0,0))]]) rfl cD λcE=>?_;obtain⟨aM,cF,cG⟩:=bs cy;refine zg 5 rfl (Cq 0 (Zt cC cF) rfl rfl (A7 func32 rfl) cE rfl ?_);rintro _ a8 _ cH ⟨cI,cJ,rfl,rfl,cK⟩ cM;obtain⟨Y,cN,cO⟩:=bs cG;refine zg 7 rfl (Bq (λL s=>∃(aN:LH) (a9:Ao) (ba:Nat) (aa:Ao) (ab:Nat) (ak:Seg),Jn a8 H aN [bX bk #[sV a9 Y.1 ba,iV Y.2.1,.int .u64 ((Y.2.2.1:Nat):Int)] 74,bX O #[nS,nS] 25,bX U #[sV aa Y.2.2.2 ab,nS] 25,ak] [(0,Aj bk 0),(2,iV p2),(6,Aj O 0),(7,Aj U 0),(8,iV al.1)] L s (Al rI aN a9 ba Y.1/\OL 28 (rL rI) aN aa ab ak Y.2.2.2)) ?_ ?_)
 ·rintro _ _ ⟨aN,a9,ba,aa,ab,ak,rfl,rfl,cP,cQ,cR,cT⟩;obtain⟨fH,cV,cW⟩:=bs cO;refine zg 5 rfl (Cq 0 (KT cR cV) rfl rfl Ky cQ rfl ?_);rintro _ bb _ bK ⟨cX,cY,rfl,rfl,cZ⟩ c0;obtain⟨ac,c1,c3⟩:=bs cW;refine zg 2 rfl (Bq (λL s=>∃(aO:LH) (aD:Ao) (aE:Nat) (an:Ao) (ao:Nat) (aP:Seg),Jn bb H aO [bX bk #[sV aD ac.1 aE,iV ac.2.1,.int .u64 ((ac.2.2.1:Nat):Int)] 74,bX O #[nS,nS] 25,bX U #[sV aa Y.2.2.2 ab,sV an ac.2.2.2 ao] 25,ak,aP] [(6,Aj O 0),(7,Aj U 0)] L s (Al rI aO aD aE ac.1/\OL 27 Ax aO an ao aP ac.2.2.2)) ?_ ?_)
  ·rintro _ _ ⟨aO,aD,aE,an,ao,aP,rfl,rfl,bL,bM,c4,c5⟩;refine zg 2 rfl (Am rfl (λρ h=>IS (vs:= [sV aa Y.2.2.2 ab,sV an ac.2.2.2 ao]) FN Db (h _ _ rfl) (GV (off:=0) 2 bM rfl rfl)) ?_);refine BB 1 bM Db λc6=>?_;refine Bt (S':= [[(bk,.cells #[sV aD ac.1 aE,iV ac.2.1,.int .u64 ((ac.2.2.1:Nat):Int)] 74 (0,0))],[(O,.cells #[sV aa Y.2.2.2 ab,sV an ac.2.2.2 ao] 25 (0,0))],[(U,.cells #[sV aa Y.2.2.2 ab,sV an ac.2.2.2 ao] 25 (0,0))],ak,aP]) rfl c6 λc7=>JL.done (B8 3 (cT.Ag (bK.Ad bL)) c7 rfl λfI be c8 c9=>?_);refine B8 4 (c5.Ag be) c9 rfl λfJ bf da db=>JS.drop 2 db rfl λbN=>?_;obtain rfl:=oi c3;refine JL.ret (v:= .agg #[sV aa Y.2.2.2 ab,sV an ac.2.2.2 ao]) rfl rfl (Bx.list func31 rfl (vs:= [.agg #[sV aa Y.2.2.2 ab,sV an ac.2.2.2 ao]]) ⟨⟨_,rfl,Ld.many (vs:= [sV aa Y.2.2.2 ab,sV an ac.2.2.2 ao]) FN Db (GV (off:=0) 1 bN rfl rfl)⟩,trivial⟩) (Eg 1 bN rfl λdc=>?_);exact ct ((((((cz.Ad cH).Ad cP).Ad bK).Ad bL).Ad be).Ad bf) rfl ⟨aa,ab,an,ao,aD,aE,rfl,rfl,(c8.Ag bf),da,(c4.Ag (be.Ad bf))⟩ dc
  ·intro dd;refine JL.block (Cj c1 (λL s ag=>∃(aF:LH) (ap:Ao) (aq:Nat) (au:Seg) (aQ:Ao) (aR:Nat),Jn bb H aF [bX bk #[sV aQ ag.2.1 aR,iV ag.2.2.1,.int .u64 ((ag.2.2.2.1:Nat):Int)] 74,bX O #[nS,nS] 25,bX U #[sV aa Y.2.2.2 ab,sV ap ag.1 aq] 25,ak,au] [(0,Aj bk 0),(6,Aj O 0),(7,Aj U 0),(8,iV al.1),(13,iV ag.2.2.2.2)] L s (OL 27 Ax aF ap aq au ag.1/\Al rI aF aQ aR ag.2.1)) ⟨bb,none,0,[],cX,cY,rfl,rfl,Aw,c0,OL.nil,cZ⟩ ?_);rintro _ _ ag ⟨aF,ap,aq,au,aQ,aR,rfl,rfl,aS,aT,aU,bg⟩ de ⟨fK,aG⟩ bh;have bO:=aG;unfold Nb at bO;refine zg 6 rfl (AS bO (λdf dg=>?_) (λdf dh=>?_))
   ·refine zg 3 rfl (EX 6 λbP=>?_);refine JG.fd 0 bP underlying25 GU rfl rfl rfl rfl (Ba bP rfl [2,3] rfl ?_);obtain⟨K,bQ,bi⟩:=bs dg;refine F0 (i:=1) (j:=4) rfl (by decide+kernel) ?_ ?_
    ·refine Take.y0 (v:= sV ap ag.1 aq) rfl rfl rfl (λρ h=>Yl.load IJ (h _ _ rfl) (BL (j:=2) aT rfl rfl)) (JG.one (i:=4) rfl (by decide+kernel) ?_);refine Take.So (vs:= [Aj bk 0,iV al.1]) 0 aT (Te bg bQ) rfl rfl rfl (A7 func40 rfl) rfl rfl ?_;rintro _ fL _ bR ⟨bj,bl,rfl,rfl,di⟩ dj;refine JG.one (i:=5) rfl (by decide+kernel) (Take.EH (pp:=Ax) [.agg #[iV K.1.1,iV K.1.2.1,iV K.1.2.2]] ([K.1]:Ay) dj rfl rfl rfl underlying23 Bp BK (by decide) rfl rfl rfl ⟨⟨_,_,rfl,rfl,⟨_,_,rfl,rfl,rfl⟩⟩,trivial⟩ λfM dk dn dp=>?_);refine Dd [6,7,8] (Bt (S':= [[(bk,.cells #[sV bj K.2.1 bl,iV K.2.2.1,.int .u64 ((K.2.2.2:Nat):Int)] 74 (0,0))],[(O,.cells #[nS,nS] 25 (0,0))],[(U,.cells #[sV aa Y.2.2.2 ab,sV ap ag.1 aq] 25 (0,0))],ak,au,dk]) rfl dp λdq=>?_);refine B8 5 dn dq rfl λdr bm dt du=>?_;obtain⟨bS,dv,dw⟩:=bs bi;refine IW (pp:=Ax) 4 dv rfl rfl rfl rfl rfl rfl rfl underlying23 underlying23 Bp (C4 type27) BK rfl (by decide) (by decide) (aU.Ag (bR.Ad bm)) dt du rfl λbT bU bV dx dy=>JL.fd underlying25 GU rfl rfl rfl (BB 2 dy GU λdz=>?_);refine Bt (S':= [[(bk,.cells #[sV bj K.2.1 bl,iV K.2.2.1,.int .u64 ((K.2.2.2:Nat):Int)] 74 (0,0))],[(O,.cells #[nS,nS] 25 (0,0))],[(U,.cells #[sV aa Y.2.2.2 ab,sV bT bS bU] 25 (0,0))],ak,bV,[]]) rfl dz λdA=>?_;obtain⟨dB,dC,dD⟩:=bs dw;refine zg 4 rfl (Cg dC rfl rfl rfl ?_);refine zg 2 rfl ?_;obtain rfl:=oi dD;exact AA (bh _ _ (bS,K.2.1,K.2.2.1,K.2.2.2,dB) ⟨dr,bT,bU,bV,bj,bl,rfl,rfl,((aS.Ad bR).Ad bm),dA,dx,(di.Ag bm)⟩ aG) rfl
    ·refine Take.So (vs:= [Aj bk 0,iV al.1]) 0 aT (Te bg bQ) rfl rfl rfl (A7 func40 rfl) rfl rfl ?_;rintro _ fN _ aV ⟨az,aA,rfl,rfl,bW⟩ bn;refine F0 (i:=1) (j:=5) rfl (by decide+kernel) ?_ ?_
     ·refine Take.y0 (v:= sV ap ag.1 aq) rfl rfl rfl (λρ h=>Yl.load IJ (h _ _ rfl) (BL (j:=2) bn rfl rfl)) (JG.one (i:=5) rfl (by decide+kernel) ?_);refine Take.EH (pp:=Ax) [.agg #[iV K.1.1,iV K.1.2.1,iV K.1.2.2]] ([K.1]:Ay) bn rfl rfl rfl underlying23 Bp BK (by decide) rfl rfl rfl ⟨⟨_,_,rfl,rfl,⟨_,_,rfl,rfl,rfl⟩⟩,trivial⟩ λfO dE dF dG=>Dd [6,7,8] (Bt (S':= [[(bk,.cells #[sV az K.2.1 aA,iV K.2.2.1,.int .u64 ((K.2.2.2:Nat):Int)] 74 (0,0))],[(O,.cells #[nS,nS] 25 (0,0))],[(U,.cells #[sV aa Y.2.2.2 ab,sV ap ag.1 aq] 25 (0,0))],ak,au,dE]) rfl dG λdH=>?_);refine B8 5 dF dH rfl λdI bo dJ dK=>?_;obtain⟨bY,dL,dM⟩:=bs bi;refine IW (pp:=Ax) 4 dL rfl rfl rfl rfl rfl rfl rfl underlying23 underlying23 Bp (C4 type27) BK rfl (by decide) (by decide) (aU.Ag (aV.Ad bo)) dJ dK rfl λbZ b0 b1 dN dO=>JL.fd underlying25 GU rfl rfl rfl (BB 2 dO GU λdP=>?_);refine Bt (S':= [[(bk,.cells #[sV az K.2.1 aA,iV K.2.2.1,.int .u64 ((K.2.2.2:Nat):Int)] 74 (0,0))],[(O,.cells #[nS,nS] 25 (0,0))],[(U,.cells #[sV aa Y.2.2.2 ab,sV bZ bY b0] 25 (0,0))],ak,b1,[]]) rfl dP λdQ=>?_;obtain⟨dR,dS,dT⟩:=bs dM;refine zg 4 rfl (Cg dS rfl rfl rfl ?_);refine zg 2 rfl ?_;obtain rfl:=oi dT;exact AA (bh _ _ (bY,K.2.1,K.2.2.1,K.2.2.2,dR) ⟨dI,bZ,b0,b1,az,aA,rfl,rfl,((aS.Ad aV).Ad bo),dQ,dN,(bW.Ag bo)⟩ aG) rfl
     ·refine Take.EH (pp:=Ax) [.agg #[iV K.1.1,iV K.1.2.1,iV K.1.2.2]] ([K.1]:Ay) bn rfl rfl rfl underlying23 Bp BK (by decide) rfl rfl rfl ⟨⟨_,_,rfl,rfl,⟨_,_,rfl,rfl,rfl⟩⟩,trivial⟩ λfP dU dV b2=>JG.one (i:=1) rfl (by decide+kernel) (Take.y0 (v:= sV ap ag.1 aq) rfl rfl rfl (λρ h=>Yl.load IJ (h _ _ rfl) (BL (j:=2) b2 rfl rfl)) ?_);refine Dd [6,7,8] (Bt (S':= [[(bk,.cells #[sV az K.2.1 aA,iV K.2.2.1,.int .u64 ((K.2.2.2:Nat):Int)] 74 (0,0))],[(O,.cells #[nS,nS] 25 (0,0))],[(U,.cells #[sV aa Y.2.2.2 ab,sV ap ag.1 aq] 25 (0,0))],ak,au,dU]) rfl b2 λdW=>?_);refine B8 5 dV dW rfl λdX bp dY dZ=>?_;obtain⟨b3,ea,eb⟩:=bs bi;refine IW (pp:=Ax) 4 ea rfl rfl rfl rfl rfl rfl rfl underlying23 underlying23 Bp (C4 type27) BK rfl (by decide) (by decide) (aU.Ag (aV.Ad bp)) dY dZ rfl λb4 b5 b6 ec ed=>JL.fd underlying25 GU rfl rfl rfl (BB 2 ed GU λee=>?_);refine Bt (S':= [[(bk,.cells #[sV az K.2.1 aA,iV K.2.2.1,.int .u64 ((K.2.2.2:Nat):Int)] 74 (0,0))],[(O,.cells #[nS,nS] 25 (0,0))],[(U,.cells #[sV aa Y.2.2.2 ab,sV b4 b3 b5] 25 (0,0))],ak,b6,[]]) rfl ee λef=>?_;obtain⟨eg,eh,ei⟩:=bs eb;refine zg 4 rfl (Cg eh rfl rfl rfl ?_);refine zg 2 rfl ?_;obtain rfl:=oi ei;exact AA (bh _ _ (b3,K.2.1,K.2.2.1,K.2.2.2,eg) ⟨dX,b4,b5,b6,az,aA,rfl,rfl,((aS.Ad aV).Ad bp),ef,ec,(bW.Ag bp)⟩ aG) rfl
   ·refine JL.exit rfl ?_;obtain rfl:=oi dh;obtain rfl:=de _ aG;exact AA (dd _ _ ⟨aF,aQ,aR,ap,aq,au,rfl,rfl,aS,aT,bg,aU⟩) rfl
 ·intro ej;refine JL.block (Cj cN (λL s Z=>∃(aH:LH) (ah:Ao) (ai:Nat) (am:Seg) (aW:Ao) (aX:Nat),Jn a8 H aH [bX bk #[sV aW Z.2.1 aX,iV Z.2.2.1,.int .u64 ((Z.2.2.2.1:Nat):Int)] 74,bX O #[nS,nS] 25,bX U #[sV ah Z.1 ai,nS] 25,am] [(0,Aj bk 0),(2,iV p2),(6,Aj O 0),(7,Aj U 0),(8,iV al.1),(9,.bool aM.1),(10,iV Z.2.2.2.2)] L s (OL 28 (rL rI) aH ah ai am Z.1/\Al rI aH aW aX Z.2.1)) ⟨a8,none,0,[],cI,cJ,rfl,rfl,Aw,cM,OL.nil,cK⟩ ?_);rintro _ _ Z ⟨aH,ah,ai,am,aW,aX,rfl,rfl,b7,b8,b9,ca⟩ ek ⟨fQ,bq⟩ el;have cb:=bq;unfold Nc at cb;refine zg 7 rfl (AS cb (λem en=>?_) (λem eo=>?_))
  ·obtain⟨fR,ep,er⟩:=bs en;refine zg 11 rfl (Cq 0 (KT ca ep) rfl rfl Ky b8 rfl ?_);rintro _ br _ cc ⟨et,eu,rfl,rfl,ew⟩ ex;obtain⟨aj,ey,ez⟩:=bs er;refine zg 2 rfl (Bq (λL s=>∃(aY:LH) (aZ:Ao) (a0:Nat) (bu:Seg) (aI:Ao) (aJ:Nat),Jn br H aY [bX bk #[sV aI aj.2.1 aJ,iV aj.2.2.1,.int .u64 ((aj.2.2.2:Nat):Int)] 74,bX O #[nS,nS] 25,bX U #[sV ah Z.1 ai,nS] 25,am,bu] [(0,Aj bk 0),(2,iV p2),(6,Aj O 0),(7,Aj U 0),(8,iV al.1),(9,.bool aM.1),(10,iV Z.2.2.2.2),(11,sV aZ aj.1 a0)] L s (OL 3 rI aY aZ a0 bu aj.1/\Al rI aY aI aJ aj.2.1)) ?_ ?_)
   ·rintro _ _ ⟨aY,aZ,a0,bu,aI,aJ,rfl,rfl,cd,ce,eA,eB⟩;refine JL.region (JL.fd underlying25 Fs rfl rfl rfl ?_);refine Am (v:= sV ah Z.1 ai) rfl (λρ h=>Yl.load FM (h _ _ rfl) (BL (j:=2) (off:=0) ce rfl rfl)) (zg 1 rfl ?_);refine B8 4 eA ce rfl λeC bv eD eE=>Bt (S':= [[(bk,.cells #[sV aI aj.2.1 aJ,iV aj.2.2.1,.int .u64 ((aj.2.2.2:Nat):Int)] 74 (0,0))],[(O,.cells #[nS,nS] 25 (0,0))],[(U,.cells #[sV ah Z.1 ai,nS] 25 (0,0))],am,[]]) rfl eE λeF=>?_;obtain⟨eG,eH,eI⟩:=bs ez;refine JS.app (pp:=(rL rI)) (v:= sV aZ aj.1 a0) (a:=ah) (c:=ai) 3 eH rfl rfl rfl rfl (λ_=>rfl) rfl (λ_=>rfl) rfl rfl rfl underlying22 underlying22 underlying22 Dy (C4 type28) JW rfl (by decide) (by decide) (by decide) (by decide) (b9.Ag ((cc.Ad cd).Ad bv)) ⟨_,_,rfl,eD⟩ eF rfl λfS eJ eK eL eM eN=>JL.fd underlying25 Fs rfl rfl rfl (BB 2 eN Fs λeO=>?_);obtain⟨eP,eQ,eR⟩:=bs eI;refine zg 4 rfl (Bm eQ rfl rfl rfl ?_);refine zg 2 rfl ?_;obtain rfl:=oi eR;exact AA (el _ _ (eG,aj.2.1,aj.2.2.1,aj.2.2.2,eP) ⟨eC,eJ,eK,eL,aI,aJ,rfl,rfl,(((b7.Ad cc).Ad cd).Ad bv),eO,eM,(eB.Ag bv)⟩ bq) rfl
   ·intro eS;refine JL.block (Cj ey (λL s ae=>∃(av:LH) (aw:Ao) (ay:Nat) (aB:Ao) (aC:Nat) (aK:Seg),Jn br H av [bX bk #[sV aw ae.1 ay,iV ae.2.1,.int .u64 ((ae.2.2.1:Nat):Int)] 74,bX O #[nS,nS] 25,bX U #[sV ah Z.1 ai,nS] 25,am,aK] [(0,Aj bk 0),(2,iV p2),(6,Aj O 0),(7,Aj U 0),(8,iV al.1),(9,.bool aM.1),(10,iV Z.2.2.2.2),(11,sV aB ae.2.2.2.1 aC),(12,iV ae.2.2.2.2)] L s (Al rI av aw ay ae.1/\OL 3 rI av aB aC aK ae.2.2.2.1)) ⟨br,et,eu,none,0,[],rfl,rfl,Aw,ex,ew,OL.nil⟩ ?_);rintro _ _ ae ⟨av,aw,ay,aB,aC,aK,rfl,rfl,cf,bw,bx,bz⟩ eT ⟨fT,bA⟩ eU;have cg:=bA;unfold Na at cg;refine zg 6 rfl (AS cg (λeV eW=>?_) (λeV eX=>?_))
    ·obtain⟨ar,eY,eZ⟩:=bs eW;refine zg 7 rfl (Bq (λL s=>∃(aL:LH) (a2:Ao) (a3:Nat) (a4:Seg) (a5:Ao) (a6:Nat),Jn av H aL [bX bk #[sV a5 ar.2.1 a6,iV ar.2.2.1,.int .u64 ((ar.2.2.2:Nat):Int)] 74,bX O #[nS,nS] 25,bX U #[sV ah Z.1 ai,nS] 25,am,a4] [(0,Aj bk 0),(2,iV p2),(6,Aj O 0),(7,Aj U 0),(8,iV al.1),(9,.bool aM.1),(10,iV Z.2.2.2.2),(11,sV a2 ar.1 a3),(12,iV ae.2.2.2.2)] L s (OL 3 rI aL a2 a3 a4 ar.1/\Al rI aL a5 a6 ar.2.1)) ?_ ?_)
     ·rintro _ _ ⟨aL,a2,a3,a4,a5,a6,rfl,rfl,e0,e1,e3,e4⟩;obtain⟨e5,e6,e7⟩:=bs eZ;refine zg 3 rfl (Cg e6 rfl rfl rfl ?_);refine zg 2 rfl ?_;obtain rfl:=oi e7;exact AA (eU _ _ (ar.2.1,ar.2.2.1,ar.2.2.2,ar.1,e5) ⟨aL,a5,a6,a2,a3,a4,rfl,rfl,(cf.Ad e0),e1,e4,e3⟩ bA) rfl
     ·intro ci;refine CC eY (λe8 e9=>?_) (λe8 fa=>?_)
      ·obtain⟨fU,fb,fc⟩:=bs e9;refine zg 2 rfl (JS.app (pp:=rI) (v:=iV 1) (a:=aB) (c:=aC) 4 fb rfl rfl rfl rfl (λ_=>rfl) rfl (λ_=>rfl) rfl rfl rfl underlying28 underlying28 underlying28 Az (C4 type3) Cd rfl (by decide) (by decide) (by decide) (by decide) bz rfl bw rfl λfW fe ff ck fg fh=>?_);refine Bt (S':= [[(bk,.cells #[sV aw ae.1 ay,iV ae.2.1,.int .u64 ((ae.2.2.1:Nat):Int)] 74 (0,0))],[(O,.cells #[nS,nS] 25 (0,0))],[(U,.cells #[sV ah Z.1 ai,nS] 25 (0,0))],am,ck]) rfl fh λfj=>zg 2 rfl ?_;obtain rfl:=oi fc;exact AA (ci _ _ ⟨av,fe,ff,ck,aw,ay,rfl,rfl,Aw,fj,fg,bx⟩) rfl
      ·refine zg 3 rfl (Fx (pp:=rI) [iV 1,iV 1,iV 2,iV 2,iV 3,iV 5] [1,1,2,2,3,5] rfl rfl rfl underlying28 Az Cd (by decide) rfl rfl rfl ⟨rfl,rfl,rfl,rfl,rfl,rfl,trivial⟩ bw λfX fk fl fm=>?_);refine Bt (S':= [[(bk,.cells #[sV aw ae.1 ay,iV ae.2.1,.int .u64 ((ae.2.2.1:Nat):Int)] 74 (0,0))],[(O,.cells #[nS,nS] 25 (0,0))],[(U,.cells #[sV ah Z.1 ai,nS] 25 (0,0))],am,aK,fk]) rfl fm λfo=>B8 5 fl fo rfl λfY bB fp fq=>?_;obtain⟨a7,fs,fu⟩:=bs fa;refine Cq 0 (Tk (bx.Ag bB) fp fs) rfl rfl (A7 func81 rfl) fq rfl ?_;rintro _ fv _ cm ⟨cn,co,rfl,rfl,fw⟩ fx;obtain⟨fZ,fy,fz⟩:=bs fu;refine JS.app (pp:=rI) (v:=iV a7.1) (a:=aB) (c:=aC) 4 fy rfl rfl rfl rfl (λ_=>rfl) rfl (λ_=>rfl) rfl rfl rfl underlying28 underlying28 underlying28 Az (C4 type3) Cd rfl (by decide) (by decide) (by decide) (by decide) (bz.Ag (bB.Ad cm)) rfl fx rfl λga fA fB cp fC fD=>Bt (S':= [[(bk,.cells #[sV cn a7.2.1 co,iV a7.2.2.1,.int .u64 ((a7.2.2.2:Nat):Int)] 74 (0,0))],[(O,.cells #[nS,nS] 25 (0,0))],[(U,.cells #[sV ah Z.1 ai,nS] 25 (0,0))],am,cp,[]]) rfl fD λfE=>zg 2 rfl ?_;obtain rfl:=oi fz;exact AA (ci _ _ ⟨fv,fA,fB,cp,cn,co,rfl,rfl,(bB.Ad cm),fE,fC,fw⟩) rfl
    ·refine JL.exit rfl ?_;obtain rfl:=oi eX;obtain rfl:=eT _ bA;exact AA (eS _ _ ⟨av,aB,aC,aK,aw,ay,rfl,rfl,cf,bw,bz,bx⟩) rfl
  ·refine JL.exit rfl ?_;obtain rfl:=oi eo;obtain rfl:=ek _ bq;exact AA (ej _ _ ⟨aH,aW,aX,ah,ai,am,rfl,rfl,b7,b8,ca,b9⟩) rfl
end Pal
namespace Pal
open Go Go.Conc Go.Proofs
open Go.Proofs.Tryz
variable {J:Judge Tryz.prog}{E:LH}
end Pal
namespace Pal
open Go Go.Conc Go.Proofs
open Go.Proofs.Tryz
variable {J:Judge Tryz.prog}{E:LH}
end Pal
namespace Pal
open Go Go.Conc Go.Proofs
open Go.Proofs.Tryz
end Pal
namespace Pal
open Go Go.Conc Go.Proofs
open Go.Proofs.Tryz
variable {J:Judge Tryz.prog}{E:LH}
def M0(fu_:Nat)(p0:AY)(K:(List Int)×Int):Option (Bj ((List Int)×Int) ((List Int))):= if K.2<(p0.2.length:Int) then((ix p0.2 K.2).bind λO=> (ix K.1 O.1).bind λac=> (ix K.1 O.1).bind λU=> (Av (U - O.2.2)).bind λY=> (ix K.1 O.2.1).bind λZ=> (Av (Z+O.2.2)).bind λaa=> (Av (K.2+1)).bind λab=> some (.more (((K.1.set (Int.toNat O.1) Y).set (Int.toNat O.2.1) aa),ab))) else(some (.done K.1))
def f89(fu_:Nat)(p0:AY):Option ((List Int)):= (H9 (p0.1.length:Int) (0:Int)).bind λK=> Option.bind (iter (M0 fu_ p0) fu_ (K,0)) λO=> some O
def O9(fu_:Nat)(p0:AY)(K:(List Int)×Int):Option (Bj ((List Int)×Int) ((List Int))):= if K.2<(p0.2.length:Int) then((ix p0.2 K.2).bind λO=> (ix K.1 O.1).bind λac=> (ix K.1 O.1).bind λU=> (Av (U - O.2.2)).bind λY=> (ix K.1 O.2.1).bind λZ=> (Av (Z+O.2.2)).bind λaa=> (Av (K.2+1)).bind λab=> some (.more (((K.1.set (Int.toNat O.1) Y).set (Int.toNat O.2.1) aa),ab))) else(some (.done K.1))
def f55(fu_:Nat)(p0:AY):Option ((List Int)):= (H9 (p0.1.length:Int) (0:Int)).bind λK=> Option.bind (iter (O9 fu_ p0) fu_ (K,0)) λO=> some O
theorem Zy{a1:Ao}{c2:Nat}{az:Ao}{aA:Nat}{p0:AY}(bI:Al (rL rI) E a1 c2 p0.1)(aM:Al Ax E az aA p0.2){fu_:Nat}{r:(List Int)}(aB:f55 fu_ p0=some r):AL J 55 [.agg #[sV a1 p0.1 c2,sV az p0.2 aA]] E [] (λw E' B'=>∃(aC:Ao) (aD:Nat),w= sV aC r aD/\B'= []/\Al rI E' aC aD r):=by
 refine Bi func55 λQ bJ cs H aN aO=>?_;unfold f55 at aB;refine zg 2 rfl (Dg aN λaE ap aF aq aP=>?_);refine zg 4 rfl (B5 0 aq underlying25 Fs FM ?_);refine JL.ln underlying22 rfl rfl rfl ?_;obtain⟨aQ,aR,aS⟩:=bs aB;refine JS.make (pp:=rI) aR rfl rfl rfl rfl rfl underlying28 Az (C4 type3) (by decide) Cd (by decide) rfl aP λaT aU aV aW=>?_;obtain⟨aG,aX,aY⟩:=bs aS;refine zg 7 rfl (Bq (λL s=>∃(ar:LH) (ah:Ao) (ai:Nat) (au:Seg),Jn ap H ar [au] [(3,sV ah aG ai)] L s (OL 3 rI ar ah ai au aG)) ?_ ?_)
 ·rintro _ _ ⟨ar,ah,ai,au,rfl,rfl,aZ,a0,a2⟩;refine zg 5 rfl (B8 0 a2 a0 rfl λbK a3 a4 a5=>?_);obtain rfl:=oi aY;exact AX func55 rfl rfl (aO ((aF.Ad aZ).Ad a3) rfl ⟨ah,ai,rfl,rfl,a4⟩ a5)
 ·intro a6;refine JL.block (Cj aX (λL s Y=>∃(aj:LH) (ak:Ao) (aa:Nat) (al:Seg),Jn ap H aj [al] [(1,Aj aE 0),(3,sV ak Y.1 aa),(4,iV Y.2)] L s (OL 3 rI aj ak aa al Y.1)) ⟨ap,(AP aT),aQ.length,aU,rfl,rfl,Aw,aW,aV⟩ ?_);rintro _ _ Y ⟨aj,ak,aa,al,rfl,rfl,ag,aH,aI⟩ a7 ⟨bL,av⟩ a8;have aJ:=av;unfold O9 at aJ;refine zg 4 rfl (B5 1 (aq.Ag ag) underlying25 GU IJ ?_);refine JL.ln underlying23 rfl rfl rfl (zg 2 rfl ?_);refine AS aJ (λa9 ba=>?_) (λa9 bb=>?_)
  ·refine zg 5 rfl (B5 1 (aq.Ag ag) underlying25 GU IJ ?_);obtain⟨O,be,bf⟩:=bs ba;refine zg 1 rfl (JS.ix (aM.Ag (aF.Ad ag)) be underlying23 Bp ?_);rintro bM bN _ ⟨_,_,rfl,rfl,⟨_,_,rfl,rfl,rfl⟩⟩ bg;refine Cw bg DX Bp rfl rfl (BI aH BK λU bh=>?_);refine BB 1 bh Bp λbi=>?_;refine CP 1 bi rfl λbj aK ab aw=>?_;obtain⟨bO,bl,bm⟩:=bs bf;refine JL.done ?_;obtain⟨am,f82,bn,Z⟩:=WL.of (aI.Ag aK) bl;obtain⟨rfl,rfl⟩:=bn;refine Hr [23,25] [am] mixed rfl (Bc 0 rfl rfl ?_);refine EN (v:= Aj U 0) 1 true rfl rfl (λρ h s' K=>Gi (a:=⟨U,0,none⟩) 0 0 underlying27 Az rfl rfl rfl (h _ _ rfl)) (HY (v:=iV O.1) 2 rfl (by decide+kernel) rfl rfl rfl (λρ h s' K=>Yl.load A4 (h _ _ rfl) (At.GB (j:=0) ab K rfl)) ?_);refine Bc 3 rfl rfl (EN (v:= Aj U 1) 4 true rfl rfl (λρ h s' K=>Gi (a:=⟨U,0,none⟩) 0 1 underlying27 Az rfl rfl rfl (h _ _ rfl)) ?_);refine HY (v:=iV O.2.1) 5 rfl (by decide+kernel) rfl rfl rfl (λρ h s' K=>Yl.load A4 (h _ _ rfl) (At.GB (j:=1) ab K rfl)) (Bc 6 rfl rfl ?_);refine EN (v:= Aj U 0) 7 true rfl rfl (λρ h s' K=>Gi (a:=⟨U,0,none⟩) 0 0 underlying27 Az rfl rfl rfl (h _ _ rfl)) (HY (v:=iV O.1) 8 rfl (by decide+kernel) rfl rfl rfl (λρ h s' K=>Yl.load A4 (h _ _ rfl) (At.GB (j:=0) ab K rfl)) ?_);obtain⟨bo,an,bp⟩:=bs bm;obtain⟨_,rfl,bq⟩:=WL.at Z an;refine JB.ix 9 Z.2 an underlying28 Az ?_;refine JB.val (v:=iV bo) 10 false rfl (by decide+kernel) rfl rfl rfl (λρ h s' K=>have K:=K rfl;Yl.load A4 (h _ _ rfl) (B4 0 aw rfl (by simp [AT]) K (bq 0 _ rfl))) (EN (v:= Aj U 2) 11 true rfl rfl (λρ h s' K=>Gi (a:=⟨U,0,none⟩) 0 2 underlying27 Az rfl rfl rfl (h _ _ rfl)) ?_);refine HY (v:=iV O.2.2) 12 rfl (by decide+kernel) rfl rfl rfl (λρ h s' K=>Yl.load A4 (h _ _ rfl) (At.GB (j:=2) ab K rfl)) ?_;obtain⟨ac,br,bu⟩:=bs bp;refine EN 13 true rfl rfl (λρ h s' K=>Dz (h _ _ rfl) (h _ _ rfl) br) (Bc 14 rfl rfl ?_);refine EN (v:= Aj U 1) 15 true rfl rfl (λρ h s' K=>Gi (a:=⟨U,0,none⟩) 0 1 underlying27 Az rfl rfl rfl (h _ _ rfl)) (HY (v:=iV O.2.1) 16 rfl (by decide+kernel) rfl rfl rfl (λρ h s' K=>Yl.load A4 (h _ _ rfl) (At.GB (j:=1) ab K rfl)) ?_);obtain⟨bv,ao,bw⟩:=bs bu;obtain⟨_,rfl,bx⟩:=WL.at Z ao;refine JB.ix 17 Z.2 ao underlying28 Az ?_;refine JB.val (v:=iV bv) 18 false rfl (by decide+kernel) rfl rfl rfl (λρ h s' K=>have K:=K rfl;Yl.load A4 (h _ _ rfl) (B4 0 aw rfl (by simp [AT]) K (bx 0 _ rfl))) (EN (v:= Aj U 2) 19 true rfl rfl (λρ h s' K=>Gi (a:=⟨U,0,none⟩) 0 2 underlying27 Az rfl rfl rfl (h _ _ rfl)) ?_);refine HY (v:=iV O.2.2) 20 rfl (by decide+kernel) rfl rfl rfl (λρ h s' K=>Yl.load A4 (h _ _ rfl) (At.GB (j:=2) ab K rfl)) ?_;obtain⟨ae,bz,bA⟩:=bs bw;refine EN 21 true rfl rfl (λρ h s' K=>Ff (h _ _ rfl) (h _ _ rfl) bz) (JB.ix 22 Z.2 an underlying28 Az ?_);have aL:=WL.put (x':=ac) (ws':= [iV ac]) Z Z.2 an rfl;refine Es 23 0 aw Az aL.2 λbB=>?_;refine JB.ix 24 Z.2 ao underlying28 Az ?_;have ay:=WL.put (x':=ae) (ws':= [iV ae]) aL.1 Z.2 ao rfl;refine Es 25 0 bB Az ay.2 λbC=>?_;refine JB.fin (by decide+kernel) ?_;have bD:=(ay.1).1;have bE:(((Y.1.set (Int.toNat O.1) ac).set (Int.toNat O.2.1) ae)).length=Y.1.length:=(ay.1).2;refine EK (L':= [(1,Aj aE 0),(3,.slice (AP am) (((Y.1.set (Int.toNat O.1) ac).set (Int.toNat O.2.1) ae)).length aa),(4,iV Y.2)]) ⟨rfl,by rw [bE];rfl,rfl,trivial⟩ ?_;obtain⟨bF,bG,bH⟩:=bs bA;refine zg 3 rfl (Bm bG rfl rfl rfl ?_);refine zg 2 rfl ?_;obtain rfl:=oi bH;exact AA (a8 _ _ (((Y.1.set (Int.toNat O.1) ac).set (Int.toNat O.2.1) ae),bF) ⟨bj,(AP am),aa,[(am,.cells (Bb (Bb f82 (Int.toNat (O.1)*1) [iV ac]) (Int.toNat (O.2.1)*1) [iV ae]) 3 (0,0))],rfl,rfl,(ag.Ad aK),bC,bD⟩ av) rfl
  ·refine JL.exit rfl ?_;obtain rfl:=oi bb;obtain rfl:=a7 _ av;exact AA (a6 _ _ ⟨aj,ak,aa,al,rfl,rfl,ag,aH,aI⟩) rfl
end Pal
set_option autoImplicit false
open Go
namespace Pal
theorem EI.ZQ{P:Program}{J:Judge P}{E:LH}{f:FuncId}{first vs:Lv_}{B:Seg}{R:Value->LH->Seg->Prop}(hb:De P f=true)(h:AL J f (first++vs) E B R):EI J (.func (.func f) first.toArray #[]) vs E B R:=λH K Q c cs O=>by
 simp only [Deferred.ofValue,bind,Sem.bind,pure,invoke]
 have e:first.toArray++vs.toArray++ #[]=(first++vs).toArray:=by simp
 rw [e];exact Io hb (h H K Q c cs O)
end Pal
namespace Pal
open Go Go.Conc Go.Proofs
open Go.Proofs.Tryz
variable {J:Judge Tryz.prog}{E:LH}
def M1(fu_:Nat)(p0:List Int)(K:Int×Int):Option (Bj (Int×Int) Int):= if K.2<(p0.length:Int) then((ix p0 K.2).bind λO=> (Av (K.2+1)).bind λU=> some (.more (max K.1 O,U))) else(some (.done K.1))
def f98(fu_:Nat)(p0:List Int):Option Int:= if(p0.length:Int)<1 then(none) else((ix p0 (0)).bind λK=> Option.bind (iter (M1 fu_ p0) fu_ (K,1)) λO=> some O)
theorem S6{a1:Ao}{c2:Nat}{p0:List Int}(Y:Al rI E a1 c2 p0){fu_:Nat}{r:Int}(Z:f98 fu_ p0=some r):AL J 98 [sV a1 p0 c2] E [] (λw E' B'=>w=iV r/\B'= []):=by
 refine Bi func98 λQ aG cs H ae ag=>?_;unfold f98 at Z;refine zg 8 rfl (JL.ln underlying28 rfl rfl rfl ?_);refine zg 2 rfl (AS Z (λc4 ah=>?_) (λc4 ai=>?_))
 ·refine JL.region ?_;cases ah
 ·obtain⟨aH,aj,ak⟩:=bs ai;refine zg 4 rfl (JS.ix Y aj underlying28 Az ?_);rintro aI aJ _ rfl al;refine Ch 0 al A4 rfl rfl rfl ?_;obtain⟨am,an,ao⟩:=bs ak;refine zg 7 rfl (DF [] [(3,iV am)] (λaK ap aq=>?_) (λar=>?_))
  ·refine zg 5 rfl ?_;obtain rfl:=oi ao;exact AX func98 rfl rfl (ag ap rfl ⟨rfl,rfl⟩ aq)
  ·refine JL.block (Dh an (λK=> []) (λK=> [(0,sV a1 p0 c2),(3,iV K.1),(4,iV K.2)]) Aw ae ?_);rintro K aL O aa au ⟨aM,U⟩ av;have ab:=U;unfold M1 at ab;refine zg 5 rfl (JL.ln underlying28 rfl rfl rfl ?_);refine zg 2 rfl (AS ab (λaw ay=>?_) (λaw az=>?_))
   ·obtain⟨ac,aA,aB⟩:=bs ay;refine zg 7 rfl (JS.ix (Y.Ag O) aA underlying28 Az ?_);rintro aN aO _ rfl aC;refine Ch 0 aC A4 rfl rfl rfl (Am (v:=iV (max K.1 ac)) rfl (λρ h=>Yl.max2 (h _ _ rfl) (h _ _ rfl)) ?_);obtain⟨aD,aE,aF⟩:=bs aB;refine zg 5 rfl (Bm aE rfl rfl rfl ?_);refine zg 2 rfl ?_;obtain rfl:=oi aF;exact av (max K.1 ac,aD) O aa rfl U
   ·refine JL.exit rfl ?_;obtain rfl:=oi az;obtain rfl:=au _ U;exact ar O aa rfl
def f97(fu_:Nat)(p0:List Int)(K:List Int):Option Bool:= (f98 fu_ p0).bind λO=> (f98 fu_ K).bind λU=> some (decide (U<O))
theorem Y9{a1:Ao}{c2:Nat}{O:Ao}{U:Nat}{p0:List Int}{K:List Int}(aa:Al rI E a1 c2 p0)(ab:Al rI E O U K){fu_:Nat}{r:Bool}(Y:f97 fu_ p0 K=some r):AL J 97 [sV a1 p0 c2,sV O K U] E [] (λw E' B'=>w= .bool r/\B'= []):=by
 refine Bi func97 λQ an cs H ac ae=>?_;unfold f97 at Y;obtain⟨ao,ag,ah⟩:=bs Y;refine zg 7 rfl (CM (S6 aa ag) rfl rfl (A7 func98 rfl) ac λap Z ai=>?_);obtain⟨aq,aj,ak⟩:=bs ah;refine zg 1 rfl (CM (S6 (ab.Ag Z) aj) rfl rfl (A7 func98 rfl) ai λar al am=>?_);refine zg 3 rfl ?_;obtain rfl:=oi ak;exact AX func97 rfl rfl (ae (Z.Ad al) rfl ⟨rfl,rfl⟩ am)
def f96(fu_:Nat)(p0:(List Int)×Bool)(K:List Int):Option (((List Int)×Bool)):= Option.bind (if(!p0.2)=true then(some true) else((f97 fu_ K p0.1).bind λO=> some O)) λU=> Option.bind (if U=true then(some (K,true)) else(some p0)) λY=> some Y
theorem Zh{bk:Nat}{a1:Ao}{c2:Nat}{K:Ao}{O:Nat}{p0:(List Int)×Bool}{U:List Int}(ah:Al rI E a1 c2 p0.1)(ai:Al rI E K O U){fu_:Nat}{r:((List Int)×Bool)}(aj:f96 fu_ p0 U=some r):AL J 96 [Aj bk 0,sV K U O,(fV 97)] E [(bk,.cells #[sV a1 p0.1 c2,.bool p0.2] 116 (0,0))] (λw E' B'=>∃(ak:Ao) (al:Nat),w= .tuple #[]/\B'= [(bk,.cells #[sV ak r.1 al,.bool r.2] 116 (0,0))]/\Al rI E' ak al r.1):=by
 refine Bi func96 λQ aO cs H Z ap=>?_;unfold f96 at aj;refine zg 4 rfl (JL.fd underlying116 Je rfl rfl rfl ?_);refine Am (v:= .bool p0.2) rfl (λρ h=>Yl.load Mb (h _ _ rfl) (BL (j:=0) (off:=1) Z rfl rfl)) (Am (v:= .bool (!p0.2)) rfl (λρ h=>Yl.not (h _ _ rfl)) ?_);obtain⟨aq,ar,au⟩:=bs aj;refine zg 1 rfl (Hp [] (λL s=>∃(Y:LH),Jm E H Y [bX bk #[sV a1 p0.1 c2,.bool p0.2] 116] [(0,Aj bk 0),(1,sV K U O),(19,.bool aq)] L s) ?_ ?_)
 ·rintro _ _ ⟨Y,rfl,rfl,ac,am⟩;obtain⟨ae,av,aw⟩:=bs au;refine JL.done (Bq (λL s=>∃(ag:LH) (aa:Ao) (ab:Nat),Jn Y H ag [bX bk #[sV aa ae.1 ab,.bool ae.2] 116] [] L s (Al rI ag aa ab ae.1)) ?_ ?_)
  ·rintro _ _ ⟨ag,aa,ab,rfl,rfl,ay,az,aA⟩;obtain rfl:=oi aw;exact JL.fin (v:= .tuple #[]) rfl rfl (Bx.list func96 rfl (vs:= []) trivial) (ap (ac.Ad ay) rfl ⟨aa,ab,rfl,rfl,aA⟩ az)
  ·intro an;refine CC av (λaB aC=>?_) (λaB aD=>?_)
   ·refine zg 5 rfl (JL.fd underlying116 Dy rfl rfl rfl ?_);refine BB 0 am Dy λaE=>?_;refine zg 1 rfl (JL.fd underlying116 Je rfl rfl rfl ?_);refine BB 0 aE Je λaF=>?_;refine JL.done ?_;obtain rfl:=oi aC;exact AA (an _ _ ⟨Y,K,O,rfl,rfl,Aw,aF,(ai.Ag ac)⟩) rfl
   ·refine JL.skip ?_;obtain rfl:=oi aD;exact AA (an _ _ ⟨Y,a1,c2,rfl,rfl,Aw,am,(ah.Ag ac)⟩) rfl
 ·intro ao;refine Et 11 ar (λaG aH=>?_) (λaG aI=>?_)
  ·refine zg 8 rfl ?_;obtain rfl:=oi aH;exact AA (ao _ _ ⟨E,rfl,rfl,Aw,Z⟩) rfl
  ·refine zg 4 rfl (JL.fd underlying116 Dy rfl rfl rfl ?_);refine Am (v:= sV a1 p0.1 c2) rfl (λρ h=>Yl.load Gc (h _ _ rfl) (BL (j:=0) (off:=0) Z rfl rfl)) ?_;obtain⟨aP,aJ,aK⟩:=bs aI;refine J7 (vs:= [sV K U O,sV a1 p0.1 c2]) (Y9 ai ah aJ) rfl rfl rfl rfl (A7 func97 rfl) rfl Z ?_;rintro _ aL _ aM ⟨rfl,rfl⟩ aN;refine zg 1 rfl ?_;obtain rfl:=oi aK;exact AA (ao _ _ ⟨aL,rfl,rfl,aM,aN⟩) rfl
end Pal
namespace Pal
open Go Go.Conc Go.Proofs
open Go.Proofs.Tryz
variable {J:Judge Tryz.prog}{E:LH}
def M6(fu_:Nat)(p0:List Int)(O:List Int)(p2:Int)(Z:AY)(U:List Int)(rec:(List Int)->(List Int)->Int->AY->((List Int)×Bool)->(List Int)->Option (((List Int)×Bool)))(aa:Int)(K:(List Int)×Bool×Int):Option (Bj ((List Int)×Bool×Int) ((List Int)×Bool)):= if K.2.2<aa then((ix O K.2.2).bind λab=> (ix U ((p0.length:Int))).bind λac=> (Av (ab+ac)).bind λae=> (ix O K.2.2).bind λaj=> (Av (K.2.2+1)).bind λag=> (Dp p0 ([K.2.2]:List Int)).bind λah=> (rec ah (O.set (Int.toNat K.2.2) ae) (max p2 ag) Z (K.1,K.2.1) U).bind λY=> (Av (K.2.2+1)).bind λai=> some (.more (Y.1,Y.2,ai))) else(some (.done (K.1,K.2.1)))
def Kf(rec:(List Int)->(List Int)->Int->AY->((List Int)×Bool)->(List Int)->Option (((List Int)×Bool)))(fu_:Nat)(p0:List Int)(O:List Int)(p2:Int)(U:AY)(K:(List Int)×Bool)(Y:List Int):Option (((List Int)×Bool)):= if(p0.length:Int)=(U.1.length:Int) then(Option.bind (if O=(List.replicate 5 (0:Int)) then((f96 fu_ K p0).bind λZ=> some Z) else(some K)) λaa=> some aa) else((Av (p2+1)).bind λab=> Option.bind (iter (M6 fu_ p0 O p2 U Y rec ab) fu_ (K.1,K.2,0)) λac=> some ac)
theorem Wz{J:Judge Tryz.prog}{rec:(List Int)->(List Int)->Int->AY->((List Int)×Bool)->(List Int)->Option (((List Int)×Bool))}(bu:∀{E:LH} {a1:Ao} {c2:Nat} {w4:Lv_} {an:Nat} {ao:Nat} {aC:Ao} {aD:Nat} {aE:Ao} {aF:Nat} {ac:Nat} {ay:Ao} {az:Nat} {ap:Nat} {aq:Nat} {ar:Nat} {au:Nat} {ai:Nat} {aj:Nat} {aG:Lv_} {ak:Nat} {al:Nat} {p0:List Int} {av:List Int} {p2:Int} {ae:AY} {am:(List Int)×Bool} {aH:List Int} (aI:Al rI E a1 c2 p0) (Z:(rA 5 rI).r E w4 av) (aV:At E an ao [sV aC ae.1 aD,sV aE ae.2 aF]) (bb:Al (rL rI) E aC aD ae.1) (be:Al Ax E aE aF ae.2) (aM:Al rI E ay az am.1) (aW:At E ap aq [.func (.func 96) ([Aj ac 0]:Lv_).toArray #[]]) (aX:At E ar au [(fV 97)]) (aY:At E ai aj (([]:Lv_)++aG)) (aN:(rA 5 rI).r E aG aH) (aZ:At E ak al [.func (.func 99) #[] ([Aj an ao,Aj ap aq,Aj ar au,Aj ai aj,Aj ak al]:Lv_).toArray]) {r:((List Int)×Bool)} (a0:rec p0 av p2 ae am aH=some r),AL J 99 [sV a1 p0 c2,.agg w4.toArray,iV p2,Aj an ao,Aj ap aq,Aj ar au,Aj ai aj,Aj ak al] E [(ac,.cells #[sV ay am.1 az,.bool am.2] 116 (0,0))] (λw E' B'=>∃(aJ:Ao) (aK:Nat),w= .tuple #[]/\B'= [(ac,.cells #[sV aJ r.1 aK,.bool r.2] 116 (0,0))]/\Al rI E' aJ aK r.1)){E:LH}{a1:Ao}{c2:Nat}{w4:Lv_}{an:Nat}{ao:Nat}{aC:Ao}{aD:Nat}{aE:Ao}{aF:Nat}{ac:Nat}{ay:Ao}{az:Nat}{ap:Nat}{aq:Nat}{ar:Nat}{au:Nat}{ai:Nat}{aj:Nat}{aG:Lv_}{ak:Nat}{al:Nat}{p0:List Int}{av:List Int}{p2:Int}{ae:AY}{am:(List Int)×Bool}{aH:List Int}(aI:Al rI E a1 c2 p0)(Z:(rA 5 rI).r E w4 av)(aV:At E an ao [sV aC ae.1 aD,sV aE ae.2 aF])(bb:Al (rL rI) E aC aD ae.1)(be:Al Ax E aE aF ae.2)(aM:Al rI E ay az am.1)(aW:At E ap aq [.func (.func 96) ([Aj ac 0]:Lv_).toArray #[]])(aX:At E ar au [(fV 97)])(aY:At E ai aj (([]:Lv_)++aG))(aN:(rA 5 rI).r E aG aH)(aZ:At E ak al [.func (.func 99) #[] ([Aj an ao,Aj ap aq,Aj ar au,Aj ai aj,Aj ak al]:Lv_).toArray]){fu_:Nat}{r:((List Int)×Bool)}(a0:Kf rec fu_ p0 av p2 ae am aH=some r):AL J 99 [sV a1 p0 c2,.agg w4.toArray,iV p2,Aj an ao,Aj ap aq,Aj ar au,Aj ai aj,Aj ak al] E [(ac,.cells #[sV ay am.1 az,.bool am.2] 116 (0,0))] (λw E' B'=>∃(aJ:Ao) (aK:Nat),w= .tuple #[]/\B'= [(ac,.cells #[sV aJ r.1 aK,.bool r.2] 116 (0,0))]/\Al rI E' aJ aK r.1):=by
 refine Bi func99 λQ cM cs H bv bf=>?_;unfold Kf at a0;refine zg 2 rfl (Dg bv λbw aw K bg a2=>?_);refine zg 5 rfl (JL.ln underlying28 rfl rfl rfl ?_);refine B5 0 (aV.Ag K) underlying25 Fs FM ?_;refine JL.ln underlying22 rfl rfl rfl (zg 2 rfl ?_);refine AS a0 (λbx bz=>?_) (λbx bA=>?_)
 ·refine zg 3 rfl (Am (v:= .agg w4.toArray) rfl (λρ h=>Gu (Rp.Ag _ K Z) GQ Hk (h _ _ rfl) (At.LB (At.tail (l:= []) bg))) ?_);refine Am (v:= .agg (List.replicate 5 (iV 0):Lv_).toArray) rfl (λρ h=>Ol underlying105 Im Az rfl) (Am (v:= .bool (decide (av=(List.replicate 5 (0:Int))))) rfl (λρ h=>Wq (E:=aw) (E':=aw) (ws:=w4) (ws':=(List.replicate 5 (iV 0):Lv_)) (a:=av) (b:=(List.replicate 5 (0:Int))) Se (by decide) (by decide+kernel) (Rp.Ag _ K Z) (EW (E:=aw) (pp:=rI) rfl) (h _ _ rfl) (h _ _ rfl)) ?_);obtain⟨a3,bB,bC⟩:=bs bz;refine JL.done (Bq (λL s=>∃(a4:LH) (aO:Ao) (aP:Nat),Jn aw H a4 [bX ac #[sV aO a3.1 aP,.bool a3.2] 116] [] L s (Al rI a4 aO aP a3.1)) ?_ ?_)
  ·rintro _ _ ⟨a4,aO,aP,rfl,rfl,bD,bE,bF⟩;obtain rfl:=oi bC;exact AX func99 rfl rfl (bf (K.Ad bD) rfl ⟨aO,aP,rfl,(by first | rfl | simp),bF⟩ bE)
  ·intro bh;refine AS bB (λbG bH=>?_) (λbG bI=>?_)
   ·refine JL.region (Ch 0 (aW.Ag K) (Cp underlying117) rfl rfl rfl ?_);refine zg 1 rfl (Ch 0 (aX.Ag K) (Cp underlying44) rfl rfl rfl ?_);obtain⟨cN,bJ,bK⟩:=bs bH;refine IT (vs:= [sV a1 p0 c2,(fV 97)]) 0 (EI.ZQ (first:= [Aj ac 0]) (A7 func96 rfl) (Zh (aM.Ag K) (aI.Ag K) bJ)) rfl rfl rfl rfl rfl a2 rfl ?_
    rintro _ bL _ bM ⟨bN,bO,rfl,rfl,bP⟩ bQ;refine JL.done ?_;obtain rfl:=oi bK;exact AA (bh _ _ ⟨bL,bN,bO,rfl,rfl,bM,bQ,bP⟩) rfl
   ·refine JL.skip ?_;obtain rfl:=oi bI;exact AA (bh _ _ ⟨aw,ay,az,rfl,rfl,Aw,a2,(aM.Ag K)⟩) rfl
 ·obtain⟨bR,bS,bT⟩:=bs bA;refine zg 4 rfl (Bm bS rfl rfl rfl ?_);obtain⟨a5,bU,bV⟩:=bs bT;refine zg 2 rfl (Bq (λL s=>∃(a6:LH) (aQ:Ao) (aR:Nat),Jn aw H a6 [bX ac #[sV aQ a5.1 aR,.bool a5.2] 116] [] L s (Al rI a6 aQ aR a5.1)) ?_ ?_)
  ·rintro _ _ ⟨a6,aQ,aR,rfl,rfl,bW,bY,bZ⟩;obtain rfl:=oi bV;exact JL.fin (v:= .tuple #[]) rfl rfl (Bx.list func99 rfl (vs:= []) trivial) (bf (K.Ad bW) rfl ⟨aQ,aR,rfl,(by first | rfl | simp),bZ⟩ bY)
  ·intro b0;refine JL.block (Cj bU (λL s aa=>∃(aA:LH) (aS:Ao) (aT:Nat),Jn aw H aA [bX ac #[sV aS aa.1 aT,.bool aa.2.1] 116] [(0,sV a1 p0 c2),(2,iV p2),(6,Aj ai aj),(7,Aj ak al),(9,Aj bw 0),(27,iV bR),(28,iV aa.2.2)] L s (Al rI aA aS aT aa.1)) ⟨aw,ay,az,rfl,rfl,Aw,a2,(aM.Ag K)⟩ ?_);rintro _ _ aa ⟨aA,aS,aT,rfl,rfl,O,bi,bj⟩ b1 ⟨cO,a7⟩ b2;have bl:=a7;unfold M6 at bl;refine zg 5 rfl (AS bl (λb3 b4=>?_) (λb3 b5=>?_))
   ·refine zg 10 rfl (Am (v:= .agg w4.toArray) rfl (λρ h=>Gu (Rp.Ag _ (K.Ad O) Z) GQ Hk (h _ _ rfl) (At.LB (At.tail (l:= []) (bg.Ag O)))) ?_);refine BI bi Im λa8 b6=>?_;refine Gd (v:= .agg w4.toArray) (l:= []) (ws:=(List.replicate 5 (iV 0):Lv_)) (us:=w4) (o:=0) 1 rfl rfl rfl b6 rfl rfl rfl (by rw [BO (kk:=5) (pp:=rI) (Rp.Ag _ (K.Ad O) Z)];exact AQ type105) ((rA 5 rI).one (Rp.Ag _ (K.Ad O) Z)) rfl (by rw [BO (kk:=5) (pp:=rI) (Rp.Ag _ (K.Ad O) Z),BO (kk:=5) (pp:=rI) (EW (E:=aA) (pp:=rI) rfl)];omega) λaL=>?_;rw [Iq (by rw [BO (kk:=5) (pp:=rI) (Rp.Ag _ (K.Ad O) Z),BO (kk:=5) (pp:=rI) (EW (E:=aA) (pp:=rI) rfl)])] at aL ⊢;refine zg 2 rfl (EY 7 [a8] ⟨⟨1,_,rfl⟩,trivial⟩ aL λU=>?_);refine C5 0 U rfl rfl ?_;obtain⟨b7,bm,b8⟩:=bs b4;obtain⟨_,rfl,_,_,b9⟩:=Gt (kk:=5) (pp:=rI) (Rp.Ag _ (K.Ad O) Z) bm;refine AK (v:= .pointer (some ⟨a8,0+Int.toNat (aa.2.2)*1,none⟩)) 1 U rfl rfl (λρ h s' ag=>Ho (kk:=5) (pp:=rI) (Rp.Ag _ (K.Ad O) Z) bm underlying105 Az (h _ _ rfl) (h _ _ rfl)) (AK (v:=iV b7) 2 U rfl rfl (λρ h s' ag=>Yl.load A4 (h _ _ rfl) (Lh (l:= []) 1 aL rfl (by simp [AT]) ag (b9 0 _ rfl))) ?_);refine C5 3 U rfl rfl (AK 4 U rfl rfl (λρ h s' ag=>Yl.len rfl underlying28 (h _ _ rfl)) ?_);obtain⟨cP,bn,ca⟩:=bs b8;obtain⟨_,rfl,cb,_,_⟩:=S9 (kk:=5) (pp:=rI) (Rp.Ag _ (K.Ad O) aN) (At.tail (l:= []) (aY.Ag (K.Ad O))) bn;refine AK (v:= .pointer (some ⟨ai,(aj+0+Int.toNat ((p0.length:Int))*1),none⟩)) 5 U rfl rfl (λρ h s' ag=>Ho (kk:=5) (pp:=rI) (Rp.Ag _ (K.Ad O) aN) bn underlying105 Az (h _ _ rfl) (h _ _ rfl)) (JG.lp 6 U 0 cb aL ⟨⟨1,_,rfl⟩,trivial⟩ A4 ?_);refine Dd [7,8,9] ?_;obtain⟨aB,cc,cd⟩:=bs ca;refine Bm cc rfl rfl rfl ?_;obtain⟨cQ,a9,ce⟩:=bs cd;obtain⟨_,rfl,_,_,cR⟩:=Gt (kk:=5) (pp:=rI) (Rp.Ag _ (K.Ad O) Z) a9;refine Am (v:= .pointer (some ⟨a8,0+Int.toNat (aa.2.2)*1,none⟩)) rfl (λρ h=>Ho (kk:=5) (pp:=rI) (Rp.Ag _ (K.Ad O) Z) a9 underlying105 Az (h _ _ rfl) (h _ _ rfl)) ?_;have aU:=LD (us:= [iV aB]) (y:=aB) (Rp.Ag _ (K.Ad O) Z) a9 rfl;refine Gd (v:=iV aB) (l:= []) (ws:=w4) (us:= [iV aB]) (o:=Int.toNat (aa.2.2)*1) 1 rfl rfl rfl aL rfl rfl rfl Az (by simp [Value.cells,CU]) rfl aU.2 λbo=>?_;replace aU:=aU.1;generalize cf:HD w4 (Int.toNat (aa.2.2)*1) [iV aB]=ba at bo ⊢;have bp:(rA 5 rI).r aA ba (av.set (Int.toNat aa.2.2) aB):=by rw [← cf];exact aU
    refine JL.done (CP 1 bo rfl λcT Y cg ci=>?_);refine EX 15 λU=>Eu 0 U 0 (aZ.Ag ((K.Ad O).Ad Y)) (Cp underlying119) rfl rfl rfl rfl (Ba U rfl [1,2] rfl ?_);refine AK 3 U rfl rfl (λρ h s' ag=>Yl.len rfl underlying28 (h _ _ rfl)) (C5 4 U rfl rfl ?_);refine AK 5 U rfl rfl (λρ h s' ag=>Yl.len rfl underlying28 (h _ _ rfl)) (AK (v:= .slice a1 p0.length p0.length) 6 U rfl rfl (λρ h s' ag=>N2 (Al.spot (aI.Ag ((K.Ad O).Ad Y))) (And.left (aI.Ag ((K.Ad O).Ad Y))) underlying28 Az (h _ _ rfl) (h _ _ rfl) (h _ _ rfl)) ?_);refine C5 7 U rfl rfl (AK (v:= .agg ba.toArray) 10 U rfl rfl (λρ h s' ag=>Gu (Rp.Ag _ Y bp) GQ Hk (h _ _ rfl) (At.SB (At.tail (l:= []) cg) ag)) ?_);refine Ba U rfl [11,12] rfl ?_;obtain⟨bq,ck,cm⟩:=bs ce;refine AK 13 U rfl rfl (λρ h s' ag=>Ff (h _ _ rfl) (h _ _ rfl) ck) (AK (v:=iV (max p2 bq)) 14 U rfl rfl (λρ h s' ag=>Yl.max2 (h _ _ rfl) (h _ _ rfl)) ?_);obtain⟨cn,co,cp⟩:=bs cm;refine JG.one (i:=8) rfl (by decide+kernel) (Take.EH (pp:=rI) [iV aa.2.2] ([aa.2.2]:List Int) ci rfl rfl rfl underlying28 Az Cd (by decide) rfl rfl rfl ⟨rfl,trivial⟩ λcV cW cq cr=>?_);refine FP 2 cq cr rfl λcX ab ct cu=>JG.one (i:=9) rfl (by decide+kernel) (Take.Oq (q:=rI) co rfl rfl rfl rfl rfl rfl rfl underlying28 underlying28 Az (C4 type3) Cd rfl (by decide) (by decide) (aI.Ag (((K.Ad O).Ad Y).Ad ab)) ct cu λcY cv cw ah cy cz=>?_);refine Dd [15] ?_;obtain⟨br,cA,cB⟩:=bs cp;refine IT (vs:= [sV cv cn cw,.agg ba.toArray,iV (max p2 bq)]) 0 (EI.ofFn (caps:= [Aj an ao,Aj ap aq,Aj ar au,Aj ai aj,Aj ak al]) (A7 func99 rfl) (bu cy (Rp.Ag _ ((Y.Ad ab).Ad ah) bp) (aV.Ag ((((K.Ad O).Ad Y).Ad ab).Ad ah)) (bb.Ag ((((K.Ad O).Ad Y).Ad ab).Ad ah)) (be.Ag ((((K.Ad O).Ad Y).Ad ab).Ad ah)) (bj.Ag ((Y.Ad ab).Ad ah)) (aW.Ag ((((K.Ad O).Ad Y).Ad ab).Ad ah)) (aX.Ag ((((K.Ad O).Ad Y).Ad ab).Ad ah)) (aY.Ag ((((K.Ad O).Ad Y).Ad ab).Ad ah)) (Rp.Ag _ ((((K.Ad O).Ad Y).Ad ab).Ad ah) aN) (aZ.Ag ((((K.Ad O).Ad Y).Ad ab).Ad ah)) cA)) rfl rfl rfl rfl rfl cz rfl ?_;rintro _ cC _ cD ⟨cE,cF,rfl,rfl,cG⟩ cH;obtain⟨cI,cJ,cK⟩:=bs cB;refine zg 3 rfl (Bm cJ rfl rfl rfl ?_);refine zg 2 rfl ?_;obtain rfl:=oi cK;exact AA (b2 _ _ (br.1,br.2,cI) ⟨cC,cE,cF,rfl,rfl,((((O.Ad Y).Ad ab).Ad ah).Ad cD),cH,cG⟩ a7) rfl
   ·refine JL.exit rfl ?_;obtain rfl:=oi b5;obtain rfl:=b1 _ a7;exact AA (b0 _ _ ⟨aA,aS,aT,rfl,rfl,O,bi,bj⟩) rfl
def KY:Nat->Nat->(List Int)->(List Int)->Int->AY->((List Int)×Bool)->(List Int)->Option (((List Int)×Bool))
 | 0,_=>λ_ _ _ _ _ _=>none
 | n+1,fu_=>λp0 K p2 O U Y=>Kf (KY n fu_) fu_ p0 K p2 O U Y
theorem WM{J:Judge Tryz.prog}{n fu_:Nat}:∀{E:LH} {a1:Ao} {c2:Nat} {w4:Lv_} {U:Nat} {Y:Nat} {al:Ao} {am:Nat} {an:Ao} {ao:Nat} {Z:Nat} {ap:Ao} {aq:Nat} {aa:Nat} {ab:Nat} {ac:Nat} {ae:Nat} {ag:Nat} {ah:Nat} {ar:Lv_} {ai:Nat} {aj:Nat} {p0:List Int} {au:List Int} {p2:Int} {K:AY} {O:(List Int)×Bool} {av:List Int} (aw:Al rI E a1 c2 p0) (ay:(rA 5 rI).r E w4 au) (az:At E U Y [sV al K.1 am,sV an K.2 ao]) (aA:Al (rL rI) E al am K.1) (aB:Al Ax E an ao K.2) (aC:Al rI E ap aq O.1) (aD:At E aa ab [.func (.func 96) ([Aj Z 0]:Lv_).toArray #[]]) (aE:At E ac ae [(fV 97)]) (aF:At E ag ah (([]:Lv_)++ar)) (aG:(rA 5 rI).r E ar av) (aH:At E ai aj [.func (.func 99) #[] ([Aj U Y,Aj aa ab,Aj ac ae,Aj ag ah,Aj ai aj]:Lv_).toArray]) {r:((List Int)×Bool)} (ak:KY n fu_ p0 au p2 K O av=some r),AL J 99 [sV a1 p0 c2,.agg w4.toArray,iV p2,Aj U Y,Aj aa ab,Aj ac ae,Aj ag ah,Aj ai aj] E [(Z,.cells #[sV ap O.1 aq,.bool O.2] 116 (0,0))] (λw E' B'=>∃(aI:Ao) (aJ:Nat),w= .tuple #[]/\B'= [(Z,.cells #[sV aI r.1 aJ,.bool r.2] 116 (0,0))]/\Al rI E' aI aJ r.1):=by
 induction n with
 | zero=>intros;rename_i ak;cases ak
 | succ n aK=>intro E a1 c2 w4 U Y al am an ao Z ap aq aa ab ac ae ag ah ar ai aj p0 au p2 K O av aw ay az aA aB aC aD aE aF aG aH r ak;exact Wz aK aw ay az aA aB aC aD aE aF aG aH ak
def f99(fu_:Nat)(p0:List Int)(K:List Int)(p2:Int)(O:AY)(U:(List Int)×Bool)(Y:List Int):Option (((List Int)×Bool)):=KY fu_ fu_ p0 K p2 O U Y
theorem Zc{a1:Ao}{c2:Nat}{w4:Lv_}{U:Nat}{Y:Nat}{ak:Ao}{al:Nat}{am:Ao}{an:Nat}{Z:Nat}{ao:Ao}{ap:Nat}{aa:Nat}{ab:Nat}{ac:Nat}{ae:Nat}{ag:Nat}{ah:Nat}{aq:Lv_}{ai:Nat}{aj:Nat}{p0:List Int}{ar:List Int}{p2:Int}{K:AY}{O:(List Int)×Bool}{au:List Int}(ay:Al rI E a1 c2 p0)(az:(rA 5 rI).r E w4 ar)(aA:At E U Y [sV ak K.1 al,sV am K.2 an])(aB:Al (rL rI) E ak al K.1)(aC:Al Ax E am an K.2)(aD:Al rI E ao ap O.1)(aE:At E aa ab [.func (.func 96) ([Aj Z 0]:Lv_).toArray #[]])(aF:At E ac ae [(fV 97)])(aG:At E ag ah (([]:Lv_)++aq))(aH:(rA 5 rI).r E aq au)(aI:At E ai aj [.func (.func 99) #[] ([Aj U Y,Aj aa ab,Aj ac ae,Aj ag ah,Aj ai aj]:Lv_).toArray]){fu_:Nat}{r:((List Int)×Bool)}(aJ:f99 fu_ p0 ar p2 K O au=some r):AL J 99 [sV a1 p0 c2,.agg w4.toArray,iV p2,Aj U Y,Aj aa ab,Aj ac ae,Aj ag ah,Aj ai aj] E [(Z,.cells #[sV ao O.1 ap,.bool O.2] 116 (0,0))] (λw E' B'=>∃(av:Ao) (aw:Nat),w= .tuple #[]/\B'= [(Z,.cells #[sV av r.1 aw,.bool r.2] 116 (0,0))]/\Al rI E' av aw r.1):=WM ay az aA aB aC aD aE aF aG aH aI aJ
def f52(fu_:Nat)(p0:AY):Option ((List Int)×Int):= (f70 fu_ p0 ([])).bind λK=> if K.2≠0 then(some ([],K.2)) else((f84 fu_ K.1).bind λO=> (f99 fu_ ([]) (List.replicate 5 (0:Int)) 0 p0 ([],false) O).bind λU=> some (U.1,0))
theorem Zl{a1:Ao}{c2:Nat}{an:Ao}{ao:Nat}{p0:AY}(ap:Al (rL rI) E a1 c2 p0.1)(aq:Al Ax E an ao p0.2){fu_:Nat}{r:(List Int)×Int}(ar:f52 fu_ p0=some r):AL J 52 [.agg #[sV a1 p0.1 c2,sV an p0.2 ao]] E [] (λw E' B'=>∃(au:Ao) (av:Nat),w= .tuple #[sV au r.1 av,iV r.2]/\B'= []/\Al rI E' au av r.1):=by
 refine Bi func52 λQ bx cs H aH aw=>?_;unfold f52 at ar;refine zg 2 rfl (Dg aH λay bz Y az aI=>?_);refine zg 5 rfl (Cw az FN Db rfl rfl ?_);obtain⟨bA,aJ,aK⟩:=bs ar;refine BT (Kc (ap.Ag Y) (aq.Ag Y) Al.nil aJ) rfl rfl JV aI ?_;rintro _ bB _ ac ⟨bC,bD,bE,bF,rfl,rfl,aL,aM⟩ aN;refine zg 3 rfl (BI aN Hj λaO aP=>?_);refine Bt (S':= [[],[],[],[(aO,.cells #[nS,nS] 77 (0,0))]]) rfl aP λaQ=>BB 3 aQ Dl λaR=>?_;refine CP 3 aR rfl λbG O aS aA=>zg 8 rfl (AS aK (λaT aU=>?_) (λaT aV=>?_))
 ·refine zg 6 rfl ?_;obtain rfl:=oi aU;exact AX func52 rfl rfl (aw ((Y.Ad ac).Ad O) rfl ⟨none,0,rfl,(by first | rfl | simp),Al.nil⟩ aA)
 ·refine zg 3 rfl (Cw aS FL Dl rfl rfl ?_);obtain⟨bH,aW,aX⟩:=bs aV;refine BT (Ni (aL.Ag O) (aM.Ag O) aW) rfl rfl Mg aA ?_;rintro _ aB _ ai ⟨ae,rfl,rfl,ag⟩ aY;refine BI aY Im λZ aZ=>?_;refine Bt (S':= [[],[],[],[],[],[(Z,.cells (([]:Lv_)++(List.replicate 5 (iV 0):Lv_)).toArray 105 (0,0))]]) rfl aZ λa0=>Gd (v:= .agg ae.toArray) (l:= []) (ws:=(List.replicate 5 (iV 0):Lv_)) (us:=ae) (o:=0) 5 rfl rfl rfl a0 rfl rfl rfl (by rw [BO (kk:=5) (pp:=rI) ag];exact AQ type105) ((rA 5 rI).one ag) rfl (by rw [BO (kk:=5) (pp:=rI) ag,BO (kk:=5) (pp:=rI) (EW (E:=aB) (pp:=rI) rfl)];omega) λaC=>?_;rw [Iq (by rw [BO (kk:=5) (pp:=rI) ag,BO (kk:=5) (pp:=rI) (EW (E:=aB) (pp:=rI) rfl)])] at aC ⊢;refine Bt (S':= [[],[],[],[],[],[(Z,.cells (([]:Lv_)++ae).toArray 105 (0,0))]]) rfl aC λa2=>zg 3 rfl (BI a2 (CQ type116) λaa a3=>?_);refine zg 3 rfl (Am (v:= .func (.func 96) ([Aj aa 0]:Lv_).toArray #[]) rfl (λρ h=>Ji (by simp [h (.tmp 7) _ rfl]) (by simp)) ?_);refine BI a3 (CQ type117) λaj a4=>?_;refine Bt (S':= [[],[],[],[],[],[(Z,.cells (([]:Lv_)++ae).toArray 105 (0,0))],[(aa,.cells #[nS,.bool false] 116 (0,0))],[(aj,.cells #[.nilFunc] 117 (0,0))]]) rfl a4 λa5=>BB 7 a5 (AQ type117) λa6=>?_;refine CP 7 a6 rfl λbI ah a7 a8=>zg 3 rfl (BI a8 (CQ type44) λaD a9=>?_);refine BB 8 a9 (AQ type44) λba=>?_;refine CP 8 ba rfl λbJ ab bb be=>Bt (S':= [[],[],[],[],[],[(Z,.cells (([]:Lv_)++ae).toArray 105 (0,0))],[(aa,.cells #[nS,.bool false] 116 (0,0))],[],[]]) rfl be λbf=>zg 3 rfl (BI bf (CQ type119) λaE bg=>?_);refine zg 2 rfl (CP 5 bg rfl λbK U bh bi=>?_);refine JL.region (Am (v:= .func (.func 99) #[] ([Aj ay 0,Aj aj 0,Aj aD 0,Aj Z 0,Aj aE 0]:Lv_).toArray) rfl (λρ h=>Ji (by simp) (by simp [h (.tmp 1) _ rfl,h (.tmp 8) _ rfl,h (.tmp 9) _ rfl,h (.tmp 6) _ rfl,h (.tmp 10) _ rfl])) ?_);refine BB 9 bi (AQ type119) λbj=>?_;refine CP 9 bj rfl λbl K aF bm=>Bt (S':= [[],[],[],[],[],[],[(aa,.cells #[nS,.bool false] 116 (0,0))],[],[],[]]) rfl bm λbn=>zg 3 rfl (Ch 0 aF (Cp underlying119) rfl rfl rfl ?_);refine Am (v:= .agg (List.replicate 5 (iV 0):Lv_).toArray) rfl (λρ h=>Ol underlying105 Im Az rfl) ?_;obtain⟨ak,bo,bp⟩:=bs aX;refine Bt (S':= [[],[],[],[],[],[],[(aa,.cells #[nS,.bool false] 116 (0,0))],[],[],[]]) rfl bn λbq=>IT (vs:= [nS,.agg (List.replicate 5 (iV 0):Lv_).toArray,iV 0]) 6 (EI.ofFn (caps:= [Aj ay 0,Aj aj 0,Aj aD 0,Aj Z 0,Aj aE 0]) (A7 func99 rfl) (Zc Al.nil (EW (E:=bl) (pp:=rI) rfl) (az.Ag ((((((ac.Ad O).Ad ai).Ad ah).Ad ab).Ad U).Ad K)) (ap.Ag (((((((Y.Ad ac).Ad O).Ad ai).Ad ah).Ad ab).Ad U).Ad K)) (aq.Ag (((((((Y.Ad ac).Ad O).Ad ai).Ad ah).Ad ab).Ad U).Ad K)) Al.nil (a7.Ag ((ab.Ad U).Ad K)) (bb.Ag (U.Ad K)) (bh.Ag K) (Rp.Ag _ (((ah.Ad ab).Ad U).Ad K) ag) aF bo)) rfl rfl rfl rfl rfl bq rfl ?_;rintro _ bL _ br ⟨al,am,rfl,rfl,bu⟩ bv;refine Bt (S':= [[],[],[],[],[],[],[(aa,.cells #[sV al ak.1 am,.bool ak.2] 116 (0,0))],[],[],[]]) rfl bv λaG=>zg 3 rfl (JL.fd underlying116 Dy rfl rfl rfl ?_);refine Am (v:= sV al ak.1 am) rfl (λρ h=>Yl.load Gc (h _ _ rfl) (BL (j:=6) (off:=0) aG rfl rfl)) (zg 3 rfl ?_);refine JS.drop 6 aG rfl λbw=>?_;obtain rfl:=oi bp;exact AX func52 rfl rfl (aw ((((((((Y.Ad ac).Ad O).Ad ai).Ad ah).Ad ab).Ad U).Ad K).Ad br) rfl ⟨al,am,rfl,(by first | rfl | simp),bu⟩ bw)
end Pal
namespace Pal
open Go Go.Conc Go.Proofs
open Go.Proofs.Tryz
variable {J:Judge Tryz.prog}{E:LH}
def LS(fu_:Nat)(p0:List Int):Option ((List Int)):= (Dp ([]:List Int) p0).bind λK=> some K
theorem Wt{a1:Ao}{c2:Nat}{p0:List Int}(Y:Al rI E a1 c2 p0){fu_:Nat}{r:(List Int)}(K:LS fu_ p0=some r):AL J 104 [sV a1 p0 c2] E [] (λw E' B'=>∃(O:Ao) (U:Nat) (g0:Seg),w= sV O r U/\B'=g0/\OL 3 rI E' O U g0 r):=by
 refine Bi func104 λQ am cs H Z aa=>?_;unfold LS at K;refine zg 6 rfl (Oz (pp:=rI) rfl rfl rfl underlying28 Az Z λan ao ab ac=>?_);obtain⟨ap,ae,ag⟩:=bs K;refine zg 1 rfl (IW (pp:=rI) 1 ae rfl rfl rfl rfl rfl rfl rfl underlying28 underlying28 Az (C4 type3) Cd rfl (by decide) (by decide) ab Y ac rfl λah ai aj ak al=>?_);refine zg 2 rfl ?_;obtain rfl:=oi ag;exact AX func104 rfl rfl (aa Aw rfl ⟨ah,ai,aj,rfl,(by first | rfl | simp | (simp [Value.cells])),ak⟩ al)
def Lw(fu_:Nat)(O:A1×Int)(U:A1×Int)(K:Int×Int):Option (Bj (Int×Int) Int):= if K.2<O.2 then((ix O.1 U.2).bind λY=> (ix Y K.2).bind λZ=> (Av (K.2+1)).bind λaa=> some (.more (max K.1 Z,aa))) else(some (.done K.1))
def Lz(fu_:Nat)(O:A1×Int)(U:A1×Int)(Y:Int)(K:A1×Int):Option (Bj (A1×Int) (A1)):= (Av (Y+1)).bind λZ=> if K.2<=Z then((ix O.1 U.2).bind λaa=> (LS fu_ aa).bind λab=> (room ab K.2).bind λac=> (room K.1 ac).bind λae=> (Av (K.2+1)).bind λag=> some (.more (ae,ag))) else(some (.done K.1))
def MZ(fu_:Nat)(O:A1×Int)(K:A1×Int):Option (Bj (A1×Int) (A1)):= if K.2<(O.1.length:Int) then(Option.bind (iter (Lw fu_ O K) fu_ ((-1),0)) λU=> Option.bind (iter (Lz fu_ O K U) fu_ (K.1,0)) λY=> (Av (K.2+1)).bind λZ=> some (.more (Y,Z))) else(some (.done K.1))
def M5(fu_:Nat)(p0:Int)(K:A1×Int):Option (Bj (A1×Int) (A1)):= if K.2<p0 then(Option.bind (iter (MZ fu_ K) fu_ ([],0)) λO=> (Av (K.2+1)).bind λU=> some (.more (O,U))) else(some (.done K.1))
def f56(fu_:Nat)(p0:Int):Option (A1):= Option.bind (iter (M5 fu_ p0) fu_ (([[]]:A1),0)) λK=> some K
theorem Zs{p0:Int}{fu_:Nat}{r:A1}(aQ:f56 fu_ p0=some r):AL J 56 [iV p0] E [] (λw E' B'=>∃(aR:Ao) (aS:Nat),w= sV aR r aS/\B'= []/\Al (rL rI) E' aR aS r):=by
 refine Bi func56 λQ c5 cs H a7 a8=>?_;unfold f56 at aQ;refine zg 6 rfl (Fx (pp:=(rL rI)) [nS] [[]] rfl rfl rfl underlying22 Dy JW (by decide) rfl rfl rfl ⟨⟨_,_,rfl,Al.nil⟩,trivial⟩ a7 λr1 g2 a9 ba=>?_);obtain⟨aT,bb,be⟩:=bs aQ;refine zg 7 rfl (Bq (λL s=>∃(aB:LH) (ak:Ao) (al:Nat) (aC:Seg),Jn E H aB [aC] [(3,sV ak aT al)] L s (OL 28 (rL rI) aB ak al aC aT)) ?_ ?_)
 ·rintro _ _ ⟨aB,ak,al,aC,rfl,rfl,bf,bg,bh⟩;refine zg 5 rfl (B8 0 bh bg rfl λc6 bi bj bl=>?_);obtain rfl:=oi be;exact AX func56 rfl rfl (a8 (bf.Ad bi) rfl ⟨ak,al,rfl,rfl,bj⟩ bl)
 ·intro bm;refine JL.block (Cj bb (λL s K=>∃(aa:LH) (U:Ao) (Y:Nat) (Z:Seg),Jn E H aa [Z] [(0,iV p0),(3,sV U K.1 Y),(4,iV K.2)] L s (OL 28 (rL rI) aa U Y Z K.1)) ⟨E,(AP r1),1,g2,rfl,rfl,Aw,ba,a9⟩ ?_);rintro _ _ K ⟨aa,U,Y,Z,rfl,rfl,aU,aV,aD⟩ bn ⟨c7,aE⟩ bo;have aW:=aE;unfold M5 at aW;refine zg 7 rfl (AS aW (λbp bq=>?_) (λbp br=>?_))
  ·obtain⟨aF,bu,bv⟩:=bs bq;refine zg 12 rfl (Bq (λL s=>∃(am:LH) (an:Ao) (ao:Nat) (ap:Seg),Jn aa H am [ap] [(0,iV p0),(4,iV K.2),(5,sV an aF ao)] L s (OL 28 (rL rI) am an ao ap aF)) ?_ ?_)
   ·rintro _ _ ⟨am,an,ao,ap,rfl,rfl,bw,bx,bz⟩;obtain⟨bA,bB,bC⟩:=bs bv;refine zg 7 rfl (Bm bB rfl rfl rfl ?_);refine zg 2 rfl ?_;obtain rfl:=oi bC;exact AA (bo _ _ (aF,bA) ⟨am,an,ao,ap,rfl,rfl,(aU.Ad bw),bx,bz⟩ aE) rfl
   ·intro bD;refine JL.block (Cj bu (λL s O=>∃(aq:LH) (ab:Ao) (ac:Nat) (ae:Seg),Jn aa H aq [Z,ae] [(0,iV p0),(3,sV U K.1 Y),(4,iV K.2),(5,sV ab O.1 ac),(6,iV O.2)] L s (OL 28 (rL rI) aq ab ac ae O.1)) ⟨aa,none,0,[],rfl,rfl,Aw,aV,OL.nil⟩ ?_);rintro _ _ O ⟨aq,ab,ac,ae,rfl,rfl,ar,aX,aY⟩ bE ⟨c8,aG⟩ bF;have aZ:=aG;unfold MZ at aZ;refine zg 5 rfl (JL.ln underlying22 rfl rfl rfl ?_);refine zg 2 rfl (AS aZ (λbG bH=>?_) (λbG bI=>?_))
    ·obtain⟨a0,bJ,bK⟩:=bs bH;refine zg 12 rfl (DF [Z,ae] [(0,iV p0),(3,sV U K.1 Y),(4,iV K.2),(5,sV ab O.1 ac),(6,iV O.2),(7,iV a0)] (λaH aI bL=>?_) (λbM=>?_))
     ·obtain⟨aJ,bN,bO⟩:=bs bK;refine zg 4 rfl (Bq (λL s=>∃(au:LH) (av:Ao) (aw:Nat) (ay:Seg),Jn aH H au [Z,ay] [(0,iV p0),(3,sV U K.1 Y),(4,iV K.2),(5,sV av aJ aw),(6,iV O.2)] L s (OL 28 (rL rI) au av aw ay aJ)) ?_ ?_)
      ·rintro _ _ ⟨au,av,aw,ay,rfl,rfl,bP,bQ,bR⟩;obtain⟨bS,bT,bU⟩:=bs bO;refine zg 3 rfl (Bm bT rfl rfl rfl ?_);refine zg 2 rfl ?_;obtain rfl:=oi bU;exact AA (bF _ _ (aJ,bS) ⟨au,av,aw,ay,rfl,rfl,((ar.Ad aI).Ad bP),bQ,bR⟩ aG) rfl
      ·intro bV;refine JL.block (Cj bN (λL s ah=>∃(az:LH) (ai:Ao) (aj:Nat) (aA:Seg),Jn aH H az [Z,aA] [(0,iV p0),(3,sV U K.1 Y),(4,iV K.2),(5,sV ai ah.1 aj),(6,iV O.2),(7,iV a0),(9,iV ah.2)] L s (OL 28 (rL rI) az ai aj aA ah.1)) ⟨aH,ab,ac,ae,rfl,rfl,Aw,bL,(aY.Ag aI)⟩ ?_);rintro _ _ ah ⟨az,ai,aj,aA,rfl,rfl,aK,aL,a1⟩ bW ⟨c9,aM⟩ bY;have a2:=aM;unfold Lz at a2;obtain⟨da,bZ,b0⟩:=bs a2;refine zg 5 rfl (Bm bZ rfl rfl rfl ?_);refine zg 2 rfl (AS b0 (λb1 b2=>?_) (λb1 b3=>?_))
       ·obtain⟨b4,b5,b6⟩:=bs b2;refine zg 7 rfl (KM 0 (aD.Ag ((ar.Ad aI).Ad aK)) b5 rfl rfl rfl rfl rfl rfl underlying22 Dy ?_);rintro db dc f155 _ b7 ⟨b8,b9,rfl,ca⟩ cb dd de df dg;refine Am (v:= sV b8 b4 b9) rfl (λρ h=>Yl.load Gc (h _ _ rfl) (BL (j:=0) aL b7 (cb 0 _ rfl))) ?_;obtain⟨dh,cc,cd⟩:=bs b6;refine BT (Wt ca cc) rfl rfl (A7 func104 rfl) aL ?_;rintro _ di dj a3 ⟨ce,cf,_,rfl,rfl,cg⟩ ci;obtain⟨ck,cm,cn⟩:=bs cd;refine zg 1 rfl (JS.app (pp:=rI) (v:=iV ah.2) (a:=ce) (c:=cf) 2 cm rfl rfl rfl rfl (λ_=>rfl) rfl (λ_=>rfl) rfl rfl rfl underlying28 underlying28 underlying28 Az (C4 type3) Cd rfl (by decide) (by decide) (by decide) (by decide) cg rfl ci rfl λdk co cp dn cq cr=>?_);refine B8 2 cq cr rfl λct a4 cu cv=>?_;obtain⟨cw,cy,cz⟩:=bs cn;refine JS.app (pp:=(rL rI)) (v:= sV co ck cp) (a:=ai) (c:=aj) 1 cy rfl rfl rfl rfl (λ_=>rfl) rfl (λ_=>rfl) rfl rfl rfl underlying22 underlying22 underlying22 Dy (C4 type28) JW rfl (by decide) (by decide) (by decide) (by decide) (a1.Ag (a3.Ad a4)) ⟨_,_,rfl,cu⟩ cv rfl λdp cA cB cC cD cE=>?_;obtain⟨cF,cG,cH⟩:=bs cz;refine zg 5 rfl (Bm cG rfl rfl rfl ?_);refine zg 2 rfl ?_;obtain rfl:=oi cH;exact AA (bY _ _ (cw,cF) ⟨ct,cA,cB,cC,rfl,rfl,((aK.Ad a3).Ad a4),cE,cD⟩ aM) rfl
       ·refine JL.exit rfl ?_;obtain rfl:=oi b3;obtain rfl:=bW _ aM;exact AA (bV _ _ ⟨az,ai,aj,aA,rfl,rfl,aK,aL,a1⟩) rfl
     ·refine JL.block (Dh bJ (λag=> [Z,ae]) (λag=> [(0,iV p0),(3,sV U K.1 Y),(4,iV K.2),(5,sV ab O.1 ac),(6,iV O.2),(7,iV ag.1),(8,iV ag.2)]) Aw aX ?_);rintro ag dq aN aO cI ⟨dr,aP⟩ cJ;have a5:=aP;unfold Lw at a5;refine zg 7 rfl (AS a5 (λcK cM=>?_) (λcK cN=>?_))
      ·obtain⟨cO,cP,cQ⟩:=bs cM;refine zg 7 rfl (KM 0 (aD.Ag (ar.Ad aN)) cP rfl rfl rfl rfl rfl rfl underlying22 Dy ?_);rintro dt du f218 _ cR ⟨cT,cV,rfl,cW⟩ cX dv dw dx dy;refine Am (v:= sV cT cO cV) rfl (λρ h=>Yl.load Gc (h _ _ rfl) (BL (j:=0) aO cR (cX 0 _ rfl))) ?_;obtain⟨a6,cY,cZ⟩:=bs cQ;refine zg 1 rfl (JS.ix cW cY underlying28 Az ?_);rintro dz dA _ rfl c0;refine Ch 0 c0 A4 rfl rfl rfl (Am (v:=iV (max ag.1 a6)) rfl (λρ h=>Yl.max2 (h _ _ rfl) (h _ _ rfl)) ?_);obtain⟨c1,c2,c3⟩:=bs cZ;refine zg 5 rfl (Bm c2 rfl rfl rfl ?_);refine zg 2 rfl ?_;obtain rfl:=oi c3;exact cJ (max ag.1 a6,c1) aN aO rfl aP
      ·refine JL.exit rfl ?_;obtain rfl:=oi cN;obtain rfl:=cI _ aP;exact bM aN aO rfl
    ·refine JL.exit rfl (JS.drop 0 aX rfl λc4=>?_);obtain rfl:=oi bI;obtain rfl:=bE _ aG;exact AA (bD _ _ ⟨aq,ab,ac,ae,rfl,rfl,ar,c4,aY⟩) rfl
  ·refine JL.exit rfl ?_;obtain rfl:=oi br;obtain rfl:=bn _ aE;exact AA (bm _ _ ⟨aa,U,Y,Z,rfl,rfl,aU,aV,aD⟩) rfl
end Pal
set_option autoImplicit false
open Go
namespace Pal
theorem Al.LV{P:Program}{E:LH}{α:Type}{pp:Rp α}{a:Option Addr}{c:Nat}{xs:List α}{xv:α}{K:Int}(U:Al pp E a c xs)(O:ix xs K=some xv):
  ∃bk o ws,pp.r E ws xv/\At E bk o ws/\∀{s:St} {ρ:Operand->Value} {x y:Operand} {d:Option Tmp} {t ty e:TypeId} {p:String} {af:Ae_} {g:On_} {kd:IntKind},
   P.underlying t=some (.slice e)->Bl P e=some pp.n->ρ x= .slice a xs.length c->ρ y= .int kd K->Yl P ⟨d,.indexAddr t x y,ty,p,af,g⟩ ρ s (.pointer (some ⟨bk,o,none⟩)):=by
 obtain⟨K,rfl,O⟩:=FR O;have Y:K<xs.length:=(List.getElem?_eq_some_iff.1 O).1;obtain⟨ai,⟨rfl,_⟩ | ⟨bk,off,rfl,Z⟩⟩:=U
 ·simp at Y
 obtain⟨ws,aa,ab⟩:=Z K xv O;refine⟨bk,off+K*pp.n,ws,aa,ab,λ{s ρ x y d t ty e p af g kd} ac ae ag ah=>?_⟩;have:=Li (P:=P) (s:=s) (d:=d) (ty:=ty) (p:=p) (af:=af) (g:=g) ac ae ag ah ⟨by omega,by omega⟩;rw [Dm rfl] at this;simpa using this
end Pal
namespace Pal
open Go Go.Conc Go.Proofs
open Go.Proofs.Tryz
def Ly(fu_:Nat)(Y:(List Int))(O:A1)(U:Int×Int×Int)(K:(List Int)×Int×Int):Option (Bj ((List Int)×Int×Int) ((List Int)×Int)):= if K.2.2<(Y.length:Int) then((ix O U.2.2).bind λaa=> (ix aa K.2.2).bind λab=> (ix K.1 ab).bind λao=> (ix O U.2.2).bind λac=> (ix ac K.2.2).bind λZ=> (ix O U.2.2).bind λae=> (ix ae K.2.2).bind λag=> (ix K.1 ag).bind λah=> (ix Y K.2.2).bind λai=> (Av (ah+ai)).bind λaj=> (ix K.1 Z).bind λap=> (ix O U.2.2).bind λak=> (ix ak K.2.2).bind λal=> (Av (al+1)).bind λam=> (Av (K.2.2+1)).bind λan=> some (.more ((K.1.set (Int.toNat Z) aj),max K.2.1 am,an))) else(some (.done (K.1,K.2.1)))
def Lt(fu_:Nat)(O:(List Int)×Int)(K:Bool×Int):Option (Bj (Bool×Int) Bool):= if K.2<(O.1.length:Int) then(Option.bind (if K.1=true then((ix O.1 K.2).bind λU=> some (decide (U=0))) else(some false)) λY=> (Av (K.2+1)).bind λZ=> some (.more (Y,Z))) else(some (.done K.1))
def MW(fu_:Nat)(U:(List Int))(Y:A1)(K:Int×Int×Int):Option (Bj Dq Int):= if K.2.2<(Y.length:Int) then((H9 (U.length:Int) (0:Int)).bind λaa=> Option.bind (iter (Ly fu_ U Y K) fu_ (aa,0,0)) λO=> Option.bind (iter (Lt fu_ O) fu_ (true,0)) λab=> Option.bind (if ab=true then(some (decide (K.2.1<O.2))) else(some false)) λac=> Option.bind (if ac=true then(some (K.2.2,O.2)) else(some (K.1,K.2.1))) λZ=> (Av (K.2.2+1)).bind λae=> some (.more (Z.1,Z.2,ae))) else(some (.done K.1))
def f13(fu_:Nat)(p0:List Int):Option Bool:= (f20 fu_ p0).bind λaa=> (f31 fu_ aa 5 6).bind λK=> (f52 fu_ K.1).bind λO=> (f55 fu_ K.1).bind λU=> (f56 fu_ (U.length:Int)).bind λY=> Option.bind (iter (MW fu_ U Y) fu_ ((-1),0,0)) λZ=> Option.bind (if O.2=0 then(some (decide (0<=Z))) else(some false)) λab=> Option.bind (if ab=true then((ix Y Z).bind λac=> (f29 fu_ O.1 ac).bind λae=> some ae) else(some false)) λag=> Option.bind (if ag=true then((f18 fu_).bind λah=> some ah) else(some false)) λai=> some ai
theorem Xf{E H:LH}{a1:Ao}{c2:Nat}{p0:List Int}(bn:Al rI E a1 c2 p0){fu_:Nat}{r:Bool}(aQ:f13 fu_ p0=some r):(Gx Tryz.prog).ok (Lr Tryz.prog (λv _=>v= .bool r)) (G (Frame.enter Tryz.prog 13 ([sV a1 p0 c2]:Lv_).toArray .normal) []) (mk E H []):=by
 refine U2 func13 rfl rfl (Nat.le_of_ble_eq_true rfl) ?_;have bo:Aq E H [[]]:=trivial;unfold f13 at aQ;obtain⟨eV,bp,bq⟩:=bs aQ;refine zg 7 rfl (BT (ZF bn bp) rfl rfl (A7 func20 rfl) bo ?_);rintro _ eW _ eX ⟨eY,eZ,e0,rfl,rfl,br⟩ bu;obtain⟨e1,bv,bw⟩:=bs bq;refine Cq 1 (Zw br bv) rfl rfl (A7 func31 rfl) bu rfl ?_;rintro _ e3 _ e4 ⟨e5,e6,e7,e8,e9,fa,rfl,rfl,aR,aS,fb⟩ bx;refine BI bx Jb λfc bz=>?_;refine BB 2 bz Db λbA=>?_;refine CP 2 bA rfl λfe ay aT bB=>zg 3 rfl (Cw aT FN Db rfl rfl ?_);obtain⟨O,bC,bD⟩:=bs bw;refine BT (Zl (aR.Ag ay) (aS.Ag ay) bC) rfl rfl (A7 func52 rfl) bB ?_;rintro _ ff _ aF ⟨Z,aa,rfl,rfl,bE⟩ bF;refine zg 8 rfl (Cw (aT.Ag aF) FN Db rfl rfl ?_);obtain⟨ag,bG,bH⟩:=bs bD;refine BT (Zy (aR.Ag (ay.Ad aF)) (aS.Ag (ay.Ad aF)) bG) rfl rfl (A7 func55 rfl) bF ?_;rintro _ fg _ bI ⟨ah,ai,rfl,rfl,bJ⟩ bK;refine zg 5 rfl (JL.ln underlying28 rfl rfl rfl ?_);obtain⟨ab,bL,bM⟩:=bs bH;refine BT (Zs bL) rfl rfl (A7 func56 rfl) bK ?_;rintro _ fh _ aU ⟨ac,ae,rfl,rfl,az⟩ bN;obtain⟨aV,bO,bP⟩:=bs bM;refine zg 12 rfl (DF [] [(4,sV Z O.1 aa),(5,iV O.2),(7,sV ac ab ae),(8,iV aV)] (λfj aW aX=>?_) (λbQ=>?_))
 ·obtain⟨bR,bS,bT⟩:=bs bP;refine zg 5 rfl (Fj 6 12 [] [(4,sV Z O.1 aa),(7,sV ac ab ae),(8,iV aV),(105,.bool bR)] (λfk aY aZ=>?_) (λa0=>?_))
  ·obtain⟨bU,bV,bW⟩:=bs bT;refine zg 1 rfl (Fj 14 4 [] [(113,.bool bU)] (λfl fm a2=>?_) (λa3=>?_))
   ·obtain⟨a4,bY,bZ⟩:=bs bW;refine zg 1 rfl (Fj 17 1 [] [(116,.bool a4)] (λfo fp fq=>?_) (λa5=>?_))
    ·refine zg 2 rfl ?_;obtain rfl:=oi bZ;exact IM rfl (JO.end (v:= .bool a4) rfl (by decide+kernel) func13 rfl rfl rfl)
    ·refine Et 114 bY (λb0 b1=>?_) (λb0 b2=>?_)
     ·obtain⟨fs,b3,b4⟩:=bs b1;refine CM (YY b3) rfl rfl (A7 func18 rfl) a2 λfu b5 b6=>zg 1 rfl ?_;obtain rfl:=oi b4;exact a5 b5 b6 rfl
     ·refine zg 2 rfl ?_;obtain rfl:=oi b2;exact a5 Aw a2 rfl
   ·refine Et 106 bV (λb7 b8=>?_) (λb7 b9=>?_)
    ·obtain⟨fv,ca,cb⟩:=bs b8;refine zg 3 rfl (JS.ix (az.Ag (aW.Ad aY)) ca underlying22 Dy ?_);rintro fw fx _ ⟨fy,fz,rfl,cc⟩ cd;refine Ch 0 cd Gc rfl rfl rfl ?_;obtain⟨fA,ce,cf⟩:=bs cb;refine CM (LQ (bE.Ag (((bI.Ad aU).Ad aW).Ad aY)) cc ce) rfl rfl K8 aZ λfB cg ci=>zg 1 rfl ?_;obtain rfl:=oi cf;exact a3 cg ci rfl
    ·refine zg 7 rfl ?_;obtain rfl:=oi b9;exact a3 Aw aZ rfl
  ·refine I1 102 bS (λck cm=>?_) (λck cn=>?_)
   ·refine zg 3 rfl ?_;obtain rfl:=oi cm;exact a0 Aw aX rfl
   ·refine zg 3 rfl ?_;obtain rfl:=oi cn;exact a0 Aw aX rfl
 ·refine JL.block (JS.drop 1 bN rfl λco=>?_);refine Dh bO (λK=> []) (λK=> [(4,sV Z O.1 aa),(5,iV O.2),(6,sV ah ag ai),(7,sV ac ab ae),(8,iV K.1),(9,iV K.2.1),(10,iV K.2.2)]) Aw co ?_;rintro K aG ak a6 cp ⟨fC,aH⟩ cq;have a7:=aH;unfold MW at a7;refine zg 5 rfl (JL.ln underlying22 rfl rfl rfl ?_);refine zg 2 rfl (AS a7 (λcr ct=>?_) (λcr cu=>?_))
  ·refine zg 6 rfl (JL.ln underlying28 rfl rfl rfl ?_);obtain⟨cv,cw,cy⟩:=bs ct;refine JS.make (pp:=rI) cw rfl rfl rfl rfl rfl underlying28 Az (C4 type3) (by decide) Cd (by decide) rfl a6 λcz cA cB cC=>?_;obtain⟨aj,cD,cE⟩:=bs cy;refine zg 15 rfl (Bq (λL s=>∃(aI:LH) (ap:Ao) (aq:Nat) (ar:Seg),Jn aG H aI [ar] [(4,sV Z O.1 aa),(5,iV O.2),(6,sV ah ag ai),(7,sV ac ab ae),(8,iV K.1),(9,iV K.2.1),(10,iV K.2.2),(11,sV ap aj.1 aq),(12,.bool true),(13,iV aj.2)] L s (OL 3 rI aI ap aq ar aj.1)) ?_ ?_)
   ·rintro _ _ ⟨aI,ap,aq,ar,rfl,rfl,cF,cG,cH⟩;obtain⟨cI,cJ,cK⟩:=bs cE;refine zg 5 rfl (DF [] [(4,sV Z O.1 aa),(5,iV O.2),(6,sV ah ag ai),(7,sV ac ab ae),(8,iV K.1),(9,iV K.2.1),(10,iV K.2.2),(12,.bool cI),(13,iV aj.2)] (λaJ cM a8=>?_) (λcN=>?_))
    ·obtain⟨cO,cP,cQ⟩:=bs cK;refine zg 4 rfl (Hp [] (λL s=>∃(a9:LH),Jm aJ H a9 [] [(4,sV Z O.1 aa),(5,iV O.2),(6,sV ah ag ai),(7,sV ac ab ae),(8,iV K.1),(9,iV K.2.1),(10,iV K.2.2),(13,iV aj.2),(97,.bool cO)] L s) ?_ ?_)
     ·rintro _ _ ⟨a9,rfl,rfl,cR,ba⟩;obtain⟨aA,cT,cV⟩:=bs cQ;refine JL.done (DF [] [(4,sV Z O.1 aa),(5,iV O.2),(6,sV ah ag ai),(7,sV ac ab ae),(8,iV aA.1),(9,iV aA.2),(10,iV K.2.2)] (λfD cW cX=>?_) (λbb=>?_))
      ·obtain⟨cY,cZ,c0⟩:=bs cV;refine zg 3 rfl (Bm cZ rfl rfl rfl ?_);refine zg 2 rfl ?_;obtain rfl:=oi c0;exact cq (aA.1,aA.2,cY) ((((ak.Ad cF).Ad cM).Ad cR).Ad cW) cX rfl aH
      ·refine CC cT (λc1 c3=>?_) (λc1 c4=>?_)
       ·refine zg 6 rfl ?_;obtain rfl:=oi c3;exact bb Aw ba rfl
       ·refine JL.skip ?_;obtain rfl:=oi c4;exact bb Aw ba rfl
     ·intro be;refine Et 93 cP (λc5 c6=>?_) (λc5 c7=>?_)
      ·refine zg 4 rfl ?_;obtain rfl:=oi c6;exact AA (be _ _ ⟨aJ,rfl,rfl,Aw,a8⟩) rfl
      ·refine zg 4 rfl ?_;obtain rfl:=oi c7;exact AA (be _ _ ⟨aJ,rfl,rfl,Aw,a8⟩) rfl
    ·refine JL.block (Dh cJ (λau=> [ar]) (λau=> [(4,sV Z O.1 aa),(5,iV O.2),(6,sV ah ag ai),(7,sV ac ab ae),(8,iV K.1),(9,iV K.2.1),(10,iV K.2.2),(11,sV ap aj.1 aq),(12,.bool au.1),(13,iV aj.2),(15,iV au.2)]) Aw cG ?_);rintro au fE aK aB c8 ⟨fF,aL⟩ c9;have bf:=aL;unfold Lt at bf;refine zg 5 rfl (JL.ln underlying28 rfl rfl rfl ?_);refine zg 2 rfl (AS bf (λda db=>?_) (λda dc=>?_))
     ·obtain⟨bg,dd,de⟩:=bs db;refine zg 6 rfl (Fj 8 1 [ar] [(4,sV Z O.1 aa),(5,iV O.2),(6,sV ah ag ai),(7,sV ac ab ae),(8,iV K.1),(9,iV K.2.1),(10,iV K.2.2),(11,sV ap aj.1 aq),(13,iV aj.2),(15,iV au.2),(91,.bool bg)] (λfG df dg=>?_) (λbh=>?_))
      ·obtain⟨dh,di,dj⟩:=bs de;refine zg 5 rfl (Bm di rfl rfl rfl ?_);refine zg 2 rfl ?_;obtain rfl:=oi dj;exact c9 (bg,dh) (aK.Ad df) dg rfl aL
      ·refine Et 85 dd (λdk dn=>?_) (λdk dp=>?_)
       ·obtain⟨dq,dr,dt⟩:=bs dn;refine zg 2 rfl (KM 0 (cH.Ag aK) dr rfl rfl rfl rfl rfl rfl underlying28 Az ?_);rintro fH fI fJ _ du rfl dv fK fL fM fN;refine Am (v:=iV dq) rfl (λρ h=>Yl.load A4 (h _ _ rfl) (BL (j:=0) aB du (dv 0 _ rfl))) (zg 2 rfl ?_);obtain rfl:=oi dt;exact bh Aw aB rfl
       ·refine zg 6 rfl ?_;obtain rfl:=oi dp;exact bh Aw aB rfl
     ·refine JL.exit rfl (JS.drop 0 aB rfl λdw=>?_);obtain rfl:=oi dc;obtain rfl:=c8 _ aL;exact cN aK dw rfl
   ·intro dx;refine JL.block (Cj cD (λL s Y=>∃(av:LH) (aC:Ao) (al:Nat) (aD:Seg),Jn aG H av [aD] [(4,sV Z O.1 aa),(5,iV O.2),(6,sV ah ag ai),(7,sV ac ab ae),(8,iV K.1),(9,iV K.2.1),(10,iV K.2.2),(11,sV aC Y.1 al),(12,.bool true),(13,iV Y.2.1),(14,iV Y.2.2)] L s (OL 3 rI av aC al aD Y.1)) ⟨aG,(AP cz),cv.length,cA,rfl,rfl,Aw,cC,cB⟩ ?_);rintro _ _ Y ⟨av,aC,al,aD,rfl,rfl,am,aM,bi⟩ dy ⟨fO,aN⟩ dz;have bj:=aN;unfold Ly at bj;refine zg 5 rfl (JL.ln underlying28 rfl rfl rfl ?_);refine zg 2 rfl (AS bj (λdA dB=>?_) (λdA dC=>?_))
    ·obtain⟨fP,fQ,dD⟩:=bs dB;obtain⟨fR,fS,dE⟩:=bs dD;obtain⟨fT,dF,dG⟩:=bs dE;refine zg 4 rfl ?_;obtain⟨aE,dH,dI,an⟩:=WL.of bi dF;obtain⟨rfl,rfl⟩:=dI;refine Hr [24] [aE] mixed rfl (Bc 0 rfl rfl ?_);refine Bc 1 rfl rfl (Bc 2 rfl rfl ?_);obtain⟨dJ,dK,dL⟩:=bs dG;obtain⟨dM,dN,_,⟨dO,dP,rfl,dQ⟩,dR,dS⟩:=Al.LV (P:=Tryz.prog) (az.Ag (ak.Ad am)) dK;refine JB.val (v:= Aj dM dN) 3 true rfl (by decide+kernel) rfl rfl rfl (λρ h s' U=>dS underlying22 Dy (h _ _ rfl) (h _ _ rfl)) (HY (v:= sV dO dJ dP) 4 rfl (by decide+kernel) rfl rfl rfl (λρ h s' U=>Yl.load Gc (h _ _ rfl) (At.GB (j:=0) dR U rfl)) ?_);refine Bc 5 rfl rfl ?_;obtain⟨aw,dT,dU⟩:=bs dL;obtain⟨dV,dW,_,rfl,dX,dY⟩:=Al.LV (P:=Tryz.prog) dQ dT;refine JB.val (v:= Aj dV dW) 6 true rfl (by decide+kernel) rfl rfl rfl (λρ h s' U=>dY underlying28 Az (h _ _ rfl) (h _ _ rfl)) (HY (v:=iV aw) 7 rfl (by decide+kernel) rfl rfl rfl (λρ h s' U=>Yl.load A4 (h _ _ rfl) (At.GB (j:=0) dX U rfl)) ?_);refine Bc 8 rfl rfl (Bc 9 rfl rfl ?_);refine Bc 10 rfl rfl ?_;obtain⟨dZ,ea,eb⟩:=bs dU;obtain⟨ec,ed,_,⟨ee,ef,rfl,eg⟩,eh,ei⟩:=Al.LV (P:=Tryz.prog) (az.Ag (ak.Ad am)) ea;refine JB.val (v:= Aj ec ed) 11 true rfl (by decide+kernel) rfl rfl rfl (λρ h s' U=>ei underlying22 Dy (h _ _ rfl) (h _ _ rfl)) (HY (v:= sV ee dZ ef) 12 rfl (by decide+kernel) rfl rfl rfl (λρ h s' U=>Yl.load Gc (h _ _ rfl) (At.GB (j:=0) eh U rfl)) ?_);refine Bc 13 rfl rfl ?_;obtain⟨ej,ek,el⟩:=bs eb;obtain⟨em,en,_,rfl,eo,ep⟩:=Al.LV (P:=Tryz.prog) eg ek;refine JB.val (v:= Aj em en) 14 true rfl (by decide+kernel) rfl rfl rfl (λρ h s' U=>ep underlying28 Az (h _ _ rfl) (h _ _ rfl)) (HY (v:=iV ej) 15 rfl (by decide+kernel) rfl rfl rfl (λρ h s' U=>Yl.load A4 (h _ _ rfl) (At.GB (j:=0) eo U rfl)) ?_);obtain⟨er,bl,et⟩:=bs el;obtain⟨_,rfl,eu⟩:=WL.at an bl;refine JB.ix 16 an.2 bl underlying28 Az ?_;refine JB.val (v:=iV er) 17 false rfl (by decide+kernel) rfl rfl rfl (λρ h s' U=>have U:=U rfl;Yl.load A4 (h _ _ rfl) (B4 0 aM rfl (by simp [AT]) U (eu 0 _ rfl))) (Bc 18 rfl rfl ?_);refine Bc 19 rfl rfl ?_;obtain⟨ew,ex,ey⟩:=bs et;obtain⟨ez,eA,_,rfl,eB,eC⟩:=Al.LV (P:=Tryz.prog) (bJ.Ag ((aU.Ad ak).Ad am)) ex;refine JB.val (v:= Aj ez eA) 20 true rfl (by decide+kernel) rfl rfl rfl (λρ h s' U=>eC underlying28 Az (h _ _ rfl) (h _ _ rfl)) (HY (v:=iV ew) 21 rfl (by decide+kernel) rfl rfl rfl (λρ h s' U=>Yl.load A4 (h _ _ rfl) (At.GB (j:=0) eB U rfl)) ?_);obtain⟨ao,eD,eE⟩:=bs ey;refine EN 22 true rfl rfl (λρ h s' U=>Ff (h _ _ rfl) (h _ _ rfl) eD) ?_;obtain⟨fU,aO,eF⟩:=bs eE;obtain⟨_,rfl,fW⟩:=WL.at an aO;refine JB.ix 23 an.2 aO underlying28 Az ?_;have aP:=WL.put (x':=ao) (ws':= [iV ao]) an an.2 aO rfl;refine Es 24 0 aM Az aP.2 λeG=>?_;refine JB.fin (by decide+kernel) ?_;have eH:=(aP.1).1;have eI:((Y.1.set (Int.toNat aw) ao)).length=Y.1.length:=(aP.1).2;refine EK (L':= [(4,.slice Z O.1.length aa),(5,iV O.2),(6,.slice ah ag.length ai),(7,.slice ac ab.length ae),(8,iV K.1),(9,iV K.2.1),(10,iV K.2.2),(11,.slice (AP aE) ((Y.1.set (Int.toNat aw) ao)).length al),(12,.bool true),(13,iV Y.2.1),(14,iV Y.2.2)]) ⟨rfl,rfl,rfl,rfl,rfl,rfl,rfl,by rw [eI];rfl,rfl,rfl,rfl,trivial⟩ ?_;obtain⟨fX,eJ,eK⟩:=bs eF;refine zg 4 rfl (JS.ix (az.Ag (ak.Ad am)) eJ underlying22 Dy ?_);rintro fY fZ _ ⟨ga,gb,rfl,eL⟩ eM;refine Ch 0 eM Gc rfl rfl rfl ?_;obtain⟨gc,eN,eO⟩:=bs eK;refine zg 1 rfl (JS.ix eL eN underlying28 Az ?_);rintro gd ge _ rfl eP;refine Ch 0 eP A4 rfl rfl rfl ?_;obtain⟨bm,eQ,eR⟩:=bs eO;refine Bm eQ rfl rfl rfl (Am (v:=iV (max Y.2.1 bm)) rfl (λρ h=>Yl.max2 (h _ _ rfl) (h _ _ rfl)) ?_);obtain⟨eS,eT,eU⟩:=bs eR;refine zg 5 rfl (Bm eT rfl rfl rfl ?_);refine zg 2 rfl ?_;obtain rfl:=oi eU;exact AA (dz _ _ ((Y.1.set (Int.toNat aw) ao),max Y.2.1 bm,eS) ⟨av,(AP aE),al,[(aE,.cells (Bb dH (Int.toNat (aw)*1) [iV ao]) 3 (0,0))],rfl,rfl,am,eG,eH⟩ aN) rfl
    ·refine JL.exit rfl ?_;obtain rfl:=oi dC;obtain rfl:=dy _ aN;exact AA (dx _ _ ⟨av,aC,al,aD,rfl,rfl,am,aM,bi⟩) rfl
  ·refine JL.exit rfl ?_;obtain rfl:=oi cu;obtain rfl:=cp _ aH;exact bQ ak a6 rfl
end Pal
namespace Pal
open Go Go.Conc Go.Proofs
open Go.Proofs.Tryz
variable {J:Judge Tryz.prog}{E:LH}
end Pal
namespace Pal
open Go Go.Conc
section
variable {P:Program}{J:Judge P}{Q:Gs_}{b:Frame}{n:Nat}{ds:Ld_}{ops:Ao_}{k:Li_}{cs:Lf_}{m fuel:Nat}{D:Nat->Bool}{listed:Array Bool}{L:Env}{s:St}{E E' H:LH}{S:List Seg}
variable {d:Option Tmp}{x y:Operand}{t u ty e:TypeId}{p:String}{af:Ae_}{g:On_}{v:Value}{i:Nat}{kd:IntKind}
end
end Pal
namespace Pal
open Go Go.Conc Go.Proofs
open Go.Proofs.Tryz
variable {J:Judge Tryz.prog}{E:LH}
end Pal
namespace Pal
open Go Go.Conc
section
variable {P:Program}{d:Option Tmp}{x:Operand}{t u ty e:TypeId}{p:String}{af:Ae_}{g:On_}{s:St}{ρ:Operand->Value}
end
end Pal
namespace Pal
open Go Go.Conc Go.Proofs
open Go.Proofs.Tryz
variable {J:Judge Tryz.prog}{E:LH}
end Pal
namespace Pal
open Go Go.Conc Go.Proofs
open Go.Proofs.Tryz
variable {J:Judge Tryz.prog}{E:LH}
end Pal
namespace Pal
def BS{α:Type}(o:Option α)(Q:α->Prop):Prop:=∃a,o=some a/\Q a
section
variable {α β:Type}{Q R:α->Prop}
theorem Be{a:α}(h:Q a):BS (some a) Q:=⟨a,rfl,h⟩
theorem BS.Ag{o:Option α}(h:BS o R)(k:∀a,R a->Q a):BS o Q:=let ⟨a,K,O⟩:=h;⟨a,K,k a O⟩
theorem B2{o:Option β}{f:β->Option α}{S:β->Prop}(h:BS o S)(k:∀b,S b->BS (f b) Q):BS (o.bind f) Q:=by
 obtain⟨b,rfl,hb⟩:=h;obtain⟨a,K,O⟩:=k b hb;exact⟨a,K,O⟩
theorem BY{o:Option β}{f:β->Option α}{b:β}(h:o=some b)(k:BS (f b) Q):BS (o.bind f) Q:=by subst h;exact k
theorem BS.Z6{f:Int->Option α}{x:Int}(K: -9223372036854775808<=x)(O:x<=9223372036854775807)(k:BS (f x) Q):BS ((Av x).bind f) Q:=BY (if_pos ⟨K,O⟩) k
theorem Kd{xs:List β}{i:Int}{m:Nat}{b:β}(h:i=(m:Int))(hb:xs[m]? =some b):ix xs i=some b:=by subst h;simpa [ix] using hb
theorem EL{f:β->Option α}{xs:List β}{i:Int}{m:Nat}(h:i=(m:Int))(hm:m<xs.length)(k:BS (f xs[m]) Q):BS ((ix xs i).bind f) Q:=BY (Kd h (List.getElem?_eq_getElem hm)) k
theorem Lk{f:List β->Option α}{xs:List β}{x:β}(h:xs.length+1<=2 ^ 40)(k:BS (f (xs++ [x])) Q):BS ((room xs x).bind f) Q:=BY (if_pos h) k
theorem Fe{c:Prop} [Decidable c] {x y:Option α}(K:c->BS x Q)(O:¬c->BS y Q):BS (if c then x else y) Q:=by
 by_cases h:c
 ·rw [if_pos h];exact K h
 ·rw [if_neg h];exact O h
theorem Ep{c:Prop} [Decidable c] {x y:Option α}(h:c)(k:BS x Q):BS (if c then x else y) Q:=by rw [if_pos h];exact k
theorem Er{c:Prop} [Decidable c] {x y:Option α}(h:¬c)(k:BS y Q):BS (if c then x else y) Q:=by rw [if_neg h];exact k
def Bj.sat{S A:Type}(I:S->Prop)(Q:A->Prop):Bj S A->Prop
 | .more s=>I s
 | .done a=>Q a
theorem Vs{S:Type}{body:S->Option (Bj S α)}(I:Nat->S->Prop)(round:∀m s,I m s->BS (body s) (Bj.sat (λs'=>∃m',m'<m/\I m' s') Q)):
  ∀{m fuel:Nat} {s:S},I m s->m<fuel->BS (iter body fuel s) Q:=by
 intro m
 induction m using Nat.strongRecOn with
 | _ m O=>
  intro fuel s U ab;obtain⟨fuel,rfl⟩:∃k,fuel=k+1:=⟨fuel - 1,by omega⟩;obtain⟨st,Y,K⟩:=round m s U;unfold Pal.iter;rw [Y];cases st with
  | more s'=>
   obtain⟨m',Z,aa⟩:=K;exact O m' Z aa (by omega)
  | done a=>exact⟨a,rfl,K⟩
end
end Pal
namespace Pal
theorem Fu{S A:Type}{body:S->Option (Bj S A)}{Q:A->Prop}{K:S}{F:Nat}(n:Nat)(I:Nat->S->Prop)(Y:I 0 K)(aa:n<F)
  (round:∀i s,i<n->I i s->BS (body s) (Bj.sat (I (i+1)) Q)) (last:∀s,I n s->BS (body s) (λst=>∃a,st= .done a/\Q a)):BS (Pal.iter body F K) Q:=by
 refine Vs (λm s=>∃i,i<=n/\m=n - i/\I i s) ?_ (m:=n - 0) ⟨0,Nat.zero_le _,rfl,Y⟩ (by omega);rintro m s ⟨i,hi,rfl,O⟩;rcases Nat.lt_or_ge i n with Z | ab
 ·refine(round i s Z O).Ag ?_;intro st U;cases st with
  | more s'=>exact⟨n - (i+1),by omega,i+1,by omega,rfl,U⟩
  | done a=>exact U
 ·obtain rfl:i=n:=by omega
  refine(last s O).Ag ?_;rintro st ⟨a,rfl,h⟩;exact h
theorem HT{α:Type}{o:Option α}{a:α}(h:BS o (λx=>x=a)):o=some a:=by obtain⟨x,K,rfl⟩:=h;exact K
theorem Cf{α:Type}{Q:α->Prop}{f:Int->Option α}{x:Int}(y:Int)(h:x=y)(K: -9223372036854775808<=y)(O:y<=9223372036854775807)(k:BS (f y) Q):BS ((Av x).bind f) Q:=by subst h;exact BS.Z6 K O k
theorem BS.Tw{α β:Type}{Q:α->Prop}{f:List β->Option α}{xs ys:List β}(h:xs.length+ys.length<1000)(k:BS (f (xs++ys)) Q):BS ((Dp xs ys).bind f) Q:=BY (by unfold Dp;rw [if_pos (by omega)]) k
abbrev I8:=List Int×Int×Nat
def BG(k:Nat)(b:I8):Prop:=0<=b.2.1/\b.2.1<=(k:Int)
theorem BG.Ag{k k':Nat}{b:I8}(h:BG k b)(K:k<=k'):BG k' b:=⟨h.1,by have:=h.2;omega⟩
theorem Xw{F k:Nat}{b:I8}(hb:BG k b)(K:k<1000000):BS (f83 F b) (λr=>r.1<2 ^ 64/\BG (k+1) r.2):=by
 obtain⟨O,U⟩:=hb;unfold f83;refine Cf (b.2.1+1) rfl (by omega) (by omega) ?_;have key:∀x:Nat,(x % 2 ^ 64)>>>11<2 ^ 64:=λx=>Nat.lt_of_le_of_lt (Nat.shiftRight_le _ _) (Nat.mod_lt _ (Nat.two_pow_pos 64));refine B2 (S:=λ_=>True) ?_ ?_
 ·refine Fe (λh=>?_) (λh=>?_)
  ·refine Cf b.2.1 (by omega) (by omega) (by omega) (EL (m:=b.2.1.toNat) (by omega) (by omega) ?_);exact Be trivial
  ·exact Be trivial
 ·intro x _;exact Be ⟨key _,by simp only;omega,by simp only;omega⟩
theorem US{a:Nat}(h:a<2 ^ 62):L2 a=(a:Int):=by
 unfold L2;exact Jg (by omega)
theorem KR{F k:Nat}{b:I8}{m:Int}(hb:BG k b)(O:k<1000000)(hm:m<1000000):BS (f36 F b m) (λr=>0<=r.1/\(r.1<=m∨r.1=0)/\BG (k+1) r.2):=by
 unfold f36;refine B2 (Xw hb O) ?_;rintro⟨x,b'⟩ ⟨Z,K⟩;refine Fe (λh=>?_) (λh=>?_)
 ·exact Be ⟨by simp,.inr rfl,K⟩
 ·have U:CN m=m.toNat:=by unfold CN;omega
  have e2:(CN m+1) % 2 ^ 64=m.toNat+1:=by rw [U];omega
  have Y:x % (m.toNat+1)<m.toNat+1:=Nat.mod_lt _ (by omega);refine BY (b:=x % (m.toNat+1)) (by rw [e2];unfold Nm;rw [if_neg (by omega)]) ?_;refine Be ?_;simp only;generalize x % (m.toNat+1)=z at Y ⊢;rw [US (by omega)];exact⟨by omega,.inl (by omega),K⟩
theorem OT{F k:Nat}{b:I8}{lo hi:Int}(hb:BG k b)(O:k<1000000)(Y:0<=lo)(Z:lo<=hi)(aa:hi<1000):BS (f37 F b lo hi) (λr=>lo<=r.1/\r.1<=hi/\BG (k+1) r.2):=by
 unfold f37;refine Cf (hi - lo) rfl (by omega) (by omega) (B2 (KR hb O (by omega)) ?_);rintro⟨x,b'⟩ ⟨U,g2,K⟩;simp only at U g2 K ⊢;exact Cf (lo+x) rfl (by omega) (by omega) (Be ⟨by simp only;omega,by simp only;omega,K⟩)
theorem XW{F k:Nat}{b:I8}{m:Int}(hb:BG k b)(K:k<1000000)(U:1<=m)(Y:m<1000):BS (f32 F b m) (λr=>BG (k+1) r.2):=by
 unfold f32;refine Cf (m - 1) rfl (by omega) (by omega) (B2 (KR hb K (by omega)) ?_);rintro⟨x,b'⟩ ⟨Z,g2,O⟩;exact Be O
theorem SJ{F k:Nat}{b:I8}{l:List Int}(hb:BG k b)(U:k<1000000)(Z:0<l.length)(aa:l.length<1000):BS (f81 F b l) (λr=>r.1∈l/\BG (k+1) r.2):=by
 unfold f81;refine Cf ((l.length - 1:Nat):Int) (by omega) (by omega) (by omega) (B2 (KR hb U (by omega)) ?_);rintro⟨x,b'⟩ ⟨Y,g2,K⟩;simp only at Y g2 K ⊢;have O:x.toNat<l.length:=by omega
 exact EL (m:=x.toNat) (by omega) O (Be ⟨List.getElem_mem O,K⟩)
abbrev DT:=Int×Int×Int
abbrev OW:=A1×List DT
structure NV (n:Nat) (o:OW):Prop where
 l1:o.1.length<=n
 n1:∀x∈o.1,x.length<=n
 l2:o.2.length<=n
theorem YA{F:Nat}{l:List Int}(K:100<F)(O:l.length<=40):f29 F l l=some true:=by
 refine HT ?_;unfold f29;refine B2 (S:=λq=>q=Sum.inr ()) ?_ (by rintro q rfl;exact Be (by simp));refine Fu l.length (λi s=>s=(i:Int)) rfl (by omega) ?_ ?_
 ·rintro i s hi rfl;unfold M9;refine B2 (S:=λc=>c=true) (Ep (by omega) (Be (decide_eq_true (by omega)))) ?_;rintro c rfl;refine Ep rfl (EL (m:=i) rfl hi ?_);refine EL (m:=i) rfl hi (Er (by simp) ?_);exact Cf ((i+1:Nat):Int) (by simp) (by omega) (by omega) (Be rfl)
 ·rintro s rfl;unfold M9;refine B2 (S:=λc=>c=false) (Er (by omega) (Be rfl)) ?_;rintro c rfl;exact Er (by simp) (Be ⟨_,rfl,rfl⟩)
end Pal
namespace Pal
theorem MV(F:Nat)(a lo hi:Int):f92 F a lo hi=some (decide (lo<=a/\a<=hi)):=by
 unfold f92;by_cases h:lo<=a
 ·rw [if_pos h];simp [h]
 ·rw [if_neg h];simp [h]
theorem V3{F:Nat}{o:OW}{i:Int}{l:List Int}(h:ix o.1 i=some l):Ng F l=LF F o i:=by
 funext j;unfold Ng LF;rw [h];rfl
theorem VI(F:Nat)(o:OW):Nh F o=LA F o:=by
 funext i;unfold Nh LA;split
 ·rcases h:ix o.1 i with _ | l
  ·rfl
  ·simp only [Option.bind_some];rw [V3 h]
 ·rfl
theorem YS(F:Nat)(o:OW):f47 F o=f48 F o:=by
 unfold f47 f48;rw [VI];rfl
end Pal
namespace Pal
def VD(n:Nat)(d:DT):Prop:=0<=d.1/\d.1<(n:Int)/\0<=d.2.1/\d.2.1<(n:Int)/\d.1≠d.2.1/\1<=d.2.2/\d.2.2<=9
def CS(x:List Int):Prop:=x.length<=3/\∀c∈x,1<=c/\c<=9
structure VO (o:OW):Prop where
 n2:2<=o.1.length
 n5:o.1.length<=5
 cs:∀x∈o.1,CS x
 d8:o.2.length<=8
 ds:∀d∈o.2,VD o.1.length d
theorem VO.nv{o:OW}(h:VO o):NV 40 o:=⟨by have:=h.n5;omega,λx K=>by have:=(h.cs x K).1;omega,by have:=h.d8;omega⟩
theorem OJ{α:Type}{P:α->Prop}{l:List α}{i:Nat}(hi:i<l.length)(h:∀x∈l.take i,P x)(k:P l[i]):∀x∈l.take (i+1),P x:=by
 intro x K;rw [List.take_add_one,List.getElem?_eq_getElem hi] at K;simp only [Option.toList_some,List.mem_append,List.mem_singleton] at K;rcases K with K | rfl
 ·exact h x K
 ·exact k
theorem Yh{F:Nat}{d:DT}{n:Nat}(Y:n<1000):BS (f88 F (n:Int) d 9) (λr=>r=0↔VD n d):=by
 unfold f88;refine Cf ((n:Int) - 1) rfl (by omega) (by omega) (BY (MV _ _ _ _) ?_);refine B2 (S:=λc=>c=true↔¬((0<=d.1/\d.1<(n:Int))/\0<=d.2.1/\d.2.1<(n:Int))) ?_ ?_
 ·refine Fe (λh=>Be ?_) (λh=>?_)
  ·simp at h;simp;omega
  ·refine Cf ((n:Int) - 1) rfl (by omega) (by omega) (BY (MV _ _ _ _) ?_);refine Be ?_;simp at h;simp;omega
 ·intro c O;refine Fe (λh=>Be ?_) (λh=>?_)
  ·have:=O.1 h;unfold VD;constructor
   ·intro h;cases h
   ·intro h;omega
  have Z:¬¬_:=λk=>h (O.2 k);refine Fe (λU=>Be ?_) (λU=>?_)
  ·unfold VD;constructor
   ·intro h;cases h
   ·intro h;omega
  refine BY (MV _ _ _ _) (Fe (λK=>Be ?_) (λK=>Be ?_))
  ·simp at K;unfold VD;constructor
   ·intro h;cases h
   ·intro h;omega
  ·simp at K;unfold VD;constructor
   ·intro h;omega
   ·intro h;rfl
theorem Yx{F:Nat}{o:OW}(Z:100<F)(h:NV 40 o):BS (f48 F o) (λr=>r=0↔VO o):=by
 unfold f48;have aa:=h.l1;have ab:=h.l2;refine Fe (λg=>Be (iff_of_false (by decide) λv=>by have:=v.n2;omega)) (λac=>?_);refine Fe (λg=>Be (iff_of_false (by decide) λv=>by have:=v.n5;omega)) (λg2=>?_);refine B2 (S:=λq=>(∃e,q=Sum.inl e/\e≠0/\¬∀x∈o.1,CS x)∨(q=Sum.inr ()/\∀x∈o.1,CS x)) ?_ ?_
 ·refine Fu o.1.length (λi s=>s=(i:Int)/\∀x∈o.1.take i,CS x) ⟨rfl,by simp⟩ (by omega) ?_ ?_
  ·rintro i s hi ⟨rfl,K⟩;unfold LA;refine Ep (by omega) (EL (m:=i) rfl hi ?_);have ae:=h.n1 _ (List.getElem_mem hi);refine Fe (λg=>Be (.inl ⟨_,rfl,by decide,λk=>by have:=(k _ (List.getElem_mem hi)).1;omega⟩)) (λag=>?_);refine B2 (S:=λq=>(q=Sum.inl 1/\¬CS o.1[i])∨(q=Sum.inr ()/\CS o.1[i])) ?_ ?_
   ·refine Fu o.1[i].length (λj s=>s=(j:Int)/\∀c∈o.1[i].take j,1<=c/\c<=9) ⟨rfl,by simp⟩ (by omega) ?_ ?_
    ·rintro j s U ⟨rfl,O⟩;unfold LF;refine EL (m:=i) rfl hi (Ep (by omega) ?_);refine EL (m:=i) rfl hi (EL (m:=j) rfl U ?_);refine BY (MV _ _ _ _) (Fe (λg=>Be (.inl ⟨rfl,λk=>?_⟩)) (λg=>?_))
     ·have:=k.2 _ (List.getElem_mem U);simp at g;omega
     refine Cf ((j+1:Nat):Int) (by simp) (by omega) (by omega) (Be ⟨rfl,OJ U O ?_⟩);simpa using g
    ·rintro s ⟨rfl,O⟩;unfold LF;refine EL (m:=i) rfl hi ?_;rw [List.take_length] at O;exact Er (by omega) (Be ⟨_,rfl,.inr ⟨rfl,by omega,O⟩⟩)
   ·rintro q (⟨rfl,g⟩ | ⟨rfl,g⟩)
    ·rw [Sum.elim_inl];exact Be (.inl ⟨_,rfl,by decide,λk=>g (k _ (List.getElem_mem hi))⟩)
    ·rw [Sum.elim_inr];exact Cf ((i+1:Nat):Int) (by simp) (by omega) (by omega) (Be ⟨rfl,OJ hi K g⟩)
  ·rintro s ⟨rfl,K⟩;unfold LA;rw [List.take_length] at K;exact Er (by omega) (Be ⟨_,rfl,.inr ⟨rfl,K⟩⟩)
 ·rintro q (⟨e,rfl,he,g⟩ | ⟨rfl,O⟩)
  ·rw [Sum.elim_inl];exact Be (iff_of_false he λv=>g v.cs)
  ·rw [Sum.elim_inr];refine Fe (λg=>Be (iff_of_false (by decide) λv=>by have:=v.d8;omega)) (λg2=>?_);refine B2 (S:=λq=>(∃e,q=Sum.inl e/\e≠0/\¬∀d∈o.2,VD o.1.length d)∨(q=Sum.inr ()/\∀d∈o.2,VD o.1.length d)) ?_ ?_
   ·refine Fu o.2.length (λi s=>s=(i:Int)/\∀d∈o.2.take i,VD o.1.length d) ⟨rfl,by simp⟩ (by omega) ?_ ?_
    ·rintro i s hi ⟨rfl,K⟩;unfold O0;refine Ep (by omega) (EL (m:=i) rfl hi ?_);refine B2 (Yh (by omega)) ?_;intro x Y;refine Fe (λg=>Be (.inl ⟨_,rfl,g,λk=>g (Y.2 (k _ (List.getElem_mem hi)))⟩)) (λg=>?_);exact Cf ((i+1:Nat):Int) (by simp) (by omega) (by omega) (Be ⟨rfl,OJ hi K (Y.1 (Decidable.not_not.1 g))⟩)
    ·rintro s ⟨rfl,K⟩;unfold O0;rw [List.take_length] at K;exact Er (by omega) (Be ⟨_,rfl,.inr ⟨rfl,K⟩⟩)
   ·rintro q (⟨e,rfl,he,g⟩ | ⟨rfl,g⟩)
    ·rw [Sum.elim_inl];exact Be (iff_of_false he λv=>g v.ds)
    ·rw [Sum.elim_inr];exact Be (iff_of_true rfl ⟨by omega,by omega,O,by omega,g⟩)
theorem Xu{F:Nat}{o:OW}(K:100<F)(h:NV 40 o):BS (f47 F o) (λr=>r=0↔VO o):=YS F o▸Yx K h
theorem YZ{F:Nat}{o:OW}(K:100<F)(h:VO o):f47 F o=some 0:=by
 obtain⟨r,O,U⟩:=Xu K h.nv;rw [O,U.2 h]
theorem ZD{F:Nat}{o:OW}(K:100<F)(h:VO o):f70 F o []=some (o,0):=by
 obtain⟨F,rfl⟩:∃k,F=k+1:=⟨F - 1,by omega⟩;unfold f70;rw [YZ K h]
 rfl
theorem Vp(a n:Int):a % n=(a - n) % n:=by
 have h:a=(a - n)+n*1:=by omega
 conv=>lhs;rw [h]
 exact Int.add_mul_emod_self_left _ _ _
theorem XK{F k n:Nat}{b:I8}(hb:BG k b)(ai:k<900000)(aj:2<=n)(ak:n<900):BS (f40 F b (n:Int)) (λr=>VD n r.1/\BG (k+4) r.2):=by
 unfold f40;refine Cf ((n:Int) - 1) rfl (by omega) (by omega) (B2 (KR hb (by omega) (by omega)) ?_);rintro⟨x,al⟩ ⟨O,g2,U⟩;simp only at O g2 U ⊢;refine B2 (OT U (by omega) (by omega) (by omega) (by omega)) ?_;rintro⟨x2,am⟩ ⟨a1,ae,Y⟩;simp only at a1 ae Y ⊢;refine B2 (SJ Y (by omega) (by simp) (by simp)) ?_;rintro⟨Z,an⟩ ⟨aa,ab⟩;simp only at aa ab ⊢;refine Cf ((n:Int) - 1) rfl (by omega) (by omega) (B2 (OT ab (by omega) (by omega) (by omega) (by omega)) ?_);rintro⟨K,ao⟩ ⟨ag,ah,ac⟩;simp only at ag ah ac ⊢;refine Cf (x+K) rfl (by omega) (by omega) (BY (b:=(x+K).tmod n) (by unfold Nz;rw [if_neg (by omega)]) ?_);refine Be ⟨?_,ac⟩;have e:(x+K).tmod n=(x+K) % n:=Int.tmod_eq_emod_of_nonneg (by omega);have p3:1<=Z/\Z<=9:=by
  simp only [List.mem_cons,List.not_mem_nil,or_false] at aa;omega
 have ap:(x+K) % (n:Int)<n:=Int.emod_lt_of_pos _ (by omega);have aq:0<=(x+K) % (n:Int):=Int.emod_nonneg _ (by omega);have ar:x≠(x+K) % (n:Int):=by
  rcases Int.lt_or_le (x+K) n with h | h
  ·rw [Int.emod_eq_of_lt (by omega) h];omega
  ·rw [Vp,Int.emod_eq_of_lt (by omega) (by omega)];omega
 refine⟨O,?_,?_,?_,?_,p3.1,p3.2⟩ <;> simp only [e] <;> omega
theorem YB{F k:Nat}{b:I8}{pm dm:Nat}(av:100<F)(hb:BG k b)(aw:k<1000)(ay:2<=pm)(az:pm<=5)(hd:dm<=8):BS (f31 F b pm dm) (λr=>VO r.1/\r.1.1.length<=pm/\r.1.2.length<=dm/\BG (k+100) r.2):=by
 unfold f31;refine B2 (OT hb (by omega) (by omega) (by omega) (by omega)) ?_;rintro⟨n,aA⟩ ⟨n1,n2,ak⟩;simp only at n1 n2 ak ⊢;obtain⟨n,rfl⟩:∃m:Nat,n=(m:Int):=⟨n.toNat,by omega⟩;refine B2 (XW ak (by omega) (by omega) (by omega)) ?_;rintro⟨aB,aC⟩ g2;simp only at g2 ⊢;refine B2 (S:=λr=>r.2.2.2.length=n/\(∀x∈r.2.2.2,CS x)/\BG (k+30) (r.1,r.2.1,r.2.2.1)) ?_ ?_
 ·refine Fu n (λi s=>s.2.2.2.2=(i:Int)/\s.1.length=i/\(∀x∈s.1,CS x)/\BG (k+2+5*i) (s.2.1,s.2.2.1,s.2.2.2.1)) ⟨rfl,rfl,by simp,g2⟩ (by omega) ?_ ?_
  ·rintro i ⟨al,l,t,ab,c⟩ hi ⟨ac,ae,ag,K⟩;simp only at ac ae ag K;subst ac;unfold Nc;refine Ep (by simp only;omega) (B2 (KR K (by omega) (by omega)) ?_);rintro⟨c,aD⟩ ⟨c1,c2,ah⟩;simp only at c1 c2 ah ⊢;obtain⟨c,rfl⟩:∃m:Nat,c=(m:Int):=⟨c.toNat,by omega⟩;refine B2 (S:=λr=>CS r.1/\BG (k+2+5*i+1+c) r.2) ?_ ?_
   ·refine Fu c (λj s=>s.2.2.2.2=((c - j:Nat):Int)/\s.2.2.2.1.length=j/\(∀v∈s.2.2.2.1,1<=v/\v<=9)/\BG (k+2+5*i+1+j) (s.1,s.2.1,s.2.2.1)) ⟨rfl,rfl,by simp,ah⟩ (by omega) ?_ ?_
    ·rintro j ⟨l,t,ab,w,z⟩ ar ⟨U,hw,O,K⟩;simp only at U hw O K;subst U;unfold Na;refine Ep (by simp only;omega) (B2 (S:=λr=>r.1.length=j+1/\(∀v∈r.1,1<=v/\v<=9)/\BG (k+2+5*i+1+(j+1)) r.2) ?_ ?_)
     ·refine Fe (λ_=>?_) (λ_=>?_)
      ·refine Lk (by simp only;omega) (Be ⟨by simp [hw],?_,K.Ag (by omega)⟩);intro v h;rcases List.mem_append.1 h with h | h
       ·exact O v h
       ·have:=List.mem_singleton.1 h;omega
      ·refine B2 (SJ K (by omega) (by simp) (by simp)) ?_;rintro⟨v,au⟩ ⟨am,ai⟩;simp only at am ai ⊢;refine Lk (by omega) (Be ⟨by simp [hw],?_,ai⟩);intro u h;rcases List.mem_append.1 h with h | h
       ·exact O u h
       ·have:=List.mem_singleton.1 h;subst this;simp only [List.mem_cons,List.not_mem_nil,or_false] at am;omega
     ·rintro⟨w',l',aE,aF⟩ ⟨Z,aj,aa⟩;simp only at Z aa aj ⊢;exact Cf ((c - (j+1):Nat):Int) (by omega) (by omega) (by omega) (Be ⟨rfl,Z,aj,aa⟩)
    ·rintro⟨l,t,ab,w,z⟩ ⟨U,hw,O,K⟩;simp only at U hw O K;subst U;unfold Na;exact Er (by simp) (Be ⟨_,rfl,⟨by simp only;omega,O⟩,K⟩)
   ·rintro⟨w,au⟩ ⟨Z,aa⟩;simp only at Z aa ⊢;refine Lk (by omega) (Cf ((i+1:Nat):Int) (by simp) (by omega) (by omega) ?_);refine Be ⟨rfl,by simp [ae],λx Y=>?_,aa.Ag (by omega)⟩;simp only [List.mem_append,List.mem_singleton] at Y;rcases Y with Y | rfl
    ·exact ag x Y
    ·exact Z
  ·rintro⟨al,l,t,ab,c⟩ ⟨ac,ae,ag,K⟩;simp only at ac ae ag K;subst ac;unfold Nc;exact Er (by simp) (Be ⟨_,rfl,ae,ag,K.Ag (by omega)⟩)
 ·rintro⟨l,t,ab,al⟩ ⟨an,p2,ah⟩;simp only at an p2 ah ⊢;refine B2 (KR ah (by omega) (by omega)) ?_;rintro⟨c,aG⟩ ⟨c1,c2,ai⟩;simp only at c1 c2 ai ⊢;obtain⟨c,rfl⟩:∃m:Nat,c=(m:Int):=⟨c.toNat,by omega⟩;refine B2 (S:=λr=>r.2.2.2.length<=dm/\(∀d∈r.2.2.2,VD n d)/\BG (k+100) (r.1,r.2.1,r.2.2.1)) ?_ ?_
  ·refine Fu c (λj s=>s.2.2.2.2=((c - j:Nat):Int)/\s.1.length=j/\(∀d∈s.1,VD n d)/\BG (k+31+4*j) (s.2.1,s.2.2.1,s.2.2.2.1)) ⟨rfl,rfl,by simp,ai.Ag (by omega)⟩ (by omega) ?_ ?_
   ·rintro j ⟨ao,l,t,ab,z⟩ ar ⟨U,hw,O,K⟩;simp only at U hw O K;subst U;unfold Nb;refine Ep (by simp only;omega) (B2 (XK K (by omega) (by omega) (by omega)) ?_);rintro⟨d,aH⟩ ⟨ap,aq⟩;simp only at ap aq ⊢;refine BS.Tw (by simp;omega) (Cf ((c - (j+1):Nat):Int) (by omega) (by omega) (by omega) ?_);refine Be ⟨rfl,by simp [hw],?_,aq.Ag (by omega)⟩;intro x Y;rcases List.mem_append.1 Y with Y | Y
    ·exact O x Y
    ·cases List.mem_singleton.1 Y;exact ap
   ·rintro⟨ao,l,t,ab,z⟩ ⟨U,hw,O,K⟩;simp only at U hw O K;subst U;unfold Nb;exact Er (by simp) (Be ⟨_,rfl,by simp only;omega,O,K.Ag (by omega)⟩)
  ·rintro⟨l,t,ab,ao⟩ ⟨Z,aj,aa⟩;simp only at Z aa aj ⊢;exact Be ⟨⟨by simp only;omega,by simp only;omega,p2,by simp only;omega,by simp only;rw [an];exact aj⟩,by simp only;omega,Z,aa⟩
end Pal
namespace Pal
def gN(l:List Int)(i:Nat):Int:=l.getD i 0
def GC(l:List Int)(i v:Int):List Int:=l.set i.toNat (gN l i.toNat+v)
def BN(B:Int)(l:List Int):Prop:=l.length=5/\∀x∈l,-B<=x/\x<=B
theorem Kb{l:List Int}{i:Nat}(h:i<l.length):gN l i=l[i]:=by unfold gN;rw [List.getD_eq_getElem?_getD,List.getElem?_eq_getElem h];rfl
theorem BN.bd{B:Int}{l:List Int}(h:BN B l){i:Nat}(hi:i<5): -B<=gN l i/\gN l i<=B:=by
 rw [Kb (by have:=h.1;omega)];exact h.2 _ (List.getElem_mem _)
theorem BN.ix{B:Int}{l:List Int}(h:BN B l){i:Int}(K:0<=i)(hi:i<5):ix l i=some (gN l i.toNat):=by
 have:=h.1;rw [Kb (show i.toNat<l.length by omega)];exact Kd (m:=i.toNat) (by omega) (List.getElem?_eq_getElem _)
theorem BN.Ag{B C:Int}{l:List Int}(h:BN B l)(O:B<=C):BN C l:=⟨h.1,λx K=>by have:=h.2 x K;omega⟩
theorem BN.add{B V:Int}{l:List Int}(h:BN B l){i v:Int}(O:0<=i)(hi:i<5)(U: -V<=v)(Y:v<=V):BN (B+V) (GC l i v):=by
 have hb:=h.bd (i:=i.toNat) (by omega);refine⟨by unfold GC;rw [List.length_set];exact h.1,λx K=>?_⟩;rcases List.mem_or_eq_of_mem_set K with K | rfl
 ·have:=h.2 x K;omega
 ·omega
theorem O3{l:List Int}{i v:Int}(h:l.length=5)(K:0<=i)(hi:i<5)(j:Nat):gN (GC l i v) j=gN l j+if(j:Int)=i then v else 0:=by
 unfold GC gN;rw [List.getD_eq_getElem?_getD,List.getElem?_set,List.getD_eq_getElem?_getD,List.getD_eq_getElem?_getD];by_cases e:i.toNat=j
 ·rw [if_pos e,if_pos (by omega),if_pos (by omega),e];rfl
 ·rw [if_neg e,if_neg (by omega),Int.add_zero]
theorem VZ{l l':List Int}(h:l.length=5)(U:l'.length=5)(k:∀j,j<5->gN l j=gN l' j):l=l':=by
 refine List.ext_getElem (by omega) λj K O=>?_;rw [← Kb K,← Kb O];exact k j (by omega)
def G9(l:List Int)(d:DT):List Int:=GC (GC l d.2.1 d.2.2) d.1 (-d.2.2)
def Dr(o:OW):List Int:=o.2.foldl G9 (List.replicate 5 0)
theorem Sq{F:Nat}{o:OW}(aa:100<F)(h:VO o):f84 F o=some (Dr o)/\BN 200 (Dr o):=by
 have ab:=h.n5;have ac:=h.d8;have:BS (f84 F o) (λr=>r=Dr o/\BN 200 r):=by
  unfold f84;refine B2 (S:=λr=>r=Dr o/\BN 200 r) ?_ (λr U=>Be U);refine Fu o.2.length (λi s=>s.2=(i:Int)/\s.1=(o.2.take i).foldl G9 (List.replicate 5 0)/\BN (20*i) s.1) ⟨rfl,rfl,rfl,by simp⟩ (by omega) ?_ ?_
  ·rintro i ⟨w,c⟩ hi ⟨K,hw,hb⟩;simp only at K hw hb;subst K;obtain⟨v1,v2,ae,v4,ag,v6,ah⟩:=h.ds _ (List.getElem_mem hi);have O:=hb.add (i:=o.2[i].2.1) (v:=o.2[i].2.2) (V:=10) (by omega) (by omega) (by omega) (by omega);have g2:=O.add (i:=o.2[i].1) (v:= -o.2[i].2.2) (V:=10) (by omega) (by omega) (by omega) (by omega);have k1:=hb.bd (i:=o.2[i].2.1.toNat) (by omega);have ai:=O.bd (i:=o.2[i].1.toNat) (by omega);unfold MY;refine Ep (by simp only;omega) (EL (m:=i) rfl hi ?_);refine BY (hb.ix (by omega) (by omega)) (Cf _ rfl (by omega) (by omega) ?_);refine BY (hb.ix (by omega) (by omega)) (BY (O.ix (by omega) (by omega)) ?_);refine Cf _ rfl (by omega) (by omega) (BY (O.ix (by omega) (by omega)) ?_);refine Cf ((i+1:Nat):Int) (by simp) (by omega) (by omega) (Be ⟨rfl,?_,g2.Ag (by omega)⟩);simp only;rw [List.take_add_one,List.getElem?_eq_getElem hi,List.foldl_append,← hw]
   rfl
  ·rintro⟨w,c⟩ ⟨K,hw,hb⟩;simp only at K hw hb;subst K;unfold MY;rw [List.take_length] at hw;exact Er (by simp) (Be ⟨_,rfl,hw,hb.Ag (by omega)⟩)
 obtain⟨r,Y,rfl,Z⟩:=this;exact⟨Y,Z⟩
theorem Q1{α:Type}{l:List α}{i:Nat}{d:α}(h:i<l.length):l.getD i d=l[i]:=by rw [List.getD_eq_getElem?_getD,List.getElem?_eq_getElem h];rfl
end Pal
namespace Pal
end Pal
namespace Pal
end Pal
namespace Pal
def ZL(o:OW)(a b:Int):Bool:=o.2.any λd=>decide (d.1=a)&&decide (d.2.1=b)
def EP(c:List Int):Int:=c.getD (c.length - 1) 0
def ZY(o:OW)(c:List Int)(h:Nat):Bool:= !decide ((h:Int)∈c)&&(decide (c= []) || ZL o (EP c) h)
def ZS(o:OW)(c:List Int)(i:Nat):List (List Int):=((List.range i).filter (ZY o c)).map λh:Nat=>c++ [(h:Int)]
def ext(o:OW)(c:List Int):List (List Int):=ZS o c o.1.length
theorem OG{α β:Type}{f:α->List β}{m:Nat}:∀{l:List α},(∀x∈l,(f x).length<=m)->(l.flatMap f).length<=l.length*m
 | [],_=>by simp
 | a::l,h=>by
  rw [List.flatMap_cons,List.length_append,List.length_cons,Nat.succ_mul]
  have O:=h a List.mem_cons_self
  have U:=OG (l:=l) λx K=>h x (List.mem_cons_of_mem _ K)
  omega
end Pal
namespace Pal
def Zb(n:Nat)(w:List Int):Prop:=∀j,n<=j->gN w j=0
theorem MP{w:List Int}{n:Nat}{i:Int}{B:Int}(hb:BN B w)(K:n<=5)(O:0<=i)(hi:i<n):ix (w.take n) i=some (gN w i.toNat):=by
 have U:=hb.1;have:i.toNat<(w.take n).length:=by rw [List.length_take];omega
 refine Kd (m:=i.toNat) (by omega) ?_;rw [List.getElem?_eq_getElem this,List.getElem_take,Kb (by omega)]
theorem OO{w:List Int}{i j:Nat}{v:Int}(h:i≠j):gN (w.set i v) j=gN w j:=by
 unfold gN;rw [List.getD_eq_getElem?_getD,List.getElem?_set_ne h,List.getD_eq_getElem?_getD]
theorem VN{w:List Int}{d:DT}{n:Nat}(O:0<=d.1)(U:0<=d.2.1)(Y:d.1≠d.2.1):(G9 w d).take n=((w.take n).set d.1.toNat (gN w d.1.toNat - d.2.2)).set d.2.1.toNat (gN w d.2.1.toNat+d.2.2):=by
 unfold G9 GC;have K:d.2.1.toNat≠d.1.toNat:=by omega
 rw [OO K,List.take_set,List.take_set,List.set_comm _ _ K,Int.sub_eq_add_neg]
theorem Zb.add{n:Nat}{w:List Int}{i v:Int}(h:Zb n w)(hi:i<n)(O:0<=i):Zb n (GC w i v):=λj K=>by
 unfold GC
 rw [OO (by omega)]
 exact h j K
theorem Zb.zero(n:Nat):Zb n (List.replicate 5 0):=λj _=>by
 unfold gN
 rw [List.getD_eq_getElem?_getD,List.getElem?_replicate]
 split <;> rfl
theorem Ws{o:OW}(h:VO o):Zb o.1.length (Dr o):=by
 have:∀(ds:List DT) (w:List Int),Zb o.1.length w->(∀d∈ds,VD o.1.length d)->Zb o.1.length (ds.foldl G9 w):=by
  intro ds
  induction ds with
  | nil=>exact λw hw _=>hw
  | cons d ds K=>
   intro w hw hd;obtain⟨v1,v2,O,v4,_⟩:=hd d List.mem_cons_self;exact K _ ((hw.add v4 O).add v2 v1) λx U=>hd x (List.mem_cons_of_mem _ U)
 exact this _ _ (Zb.zero _) h.ds
theorem XM{F:Nat}{o:OW}(ac:100<F)(h:VO o):f89 F o=some ((Dr o).take o.1.length):=by
 have U:=h.n5;have ae:=h.d8;refine HT ?_;unfold f89;refine BY (b:=List.replicate o.1.length 0) ?_ ?_
 ·unfold H9;rw [if_pos (by omega)];rfl
 refine B2 (S:=λr=>r=(Dr o).take o.1.length) ?_ (λr Y=>Be Y);refine Fu o.2.length (λi s=>s.2=(i:Int)/\∃w,s.1=w.take o.1.length/\w=(o.2.take i).foldl G9 (List.replicate 5 0)/\BN (20*i) w) ⟨rfl,List.replicate 5 0,by rw [List.take_replicate,Nat.min_eq_left U],rfl,rfl,by simp⟩ (by omega) ?_ ?_
 ·rintro i ⟨s,c⟩ hi ⟨K,w,O,hw,hb⟩;simp only at K O;subst K;subst O;obtain⟨v1,v2,Z,v4,aa,v6,ag⟩:=h.ds _ (List.getElem_mem hi);have ab:=hb.add (i:=o.2[i].2.1) (v:=o.2[i].2.2) (V:=10) (by omega) (by omega) (by omega) (by omega);have g2:=ab.add (i:=o.2[i].1) (v:= -o.2[i].2.2) (V:=10) (by omega) (by omega) (by omega) (by omega);have k1:=hb.bd (i:=o.2[i].2.1.toNat) (by omega);have ah:=hb.bd (i:=o.2[i].1.toNat) (by omega);unfold M0;refine Ep (by simp only;omega) (EL (m:=i) rfl hi ?_);refine BY (MP hb U (by omega) (by omega)) (BY (MP hb U (by omega) (by omega)) ?_);refine Cf _ rfl (by omega) (by omega) (BY (MP hb U (by omega) (by omega)) ?_);refine Cf _ rfl (by omega) (by omega) (Cf ((i+1:Nat):Int) (by simp) (by omega) (by omega) ?_);refine Be ⟨rfl,G9 w o.2[i],(VN v1 Z aa).symm,?_,g2.Ag (by omega)⟩;rw [List.take_add_one,List.getElem?_eq_getElem hi,List.foldl_append,← hw]
  rfl
 ·rintro⟨s,c⟩ ⟨K,w,O,hw,hb⟩;simp only at K O;subst K;unfold M0;rw [List.take_length] at hw;exact Er (by simp) (Be ⟨_,rfl,by simp only;rw [O,hw];rfl⟩)
end Pal
namespace Pal
def By(l:List Int):Int:=l.foldl (λm x=>max m (x+1)) 0
theorem Ou(l:List Int)(k:Int):By (l++ [k])=max (By l) (k+1):=by unfold By;rw [List.foldl_append];rfl
def RG(l:List Int):Prop:=0<=By l/\By l<=(l.length:Int)/\∀x∈l,0<=x/\x<By l
theorem RG.nil:RG []:=⟨Int.le_refl _,Int.le_refl _,λx K=>by cases K⟩
theorem RG.snoc{l:List Int}{k:Int}(h:RG l)(Y:0<=k)(Z:k<=By l):RG (l++ [k]):=by
 obtain⟨aa,ab,O⟩:=h;have U:((l++ [k]).length:Int)=(l.length:Int)+1:=by simp
 unfold RG;rw [Ou,U];refine⟨by omega,by omega,λx K=>?_⟩;rcases List.mem_append.1 K with K | K
 ·have:=O x K;omega
 ·cases List.mem_singleton.1 K;omega
def C3:Nat->List Int->List (List Int)
 | 0,l=> [l]
 | j+1,l=>(List.range ((By l).toNat+1)).flatMap λk:Nat=>C3 j (l++ [(k:Int)])
theorem LG:∀(j:Nat) (l:List Int),RG l->∀x∈C3 j l,RG x/\x.length=l.length+j
 | 0,l,h,x,K=>by cases List.mem_singleton.1 K;exact⟨h,rfl⟩
 | j+1,l,h,x,K=>by
  obtain⟨k,O,K⟩:=List.mem_flatMap.1 K
  have O:=List.mem_range.1 O
  have Y:=h.1
  obtain⟨U,g2⟩:=LG j _ (h.snoc (k:=(k:Int)) (by omega) (by omega)) x K
  exact⟨U,by rw [g2];simp;omega⟩
theorem OV:∀(j:Nat) (l:List Int),RG l->l.length+j<=5->(C3 j l).length<=5 ^ j
 | 0,l,h,_=>by simp [C3]
 | j+1,l,h,O=>by
  have U:=h.1;have Y:=h.2.1
  have:((List.range ((By l).toNat+1)).flatMap λk:Nat=>C3 j (l++ [(k:Int)])).length<=(List.range ((By l).toNat+1)).length*5 ^ j:=OG λk K=>by
   have K:=List.mem_range.1 K
   exact OV j _ (h.snoc (by omega) (by omega)) (by simp;omega)
  rw [List.length_range] at this
  show((List.range ((By l).toNat+1)).flatMap λk:Nat=>C3 j (l++ [(k:Int)])).length<=_
  rw [Nat.pow_succ,Nat.mul_comm]
  exact Nat.le_trans this (Nat.mul_le_mul_right _ (by omega))
def FF(w l:List Int)(g:Int):Nat->Int
 | 0=>0
 | i+1=>FF w l g i+if l.getD i 0=g then gN w i else 0
def sm(w l:List Int)(g:Int):Int:=FF w l g l.length
theorem Rv(w l:List Int)(k g:Int):∀i,i<=l.length->FF w (l++ [k]) g i=FF w l g i
 | 0,_=>rfl
 | i+1,h=>by
  show FF w (l++ [k]) g i+_=FF w l g i+_
  rw [Rv w l k g i (by omega),List.getD_eq_getElem?_getD,List.getElem?_append_left (by omega),← List.getD_eq_getElem?_getD]
theorem W8(w l:List Int)(k g:Int):sm w (l++ [k]) g=sm w l g+if k=g then gN w l.length else 0:=by
 unfold sm;rw [List.length_append,List.length_singleton];show FF w (l++ [k]) g l.length+_=_;rw [Rv w l k g _ (Nat.le_refl _),List.getD_eq_getElem?_getD,List.getElem?_append_right (Nat.le_refl _),Nat.sub_self]
 rfl
theorem SU{w l:List Int}{g:Int}(hw:BN 200 w):∀i:Nat,i<=5-> -(200*(i:Int))<=FF w l g i/\FF w l g i<=200*(i:Int)
 | 0,_=>by simp [FF]
 | i+1,h=>by
  have K:=SU (l:=l) (g:=g) hw i (by omega)
  have O:=hw.bd (show i<5 by omega)
  show -_<=FF w l g i+_/\FF w l g i+_<=_
  split <;> omega
theorem Oh{w l:List Int}{g:Int}(h:∀x∈l,x≠g):∀i,i<=l.length->FF w l g i=0
 | 0,_=>rfl
 | i+1,hi=>by
  show FF w l g i+_=0
  rw [Oh h i (by omega),if_neg,Int.add_zero]
  rw [Q1 (by omega)]
  exact h _ (List.getElem_mem _)
def Kv(w l:List Int):Prop:=∀g:Nat,(g:Int)<By l->sm w l g=0
noncomputable def Ci(w:List Int)(b l:List Int):List Int:=open Classical in if Kv w l/\By b<By l then l else b
theorem Sr(w b l:List Int):Ci w b l=l∨Ci w b l=b:=by
 unfold Ci;split
 ·exact .inl rfl
 ·exact .inr rfl
theorem Tl{w:List Int}{n:Nat}:∀(L:List (List Int)) (b:List Int),(∀x∈L,RG x/\x.length=n)->(RG b/\b.length<=n)->RG (L.foldl (Ci w) b)/\(L.foldl (Ci w) b).length<=n
 | [],b,_,hb=>hb
 | x::L,b,h,hb=>by
  rw [List.foldl_cons]
  have K:=h x List.mem_cons_self
  refine Tl L _ (λy O=>h y (List.mem_cons_of_mem _ O)) ?_
  rcases Sr w b x with e | e <;> rw [e]
  ·exact⟨K.1,Nat.le_of_eq K.2⟩
  ·exact hb
noncomputable def JE(o:OW):List Int:=(C3 o.1.length []).foldl (Ci (Dr o)) []
theorem VP{o:OW}(h:VO o):(JE o).length<=5:=by
 have K:=h.n5;have:=(Tl (w:=Dr o) (n:=o.1.length) (C3 o.1.length []) [] (λx O=>by have:=LG _ _ RG.nil x O;exact⟨this.1,by simpa using this.2⟩) ⟨RG.nil,by simp⟩).2;exact Nat.le_trans this K
theorem MA{l:List Int}{i:Nat}(hi:i<l.length):By (l.take (i+1))=max (By (l.take i)) (l[i]+1):=by
 rw [List.take_add_one,List.getElem?_eq_getElem hi,Option.toList_some,Ou]
theorem Sx{F:Nat}{l:List Int}(aa:100<F)(h:RG l)(U:0<l.length)(ab:l.length<=20):f98 F l=some (By l - 1):=by
 obtain⟨ac,ae,Y⟩:=h;refine HT ?_;unfold f98;refine Er (by omega) (EL (m:=0) rfl U ?_);have Z:By (l.take 1)=l[0]+1:=by
  have ag:=Y _ (List.getElem_mem U);rw [MA U];show(max 0 (l[0]+1):Int)=_;omega
 refine B2 (S:=λr=>r=By l - 1) ?_ (by rintro r rfl;exact Be rfl);refine Fu (l.length - 1) (λi s=>s.2=((i+1:Nat):Int)/\s.1=By (l.take (i+1)) - 1) ⟨rfl,by rw [Z];simp only;omega⟩ (by omega) ?_ ?_
 ·rintro i ⟨m,z⟩ hi ⟨K,O⟩;simp only at K O;subst K;subst O;unfold M1
  dsimp only;refine Ep (by omega) (EL (m:=i+1) rfl (by omega) ?_);refine Cf ((i+1+1:Nat):Int) (by simp) (by omega) (by omega) (Be ⟨rfl,?_⟩);simp only;rw [MA (i:=i+1) (by omega)];omega
 ·rintro⟨m,z⟩ ⟨K,O⟩;simp only at K O;subst K;subst O;unfold M1
  dsimp only;rw [show l.length - 1+1=l.length by omega,List.take_length];exact Er (by omega) (Be ⟨_,rfl,rfl⟩)
theorem XX{F:Nat}{b l:List Int}(U:100<F)(h:RG l)(O:0<l.length)(Y:l.length<=20)(hb:RG b)(Z:b.length<=20):
  f96 F (b,decide (b≠ [])) l=some (if By b<By l then(l,decide (l≠ [])) else(b,decide (b≠ []))):=by
 have aa:0<By l:=by
  have:=h.2.2 _ (List.getElem_mem O);omega
 have ab:l≠ []:=by rintro rfl;simp at O
 refine HT ?_;unfold f96;refine B2 (S:=λq=>q=decide (By b<By l)) ?_ ?_
 ·refine Fe (λK=>Be ?_) (λK=>?_)
  ·have:b= []:=by simpa using K
   subst this;exact(decide_eq_true (show By []<By l from aa)).symm
  ·have ac:b≠ []:=by simpa using K
   have ae:0<b.length:=Nat.pos_of_ne_zero λe=>ac (List.eq_nil_of_length_eq_zero e);unfold f97;refine BY (b:=decide (By b - 1<By l - 1)) ?_ (Be (decide_eq_decide.2 (by omega)));rw [Sx U h O Y,Option.bind_some,Sx U hb ae Z,Option.bind_some]
 ·rintro q rfl;refine B2 (S:=λr=>r=if By b<By l then(l,decide (l≠ [])) else(b,decide (b≠ []))) ?_ (by rintro r rfl;exact Be rfl)
  refine Fe (λK=>Be ?_) (λK=>Be ?_)
  ·rw [if_pos (of_decide_eq_true K),decide_eq_true ab]
  ·rw [if_neg (λk=>K (decide_eq_true k))]
theorem SR{F:Nat}{o:OW}{w:List Int}(ac:100<F)(ag:2<=o.1.length)(ah:o.1.length<=5)(hw:BN 200 w):∀(j N:Nat) (l S b:List Int),j<N->l.length+j=o.1.length->RG l->BN (200*(l.length:Int)) S->(∀g:Nat,g<5->gN S g=sm w l g)->RG b->b.length<=20->
  KY N F l S (By l) o (b,decide (b≠ [])) w=some ((C3 j l).foldl (Ci w) b,decide ((C3 j l).foldl (Ci w) b≠ []))
 | 0,N+1,l,S,b,_,ai,h,U,Z,hb,ab=>by
  show Kf (KY N F) F l S (By l) o (b,decide (b≠ [])) w=_
  have K:S=List.replicate 5 0↔Kv w l:=by
   constructor
   ·intro e g aa;have:=h.2.1;rw [← Z g (by omega),e];unfold gN;rw [List.getD_eq_getElem?_getD,List.getElem?_replicate];split <;> rfl
   ·intro k;refine VZ U.1 (by simp) λg aa=>?_;rw [Z g aa,show gN (List.replicate 5 (0:Int)) g=0 by unfold gN;rw [List.getD_eq_getElem?_getD,List.getElem?_replicate];split <;> rfl];rcases Int.lt_or_le (g:Int) (By l) with aj | aq
    ·exact k g aj
    ·exact Oh (λx O=>by have:=h.2.2 x O;omega) _ (Nat.le_refl _)
  refine HT ?_;unfold Kf;refine Ep (by omega) (B2 (S:=λr=>r=(Ci w b l,decide (Ci w b l≠ []))) ?_ (by rintro r rfl;exact Be rfl));refine Fe (λhe=>?_) (λhe=>Be ?_)
  ·refine BY (XX ac h (by omega) (by omega) hb ab) (Be ?_);unfold Ci;by_cases hm:By b<By l
   ·rw [if_pos hm,if_pos ⟨K.1 he,hm⟩]
   ·rw [if_neg hm,if_neg (λk=>hm k.2)]
  ·unfold Ci;rw [if_neg (λk=>he (K.2 k.1))]
 | j+1,N+1,l,S,b,ar,ai,h,U,Z,hb,ab=>by
  have au:=h.1;have av:=h.2.1;have aw:=hw.bd (show l.length<5 by omega);show Kf (KY N F) F l S (By l) o (b,decide (b≠ [])) w=_;have ak:∀i,i<=(By l).toNat+1->RG (((List.range i).flatMap λk:Nat=>C3 j (l++ [(k:Int)])).foldl (Ci w) b)/\(((List.range i).flatMap λk:Nat=>C3 j (l++ [(k:Int)])).foldl (Ci w) b).length<=20:=by
   intro i hi;have:∀(L:List (List Int)) (b:List Int),(∀x∈L,RG x/\x.length<=20)->(RG b/\b.length<=20)->RG (L.foldl (Ci w) b)/\(L.foldl (Ci w) b).length<=20:=by
    intro L
    induction L with
    | nil=>intro b _ hb;exact hb
    | cons x L al=>
     intro b O hb;rw [List.foldl_cons];refine al _ (λy am=>O y (List.mem_cons_of_mem _ am)) ?_;rcases Sr w b x with e | e <;> rw [e]
     ·exact O x List.mem_cons_self
     ·exact hb
   refine this _ b (λx O=>?_) ⟨hb,ab⟩;obtain⟨k,ae,O⟩:=List.mem_flatMap.1 O;have ae:=List.mem_range.1 ae;obtain⟨an,g2⟩:=LG j _ (h.snoc (k:=(k:Int)) (by omega) (by omega)) x O;exact⟨an,by rw [g2];simp;omega⟩
  refine HT ?_;unfold Kf;refine Er (by omega) (Cf _ rfl (by omega) (by omega) ?_);refine B2 (S:=λr=>r=((C3 (j+1) l).foldl (Ci w) b,decide ((C3 (j+1) l).foldl (Ci w) b≠ []))) ?_ (by rintro r rfl;exact Be rfl);refine Fu ((By l).toNat+1) (λi s=>s.2.2=(i:Int)/\s.1=((List.range i).flatMap λk:Nat=>C3 j (l++ [(k:Int)])).foldl (Ci w) b/\s.2.1=decide (s.1≠ [])) ⟨rfl,rfl,rfl⟩ (by omega) ?_ ?_
  ·rintro i ⟨m,q,z⟩ hi ⟨K,hm,Y⟩;simp only at K hm;change q=decide (m≠ []) at Y;obtain⟨r1,r2⟩:=ak i (by omega);subst K;subst Y;rw [← hm] at r1 r2;have ay:=U.bd (show i<5 by omega);have ao:S.set i (gN S i+gN w l.length)=GC S (i:Int) (gN w l.length):=by unfold GC;rw [show Int.toNat (i:Int)=i by omega]
   unfold M6
   dsimp only;refine Ep (by omega) (BY (U.ix (by omega) (by omega)) ?_);refine BY (hw.ix (by omega) (by omega)) ?_;rw [show Int.toNat (i:Int)=i by omega,show Int.toNat (l.length:Int)=l.length by omega];refine Cf _ rfl (by omega) (by omega) (BY (U.ix (by omega) (by omega)) ?_);refine Cf ((i+1:Nat):Int) (by simp) (by omega) (by omega) (BS.Tw (by simp;omega) ?_);rw [ao,show max (By l) (((i+1:Nat):Int))=By (l++ [(i:Int)]) by rw [Ou];simp];have ap:(((l++ [(i:Int)]).length:Nat):Int)=(l.length:Int)+1:=by simp
   refine BY (SR ac ag ah hw j N (l++ [(i:Int)]) (GC S (i:Int) (gN w l.length)) m (by omega) (by simp;omega) (h.snoc (by omega) (by omega)) ((U.add (V:=200) (by omega) (by omega) (by omega) (by omega)).Ag (by rw [ap];omega)) (λg aa=>?_) r1 r2) ?_
   ·rw [O3 U.1 (by omega) (by omega),Z g aa,W8];by_cases e:(g:Int)=(i:Int)
    ·rw [if_pos e,if_pos e.symm]
    ·rw [if_neg e,if_neg (λk=>e k.symm)]
   ·refine Cf ((i+1:Nat):Int) (by simp) (by omega) (by omega) (Be ⟨rfl,?_,rfl⟩);simp only;rw [List.range_succ,List.flatMap_append,List.foldl_append,← hm];simp only [List.flatMap_cons,List.flatMap_nil,List.append_nil]
  ·rintro⟨m,q,z⟩ ⟨K,hm,Y⟩;simp only at K hm;change q=decide (m≠ []) at Y;subst K;subst Y;subst hm;unfold M6
   dsimp only;exact Er (by omega) (Be ⟨_,rfl,rfl⟩)
theorem YO{F:Nat}{o:OW}(U:4000<F)(h:VO o):f52 F o=some (JE o,0):=by
 have K:=h.n5;obtain⟨hw,hb⟩:=Sq (F:=F) (by omega) h;refine HT ?_;unfold f52;refine BY (ZD (by omega) h) ?_;refine Er (by simp) ?_;refine BY hw ?_;have:=SR (F:=F) (by omega) h.n2 K hb o.1.length F [] (List.replicate 5 0) [] (by omega) (by simp) RG.nil ⟨by simp,λx O=>by have:=List.eq_of_mem_replicate O;omega⟩ (λg Y=>by unfold gN sm FF;rw [List.getD_eq_getElem?_getD,List.getElem?_replicate];split <;> rfl) RG.nil (by simp);refine BY (b:=(JE o,decide (JE o≠ []))) this (Be rfl)
end Pal
namespace Pal
open Go Go.Conc Go.Proofs
open Go.Proofs.Tryz
variable {J:Judge Tryz.prog}{E:LH}
end Pal
namespace Pal
theorem Lx{w:List Int}{d:DT}(h:w.length=5)(a1:0<=d.1)(K:d.1<5)(O:0<=d.2.1)(U:d.2.1<5)(j:Nat):gN (G9 w d) j=gN w j+(if(j:Int)=d.2.1 then d.2.2 else 0)+(if(j:Int)=d.1 then -d.2.2 else 0):=by
 unfold G9;rw [O3 (by unfold GC;rw [List.length_set];exact h) a1 K,O3 h O U]
theorem W6{w:List Int}{d:DT}(h:w.length=5):(G9 w d).length=5:=by unfold G9 GC;rw [List.length_set,List.length_set];exact h
end Pal
namespace Pal
def JJ(x:List Int):A1:=(List.range ((By x).toNat+1)).map λk:Nat=>x++ [(k:Int)]
theorem Pe(j:Nat)(l:List Int):C3 (j+1) l=(JJ l).flatMap (C3 j):=by unfold JJ;rw [List.flatMap_map];rfl
theorem Om:∀(j:Nat) (l:List Int),C3 (j+1) l=(C3 j l).flatMap JJ
 | 0,l=>by rw [Pe];simp [C3]
 | j+1,l=>by
  rw [Pe (j+1),show C3 (j+1)=λx=>(C3 j x).flatMap JJ from funext λx=>Om j x,← List.flatMap_assoc,← Pe]
  rw [Om j l]
theorem V6{F:Nat}{l:List Int}(K:l.length<=40):LS F l=some l:=by
 unfold LS;have:Dp ([]:List Int) l=some l:=by unfold Dp;rw [if_pos (by simp;omega)];rfl
 rw [this];rfl
theorem Vz{F:Nat}{L acc:A1}{i t:Nat}{a:A1}(Y:100<F)(U:t<L.length)(h:RG L[t])(Z:L[t].length<=5)(aa:acc.length<=100000):
  Pal.iter (Lz F (L,(i:Int)) (a,(t:Int)) (By L[t] - 1)) F (acc,0)=some (acc++JJ L[t]):=by
 have ab:=h.1;have ac:=h.2.1;refine HT ?_;refine Fu ((By L[t]).toNat+1) (λk s=>s.2=(k:Int)/\s.1=acc++(List.range k).map λk:Nat=>L[t]++ [(k:Int)]) ⟨rfl,by simp⟩ (by omega) ?_ ?_
 ·rintro k ⟨m,z⟩ ae ⟨K,O⟩;simp only at K O;subst K;subst O;unfold Lz
  dsimp only;refine Cf (By L[t]) (by omega) (by omega) (by omega) (Ep (by omega) ?_);refine EL (m:=t) rfl U (BY (V6 (by omega)) ?_);refine Lk (by omega) (Lk (by simp;omega) ?_);refine Cf ((k+1:Nat):Int) (by simp) (by omega) (by omega) (Be ⟨rfl,?_⟩);simp only;rw [List.range_succ,List.map_append,List.append_assoc]
  rfl
 ·rintro⟨m,z⟩ ⟨K,O⟩;simp only at K O;subst K;subst O;unfold Lz
  dsimp only;exact Cf (By L[t]) (by omega) (by omega) (by omega) (Er (by omega) (Be ⟨_,rfl,rfl⟩))
theorem Wj{F:Nat}{L a:A1}{i t:Nat}(Z:100<F)(U:t<L.length)(h:RG L[t])(Y:L[t].length=i)(hi:i<=5):
  Pal.iter (Lw F (L,(i:Int)) (a,(t:Int))) F (-1,0)=some (By L[t] - 1):=by
 have aa:=h.1;have ab:=h.2.1;refine HT ?_;refine Fu i (λk s=>s.2=(k:Int)/\s.1=By (L[t].take k) - 1) ⟨rfl,rfl⟩ (by omega) ?_ ?_
 ·rintro k ⟨m,z⟩ ac ⟨K,O⟩;simp only at K O;subst K;subst O;unfold Lw
  dsimp only;refine Ep (by omega) (EL (m:=t) rfl U ?_);refine EL (m:=k) rfl (by omega) (Cf ((k+1:Nat):Int) (by simp) (by omega) (by omega) ?_);refine Be ⟨rfl,?_⟩;simp only;rw [MA (by omega:k<L[t].length)];omega
 ·rintro⟨m,z⟩ ⟨K,O⟩;simp only at K O;subst K;subst O;unfold Lw
  dsimp only;exact Er (by omega) (Be ⟨_,rfl,by rw [← Y,List.take_length]⟩)
theorem Ye{F n:Nat}(ai:4000<F)(aj:n<=5):f56 F (n:Int)=some (C3 n []):=by
 have ak:(5:Nat) ^ 5=3125:=by decide
 refine HT ?_;unfold f56;refine B2 (S:=λr=>r=C3 n []) ?_ (by rintro r rfl;exact Be rfl);refine Fu n (λi s=>s.2=(i:Int)/\s.1=C3 i []) ⟨rfl,rfl⟩ (by omega) ?_ ?_
 ·rintro i ⟨m,z⟩ hi ⟨K,O⟩;simp only at K O;subst K;subst O;have Z:=LG i [] RG.nil;have hlen:=OV i [] RG.nil (by simp;omega);have al:(5:Nat) ^ i<=5 ^ 5:=Nat.pow_le_pow_right (by omega) (by omega);have O:=Om i [];generalize C3 i []=L at Z hlen O ⊢;unfold M5
  dsimp only;refine Ep (by omega) (B2 (S:=λr=>r=C3 (i+1) []) ?_ ?_)
  ·refine Fu L.length (λt s=>s.2=(t:Int)/\s.1=(L.take t).flatMap JJ) ⟨rfl,rfl⟩ (by omega) ?_ ?_
   ·rintro t ⟨m,z⟩ Y ⟨K,U⟩;simp only at K U;subst K;subst U;obtain⟨aa,g2⟩:=Z _ (List.getElem_mem Y);have ac:L[t].length=i:=by simpa using g2
    have ae:((L.take t).flatMap JJ).length<=(L.take t).length*6:=OG λx ag=>by
     obtain⟨ab,ah⟩:=Z x (List.mem_of_mem_take ag);have:=ab.1;have:=ab.2.1;unfold JJ;rw [List.length_map,List.length_range];simp at ah;omega
    rw [List.length_take] at ae;unfold MZ
    dsimp only;refine Ep (by omega) (BY (Wj (by omega) Y aa ac (by omega)) ?_);refine BY (Vz (by omega) Y aa (by omega) (by omega)) (Cf ((t+1:Nat):Int) (by simp) (by omega) (by omega) ?_);refine Be ⟨rfl,?_⟩;simp only;rw [List.take_add_one,List.getElem?_eq_getElem Y,List.flatMap_append];simp only [Option.toList_some,List.flatMap_cons,List.flatMap_nil,List.append_nil]
   ·rintro⟨m,z⟩ ⟨K,U⟩;simp only at K U;subst K;subst U;unfold MZ
    dsimp only;exact Er (by omega) (Be ⟨_,rfl,by rw [List.take_length,O]⟩)
  ·rintro r rfl;exact Cf ((i+1:Nat):Int) (by simp) (by omega) (by omega) (Be ⟨rfl,rfl⟩)
 ·rintro⟨m,z⟩ ⟨K,O⟩;simp only at K O;subst K;subst O;unfold M5
  dsimp only;exact Er (by omega) (Be ⟨_,rfl,rfl⟩)
theorem SO{a v:Int}(K:0<=a)(O:a<5):(if((0:Nat):Int)=a then v else 0)+(if((1:Nat):Int)=a then v else 0)+(if((2:Nat):Int)=a then v else 0)+(if((3:Nat):Int)=a then v else 0)+(if((4:Nat):Int)=a then v else 0)=v:=by
 have:a=0∨a=1∨a=2∨a=3∨a=4:=by omega
 rcases this with rfl | rfl | rfl | rfl | rfl <;> simp
def S5(w:List Int):Int:=gN w 0+gN w 1+gN w 2+gN w 3+gN w 4
theorem XT{w:List Int}{d:DT}(h:w.length=5)(a1:0<=d.1)(K:d.1<5)(O:0<=d.2.1)(U:d.2.1<5):S5 (G9 w d)=S5 w:=by
 unfold S5;rw [Lx h a1 K O U,Lx h a1 K O U,Lx h a1 K O U,Lx h a1 K O U,Lx h a1 K O U];have Y:=SO (v:=d.2.2) O U;have Z:=SO (v:= -d.2.2) a1 K;omega
theorem XO{o:OW}(h:VO o):S5 (Dr o)=0:=by
 have Z:=h.n5;have:∀(l:List DT) (w:List Int),(∀d∈l,VD o.1.length d)->w.length=5->S5 w=0->S5 (l.foldl G9 w)=0:=by
  intro l
  induction l with
  | nil=>intro w _ _ hw;exact hw
  | cons d l O=>
   intro w hd K hw;obtain⟨v1,v2,U,v4,-⟩:=hd d List.mem_cons_self;rw [List.foldl_cons];exact O _ (λx Y=>hd x (List.mem_cons_of_mem _ Y)) (W6 K) (by rw [XT K v1 (by omega) U (by omega),hw])
 exact this _ _ h.ds (by simp) (by decide)
theorem QT:∀(j:Nat) (l:List Int),l++List.replicate j 0∈C3 j l
 | 0,l=>by simp [C3]
 | j+1,l=>List.mem_flatMap.2 ⟨0,List.mem_range.2 (by omega),by
   have:=QT j (l++ [((0:Nat):Int)])
   rw [List.replicate_succ,show l++(0:Int)::List.replicate j 0=(l++ [((0:Nat):Int)])++List.replicate j 0 by simp]
   exact this⟩
theorem VJ{o:OW}(h:VO o):Kv (Dr o) (List.replicate o.1.length 0)/\0<By (List.replicate o.1.length 0):=by
 have aa:=h.n2;have ab:=h.n5;have O:=Ws h;have Y:=XO h;unfold S5 at Y;generalize Dr o=w at*;generalize o.1.length=n at*;have:n=2∨n=3∨n=4∨n=5:=by omega
 have Z:=O 2;have U:=O 3;have e2:=O 4;rcases this with rfl | rfl | rfl | rfl <;> refine⟨λg K=>?_,by decide⟩
 ·have:g=0:=by change (g:Int)<1 at K;omega
  subst this;show(0:Int)+gN w 0+gN w 1=0;have:=Z (by omega);have:=U (by omega);have:=e2 (by omega);omega
 ·have:g=0:=by change (g:Int)<1 at K;omega
  subst this;show(0:Int)+gN w 0+gN w 1+gN w 2=0;have:=U (by omega);have:=e2 (by omega);omega
 ·have:g=0:=by change (g:Int)<1 at K;omega
  subst this;show(0:Int)+gN w 0+gN w 1+gN w 2+gN w 3=0;have:=e2 (by omega);omega
 ·have:g=0:=by change (g:Int)<1 at K;omega
  subst this;show(0:Int)+gN w 0+gN w 1+gN w 2+gN w 3+gN w 4=0;omega
theorem ZH(w b l:List Int):By b<=By (Ci w b l)/\(Kv w l->By l<=By (Ci w b l)):=by
 unfold Ci;split
 ·rename_i h;exact⟨Int.le_of_lt h.2,λ_=>Int.le_refl _⟩
 ·rename_i h;exact⟨Int.le_refl _,λK=>Int.not_lt.1 λk=>h ⟨K,k⟩⟩
theorem RF{w l:List Int}(K:Kv w l):∀(L:A1) (b:List Int),By b<=By (L.foldl (Ci w) b)/\(l∈L->By l<=By (L.foldl (Ci w) b))
 | [],b=>⟨Int.le_refl _,λh=>by cases h⟩
 | x::L,b=>by
  rw [List.foldl_cons]
  obtain⟨O,g2⟩:=RF K L (Ci w b x)
  obtain⟨k1,U⟩:=ZH w b x
  refine⟨Int.le_trans k1 O,λh=>?_⟩
  rcases List.mem_cons.1 h with rfl | h
  ·exact Int.le_trans (U K) O
  ·exact g2 h
theorem Vk{o:OW}(h:VO o):JE o≠ []:=by
 obtain⟨K,U⟩:=VJ h;have O:=(RF K (C3 o.1.length []) []).2 (by simpa using QT o.1.length []);intro e;unfold JE at e;rw [e] at O;have:By []=0:=rfl;omega
theorem XZ{F:Nat}{o:OW}(K:100<F)(h:VO o):f55 F o=some ((Dr o).take o.1.length):=by
 rw [← XM K h];have e:O9 F o=M0 F o:=by funext s;rfl
 unfold f55 f89;rw [e]
theorem Vh{w:List Int}{i:Nat}{v:Int}(h:i<w.length):gN (w.set i v) i=v:=by
 unfold gN;rw [List.getD_eq_getElem?_getD,List.getElem?_set_self h];rfl
theorem VR{F n:Nat}{w:List Int}{L:A1}{i:Nat}{q:Int×Int}(ai:100<F)(ac:n<=5)(hw:BN 200 w)(hi:i<L.length)(K:RG L[i])(ab:L[i].length=n):
  BS (Pal.iter (Ly F (w.take n) L (q.1,q.2,(i:Int))) F (List.replicate n 0,0,0)) (λr=>r.1.length=n/\(∀g:Nat,g<n->gN r.1 g=sm w L[i] g)/\r.2=By L[i]):=by
 obtain⟨aj,ak,ae⟩:=id K;have al:(w.take n).length=n:=by rw [List.length_take,hw.1];omega
 refine Fu n (λt s=>s.2.2=(t:Int)/\s.1.length=n/\(∀g:Nat,g<n->gN s.1 g=FF w L[i] g t)/\s.2.1=By (L[i].take t)) ⟨rfl,by simp,λg K=>?_,rfl⟩ (by omega) ?_ ?_
 ·show gN (List.replicate n 0) g=0;unfold gN;rw [List.getD_eq_getElem?_getD,List.getElem?_replicate];split <;> rfl
 ·rintro t ⟨S,m,z⟩ am ⟨U,Y,O,hm⟩;simp only at U Y O hm;subst U;subst hm;have an:=ae _ (List.getElem_mem (show t<L[i].length by omega));obtain⟨x,Z⟩:∃x:Nat,L[i][t]=(x:Int):=⟨L[i][t].toNat,by omega⟩;have ag:x<n:=by omega
  have hb:=SU (l:=L[i]) (g:=(x:Int)) hw t (by omega);have ao:=hw.bd (show t<5 by omega);have ah:=O x ag;have aa:ix S (x:Int)=some (gN S x):=Kd (m:=x) rfl (by rw [List.getElem?_eq_getElem (by omega),Kb (by omega)]);have EA:ix L[i] (t:Int)=some (x:Int):=Kd (m:=t) rfl (by rw [List.getElem?_eq_getElem (by omega),Z]);unfold Ly
  dsimp only;refine Ep (by omega) (EL (m:=i) rfl hi ?_);refine BY EA (BY aa ?_);refine EL (m:=i) rfl hi (BY EA ?_);refine EL (m:=i) rfl hi (BY EA ?_);refine BY aa (BY (MP hw ac (by omega) (by omega)) ?_);rw [show Int.toNat (t:Int)=t by omega];refine Cf _ rfl (by omega) (by omega) (BY aa ?_);refine EL (m:=i) rfl hi (BY EA ?_);refine Cf _ rfl (by omega) (by omega) (Cf ((t+1:Nat):Int) (by simp) (by omega) (by omega) ?_);rw [show Int.toNat (x:Int)=x by omega];refine Be ⟨rfl,by simp only;rw [List.length_set];exact Y,λg K=>?_,?_⟩
  ·show gN (S.set x (gN S x+gN w t)) g=FF w L[i] g t+if L[i].getD t 0=(g:Int) then gN w t else 0
   rw [Q1 (by omega),Z];by_cases e:x=g
   ·subst e;rw [Vh (by omega),if_pos rfl,ah]
   ·rw [OO e,if_neg (by omega),Int.add_zero];exact O g K
  ·simp only;rw [MA (by omega),Z]
 ·rintro⟨S,m,z⟩ ⟨U,Y,O,hm⟩;simp only at U Y O hm;subst U;subst hm;unfold Ly
  dsimp only;refine Er (by omega) (Be ⟨_,rfl,Y,λg K=>?_,by simp only;rw [← ab,List.take_length]⟩);show gN S g=FF w L[i] g L[i].length;rw [ab];exact O g K
theorem VS{F n:Nat}{S:List Int}{m:Int}(Y:100<F)(Z:n<=5)(aa:S.length=n):BS (Pal.iter (Lt F (S,m)) F (true,0)) (λr=>r=true↔∀g:Nat,g<n->gN S g=0):=by
 refine Fu n (λt s=>s.2=(t:Int)/\(s.1=true↔∀g:Nat,g<t->gN S g=0)) ⟨rfl,by simp⟩ (by omega) ?_ ?_
 ·rintro t ⟨b,z⟩ ab ⟨K,hb⟩;simp only at K hb;subst K;have EA:ix S (t:Int)=some (gN S t):=Kd (m:=t) rfl (by rw [List.getElem?_eq_getElem (by omega),Kb (by omega)]);unfold Lt
  dsimp only;refine Ep (by omega) (B2 (S:=λr=>r=true↔∀g:Nat,g<t+1->gN S g=0) ?_ ?_)
  ·refine Fe (λh=>?_) (λh=>Be (iff_of_false (by simp) λk=>h (hb.2 λg O=>k g (by omega))));refine BY EA (Be ?_);rw [decide_eq_true_iff];refine⟨λk g O=>?_,λk=>k t (by omega)⟩;rcases Nat.lt_succ_iff_lt_or_eq.1 O with O | rfl
   ·exact hb.1 h g O
   ·exact k
  ·intro r U;exact Cf ((t+1:Nat):Int) (by simp) (by omega) (by omega) (Be ⟨rfl,U⟩)
 ·rintro⟨b,z⟩ ⟨K,hb⟩;simp only at K hb;subst K;unfold Lt
  dsimp only;exact Er (by omega) (Be ⟨_,rfl,hb⟩)
theorem W5{n:Nat}{w l S:List Int}(aa:l.length=n)(h:RG l)(K:∀g:Nat,g<n->gN S g=sm w l g):(∀g:Nat,g<n->gN S g=0)↔Kv w l:=by
 obtain⟨ab,ac,U⟩:=h;constructor
 ·intro k g O;rw [← K g (by omega)];exact k g (by omega)
 ·intro k g O;rw [K g O];rcases Int.lt_or_le (g:Int) (By l) with Y | ae
  ·exact k g Y
  ·exact Oh (λx Z=>by have:=U x Z;omega) _ (Nat.le_refl _)
theorem XS{F:Nat}(aa:4000<F)(ak:f18 F=some true)(Px:List Int):f13 F Px=some true:=by
 refine HT ?_;unfold f13;refine BY (b:=(Px,0,2685821657736338717)) rfl (B2 (YB (pm:=5) (dm:=6) (by omega) (k:=0) ⟨Int.le_refl _,Int.le_refl _⟩ (by omega) (by omega) (by omega) (by omega)) ?_);rintro⟨o,ap⟩ ⟨O,al,hd,am⟩;simp only at O al hd am ⊢;have U:=O.n5;obtain⟨-,hb⟩:=Sq (F:=F) (by omega) O;have ab:=LG o.1.length [] RG.nil;have hlen:=OV o.1.length [] RG.nil (by simpa using U);have aq:(5:Nat) ^ 5=3125:=by decide
 have ar:(5:Nat) ^ o.1.length<=5 ^ 5:=Nat.pow_le_pow_right (by omega) U;have ac:((Dr o).take o.1.length).length=o.1.length:=by rw [List.length_take,hb.1];omega
 have an:=Vk O;have au:=VP O;refine BY (YO aa O) ?_;refine BY (XZ (by omega) O) ?_;rw [ac];refine BY (Ye aa U) ?_;have ae:JE o=(C3 o.1.length []).foldl (Ci (Dr o)) []:=rfl;generalize C3 o.1.length []=L at ab hlen ae ⊢;refine B2 (S:=λr=>∃k:Nat,r=(k:Int)/\L[k]? =some (JE o)) ?_ ?_
 ·refine Fu L.length (λi s=>s.2.2=(i:Int)/\s.2.1=By ((L.take i).foldl (Ci (Dr o)) [])/\((L.take i).foldl (Ci (Dr o)) []= []∨∃k:Nat,s.1=(k:Int)/\L[k]? =some ((L.take i).foldl (Ci (Dr o)) []))) ⟨rfl,rfl,.inl rfl⟩ (by omega) ?_ ?_
  ·rintro i ⟨bi,ao,z⟩ hi ⟨Y,hm,K⟩;simp only at Y hm K;subst Y;subst hm;obtain⟨r1,r2⟩:=ab _ (List.getElem_mem hi);have ag:L[i].length=o.1.length:=by simpa using r2
   have e:(L.take (i+1)).foldl (Ci (Dr o)) []=Ci (Dr o) ((L.take i).foldl (Ci (Dr o)) []) L[i]:=by
    rw [List.take_add_one,List.getElem?_eq_getElem hi,List.foldl_append];rfl
   generalize (L.take i).foldl (Ci (Dr o)) []=b at K e ⊢;unfold MW
   dsimp only;refine Ep (by omega) ?_;rw [ac];refine BY (b:=List.replicate o.1.length 0) ?_ ?_
   ·unfold H9;rw [if_pos (by omega)];rfl
   refine B2 (VR (q:=(bi,By b)) (by omega) U hb hi r1 ag) ?_;rintro⟨S,m⟩ ⟨s1,s2,ah⟩;simp only at s1 s2 ah;subst ah;refine B2 (VS (by omega) U s1) ?_;intro ev Z;rw [W5 ag r1 s2] at Z;refine B2 (S:=λq=>q=true↔(Kv (Dr o) L[i]/\By b<By L[i])) ?_ ?_
   ·refine Fe (λh=>Be ?_) (λh=>Be (iff_of_false (by simp) λk=>h (Z.2 k.1)));rw [decide_eq_true_iff];exact⟨λk=>⟨Z.1 h,k⟩,λk=>k.2⟩
   ·intro q ai;refine B2 (S:=λr=>r.2=By (Ci (Dr o) b L[i])/\(Ci (Dr o) b L[i]= []∨∃k:Nat,r.1=(k:Int)/\L[k]? =some (Ci (Dr o) b L[i]))) ?_ ?_
    ·refine Fe (λh=>Be ?_) (λh=>Be ?_)
     ·have:Ci (Dr o) b L[i]=L[i]:=by unfold Ci;rw [if_pos (ai.1 h)]
      rw [this];exact⟨rfl,.inr ⟨i,rfl,List.getElem?_eq_getElem hi⟩⟩
     ·have:Ci (Dr o) b L[i]=b:=by unfold Ci;rw [if_neg (λk=>h (ai.2 k))]
      rw [this];exact⟨rfl,K⟩
    ·rintro⟨av,aw⟩ ⟨k1,aj⟩;simp only at k1 aj ⊢;refine Cf ((i+1:Nat):Int) (by simp) (by omega) (by omega) (Be ⟨rfl,?_,?_⟩)
     ·simp only;rw [e,k1]
     ·simp only;rw [e];exact aj
  ·rintro⟨bi,ao,z⟩ ⟨Y,hm,K⟩;simp only at Y hm K;subst Y;subst hm;rw [List.take_length,← ae] at K;unfold MW
   dsimp only;exact Er (by omega) (Be ⟨_,rfl,K.resolve_left an⟩)
 ·rintro r ⟨k,rfl,K⟩;refine B2 (S:=λq=>q=true) (Ep rfl (Be (decide_eq_true (by omega)))) ?_;rintro q rfl;refine B2 (S:=λq=>q=true) (Ep rfl (BY (Kd (m:=k) rfl K) (BY (YA (by omega) (by simp only;omega)) (Be rfl)))) ?_;rintro q rfl;refine B2 (S:=λq=>q=true) (Ep rfl (BY ak (Be rfl))) ?_;rintro q rfl;exact Be rfl
end Pal
