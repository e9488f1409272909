/- DebtGroups: a part (2 of 8) of the proof of its row. -/
import Derived.Test.YtmeophcclkejkaaGreatGra
import Derived.Conc.WgLib
import Derived.Conc.WgArith
import Derived.Conc.WgGenW
set_option linter.all false
set_option maxRecDepth 100000
namespace Pal
open Go Go.Conc
open Go.ConcN (upd upd_same upd_ne sumTo sumTo_upd sumTo_upd_out sumTo_congr le_sumTo sumTo_le)
def cU:Nx->Nat
 | .ph (.G4 _) | .ph .HG | .ph .Gj | .ph .IA | .ph .Ha | .ph (.lk _ _)=>1
 | _=>0
def cL:Nx->Nat
 | .ph .GA | .ph .G2=>1
 | _=>0
def cS:Nx->Nat
 | .ph .EZ=>1
 | _=>0
def pend:Nx->Nat
 | .ph (.Il _) | .ph (.Hy _) | .ph (.GI _) | .ph (.FG _)=>1
 | _=>0
def got:Nx->List Nat
 | .ph (.Fy K _)=>K
 | _=> []
def MX:Nx->Prop
 | .gone _=>True
 | _=>False
def Hu(n j:Nat)(c:Bool):Ph->Prop
 | .F3 K | .Ib K | .Il K | .Hy K | .GI K | .FG K=>K=j/\j<n/\c=false
 | .GD=>j=n/\c=false
 | .Fy _ _=>j=n/\c=true
 | _=>False
def Gz(F:Fam)(k:Nat):Nx->Prop
 | .gone _=>True
 | .ph (.G4 k')=>k'=k/\F.has k=true
 | .ph (.lk k' _)=>k'=k
 | .ph .HG | .ph .Gj | .ph .IA | .ph .Ha | .ph .GA | .ph .G2 | .ph .EZ=>True
 | _=>False
def I2:Nx->Prop
 | .gone _=>True
 | .ph .C7 | .ph (.FV _) | .ph (.Hb _) | .ph .Ig | .ph .HF | .ph .Fo | .ph .G3 | .ph .FY | .ph .Ie | .ph .F5 | .ph .Hw=>True
 | _=>False
def Df(x:Nx)(v wt sm L S:Nat)(cl:Bool):Prop:=
 match x with
 | .ph .C7=>L=0/\S=0/\sm=0/\wt=0/\cl=false
 | .ph (.FV m)=>L=0/\S=0/\sm=0/\wt=0/\cl=false/\v<=m
 | .ph (.Hb m)=>L=0/\S=0/\sm=0/\wt=0/\cl=false/\v<=m/\1<=m
 | .ph .Ig | .ph .HF | .ph .Fo=>L+S+sm+min v 1=1/\wt=L+min v 1/\cl=false
 | .ph .G3 | .ph .FY | .ph .Ie | .ph .F5 | .ph .Hw=>L=0/\S=0/\sm=0/\wt=0/\v=0/\cl=false
 | .gone _=>L=0/\S=0/\sm=0/\wt=0/\v=0/\cl=true
 | _=>False
structure Cs (F:Fam) (N0 N j:Nat) (c:Bool) (φ:Nat->Nx) (v wt sm:Nat) (cl:Bool):Prop where
 pos:0<N0
 n1:1<=F.n
 HK:F.n<2147483647
 size:N=N0+j+c.toNat
 jn:j<=F.n
 cj:c=true->j=F.n
 main:∃p,φ 0= .ph p/\Hu F.n j c p
 old:∀i,0<i->i<N0->MX (φ i)
 work:∀k,k<j->Gz F k (φ (N0+k))
 cls:c=true->I2 (φ (N0+F.n))
 cnt:v=sumTo N (λi=>cU (φ i))+pend (φ 0)
 JK:v<=j+pend (φ 0)
 mode:Df (if c=true then φ (N0+F.n) else .ph .C7) v wt sm (sumTo N λi=>cL (φ i)) (sumTo N λi=>cS (φ i)) cl
 Ks:∀k,k<j->F.has k=true->(φ (N0+k)= .ph (.G4 k)↔k ∉ got (φ 0))
 nd:(got (φ 0)).Nodup
 sub:∀k∈got (φ 0),k<j/\F.has k=true
section
variable {F:Fam}{N0 N j:Nat}{c:Bool}{φ:Nat->Nx}{v wt sm v' wt' sm':Nat}{cl cl':Bool}
theorem Cs.Em(h:Cs F N0 N j c φ v wt sm cl){i:Nat}(hi:i<N):i=0∨(0<i/\i<N0)∨(∃k,k<j/\i=N0+k)∨(c=true/\i=N0+F.n):=by
 have:=h.size;rcases Nat.eq_zero_or_pos i with K | K
 ·exact .inl K
 rcases Nat.lt_or_ge i N0 with U | U
 ·exact .inr (.inl ⟨K,U⟩)
 rcases Nat.lt_or_ge i (N0+j) with Y | Y
 ·exact .inr (.inr (.inl ⟨i - N0,by omega,by omega⟩))
 ·cases O:c with
  | false=>rw [O] at this;simp at this;omega
  | true=>have e:=h.cj O;rw [O] at this;simp at this;exact .inr (.inr (.inr ⟨rfl,by omega⟩))
theorem Cs.PD(h:Cs F N0 N j c φ v wt sm cl):v<=F.n:=by
 have K:=h.JK;obtain⟨p,O,hm⟩:=h.main;have:=h.jn;rw [O] at K;cases p <;> simp [Hu] at hm <;> simp [pend] at K <;> omega
theorem Cs.Ia(h:Cs F N0 N j c φ v wt sm cl){k:Nat}(ab:k<j){x:Nx}(ac:Gz F k x)(ae:∀k',φ (N0+k)≠ .ph (.G4 k'))(ag:∀k',x≠ .ph (.G4 k'))
  (ap:v'+cU (φ (N0+k))=v+cU x)
  (hm:∀L S,L+cL (φ (N0+k))=(sumTo N λi=>cL (φ i))+cL x->S+cS (φ (N0+k))=(sumTo N λi=>cS (φ i))+cS x->Df (if c=true then φ (N0+F.n) else .ph .C7) v' wt' sm' L S cl'):
  Cs F N0 N j c (upd φ (N0+k) x) v' wt' sm' cl':=by
 have aq:=h.size;have ar:=h.jn;have au:=h.pos;have Y:N0+k<N:=by omega
 have K:upd φ (N0+k) x 0=φ 0:=upd_ne _ _ (by omega);have ah:(if c=true then upd φ (N0+k) x (N0+F.n) else .ph .C7)=(if c=true then φ (N0+F.n) else .ph .C7):=by
  cases O:c with
  | false=>rfl
  | true=>have:=h.cj O;simp only [if_true];exact upd_ne _ _ (by omega)
 have s1:=sumTo_upd φ x cU Y;have s2:=sumTo_upd φ x cL Y;have ai:=sumTo_upd φ x cS Y;have av:=h.cnt;have aw:=h.JK;refine⟨h.pos,h.n1,h.HK,h.size,h.jn,h.cj,by rw [K];exact h.main,λi aj ak=>by rw [upd_ne _ _ (by omega)];exact h.old i aj ak,λk' U=>?_,λO=>?_,by rw [K];omega,?_,?_,λk' U hh=>?_,by rw [K];exact h.nd,by rw [K];exact h.sub⟩
 ·by_cases e:k'=k
  ·subst e;rw [upd_same];exact ac
  ·rw [upd_ne _ _ (by omega)];exact h.work k' U
 ·have:=h.cj O;rw [upd_ne _ _ (by omega)];exact h.cls O
 ·rw [K];have:cU x<=1:=by cases x with
   | gone d=>simp [cU]
   | ph p=>cases p <;> simp [cU]
  have hw:=h.work k ab;have key:cU x<=cU (φ (N0+k))∨cU (φ (N0+k))<cU x:=by omega
  rcases key with hle | ay
  ·omega
  ·
   have:(sumTo N λa=>cU (upd φ (N0+k) x a))<=j:=by
    have hb:∀M,M<=N->(sumTo M λa=>cU (upd φ (N0+k) x a))<=min (M - N0) j:=by
     intro M
     induction M with
     | zero=>intro _;simp [sumTo]
     | succ M al=>
      intro az;have:=al (by omega);simp only [sumTo];have aA:cU (upd φ (N0+k) x M)<=1:=by
       generalize upd φ (N0+k) x M=y;cases y with
       | gone d=>simp [cU]
       | ph p=>cases p <;> simp [cU]
      have aa:(M<N0∨N0+j<=M)->cU (upd φ (N0+k) x M)=0:=by
       intro aB;rw [upd_ne _ _ (by omega)];rcases h.Em (i:=M) (by omega) with rfl | ⟨a,b⟩ | ⟨k',a,rfl⟩ | ⟨a,rfl⟩
       ·obtain⟨p,am,hm⟩:=h.main;rw [am];cases p <;> simp [Hu] at hm <;> rfl
       ·have:=h.old M a b;cases Z:φ M with
        | gone d=>rfl
        | ph p=>rw [Z] at this;exact this.elim
       ·omega
       ·have:=h.cls a;cases Z:φ (N0+F.n) with
        | gone d=>rfl
        | ph p=>rw [Z] at this;cases p <;> simp [I2] at this <;> rfl
      rcases Nat.lt_or_ge M N0 with q | q
      ·rw [aa (.inl q)];omega
      ·rcases Nat.lt_or_ge M (N0+j) with q' | q'
       ·omega
       ·rw [aa (.inr q')];omega
    have:=hb N (Nat.le_refl _);omega
   omega
 ·rw [ah];exact hm _ _ s2 ai
 ·rw [K];by_cases e:k'=k
  ·subst e;rw [upd_same];have:=h.Ks k' U hh;constructor
   ·intro an;exact absurd an (ag k')
   ·intro ao;exact absurd (this.2 ao) (ae k')
  ·rw [upd_ne _ _ (by omega)];exact h.Ks k' U hh
theorem Cs.HC(h:Cs F N0 N j c φ v wt sm cl)(O:c=true){x:Nx}(Z:I2 x)
  (hm:Df x v wt' sm' (sumTo N λi=>cL (φ i)) (sumTo N λi=>cS (φ i)) cl'):
  Cs F N0 N j c (upd φ (N0+F.n) x) v wt' sm' cl':=by
 have aa:=h.size;have ah:=h.pos;have ai:=h.cj O;have U:N0+F.n<N:=by rw [O] at aa;simp at aa;omega
 have K:upd φ (N0+F.n) x 0=φ 0:=upd_ne _ _ (by omega);have z:∀y,I2 y->cU y=0/\cL y=0/\cS y=0:=by
  intro y ab;cases y with
  | gone d=>exact⟨rfl,rfl,rfl⟩
  | ph p=>cases p <;> simp [I2] at ab <;> exact⟨rfl,rfl,rfl⟩
 have z1:=z _ (h.cls O);have aj:=z x Z;have s1:=sumTo_upd φ x cU U;have s2:=sumTo_upd φ x cL U;have ak:=sumTo_upd φ x cS U;have al:=h.cnt;refine⟨h.pos,h.n1,h.HK,h.size,h.jn,h.cj,by rw [K];exact h.main,λi ac ae=>by rw [upd_ne _ _ (by omega)];exact h.old i ac ae,λk' Y=>?_,λO=>?_,by rw [K];omega,by rw [K];exact h.JK,?_,λk' Y hh=>?_,by rw [K];exact h.nd,by rw [K];exact h.sub⟩
 ·rw [upd_ne _ _ (by omega)];exact h.work k' Y
 ·rw [upd_same];exact Z
 ·rw [if_pos O,upd_same];have e2:(sumTo N λi=>cL (upd φ (N0+F.n) x i))=sumTo N λi=>cL (φ i):=by omega
  have ag:(sumTo N λi=>cS (upd φ (N0+F.n) x i))=sumTo N λi=>cS (φ i):=by omega
  rw [e2,ag];exact hm
 ·rw [K,upd_ne _ _ (by omega)];exact h.Ks k' Y hh
theorem Qt{n j:Nat}{c:Bool}{p:Ph}(h:Hu n j c p):cU (.ph p)=0/\cL (.ph p)=0/\cS (.ph p)=0:=by
 cases p <;> simp [Hu] at h <;> exact⟨rfl,rfl,rfl⟩
theorem Cs.K3(h:Cs F N0 N j c φ v wt sm cl){p:Ph}(Y:Hu F.n j c p)(K:got (.ph p)=got (φ 0))(aj:v'+pend (φ 0)=v+pend (.ph p))(Z:v'<=j+pend (.ph p))
  (hm:Df (if c=true then φ (N0+F.n) else .ph .C7) v' wt' sm' (sumTo N λi=>cL (φ i)) (sumTo N λi=>cS (φ i)) cl'):
  Cs F N0 N j c (upd φ 0 (.ph p)) v' wt' sm' cl':=by
 have ak:=h.size;have al:=h.pos;have O:0<N:=by omega
 obtain⟨am,aa,ab⟩:=h.main;have z1:=Qt ab;have an:=Qt Y;rw [← aa] at z1;have s1:=sumTo_upd φ (.ph p) cU O;have s2:=sumTo_upd φ (.ph p) cL O;have ao:=sumTo_upd φ (.ph p) cS O;have ap:=h.cnt;have ac:(if c=true then upd φ 0 (.ph p) (N0+F.n) else .ph .C7)=(if c=true then φ (N0+F.n) else .ph .C7):=by rw [upd_ne _ _ (by omega)]
 refine⟨h.pos,h.n1,h.HK,h.size,h.jn,h.cj,⟨p,upd_same _ _ _,Y⟩,λi ae ag=>by rw [upd_ne _ _ (by omega)];exact h.old i ae ag,λk' U=>by rw [upd_ne _ _ (by omega)];exact h.work k' U,λah=>by rw [upd_ne _ _ (by omega)];exact h.cls ah,by rw [upd_same];omega,by rw [upd_same];exact Z,?_,λk' U hh=>?_,by rw [upd_same,K];exact h.nd,by rw [upd_same,K];exact h.sub⟩
 ·rw [ac];have e2:(sumTo N λi=>cL (upd φ 0 (.ph p) i))=sumTo N λi=>cL (φ i):=by omega
  have ai:(sumTo N λi=>cS (upd φ 0 (.ph p) i))=sumTo N λi=>cS (φ i):=by omega
  rw [e2,ai];exact hm
 ·rw [upd_same,K,upd_ne _ _ (by omega)];exact h.Ks k' U hh
theorem Cs.act(h:Cs F N0 N j c φ v wt sm cl){i:Nat}(hi:i<N){p:Ph}(K:φ i= .ph p){es:Array Event}{aq:Nx}(O:F.act p v wt sm=some ((v',wt',sm'),es,aq)):
  Cs F N0 N j c (upd φ i aq) v' wt' sm' cl:=by
 have U:=h.mode;have au:=h.PD;rcases h.Em hi with rfl | ⟨a,b⟩ | ⟨k,ai,rfl⟩ | ⟨aa,rfl⟩
 ·
  obtain⟨am,ar,aj⟩:=h.main;have:am=p:=by rw [ar] at K;exact Nx.ph.inj K
  subst this;have aw:∀q,Hu F.n j c q->(∀av vs,q≠ .Fy av vs)->c=false:=by
   intro q an ao;cases q <;> simp [Hu] at an <;> first | exact an.2.2 | exact an.2 | exact absurd rfl (ao _ _)
  have ag:=h.JK;cases am <;> simp only [Hu] at aj <;> (try exact aj.elim) <;> simp only [Fam.act] at O <;> (try (cases O;done))
  ·cases O;obtain⟨rfl,ah,rfl⟩:=aj;exact h.K3 (p:= .Ib _) ⟨rfl,ah,rfl⟩ (by rw [K];rfl) (by rw [K];rfl) (by rw [K] at ag;exact ag) (by simpa [Df] using U)
  ·split at O
   ·rename_i ab;cases O;obtain⟨rfl,ah,rfl⟩:=aj;rw [K] at ag;simp only [pend,Nat.add_zero] at ag;simp only [Bool.false_eq_true,if_false,Df] at U;split
    ·exact h.K3 (p:= .Il _) ⟨rfl,ah,rfl⟩ (by rw [K];rfl) (by rw [K];simp [pend]) (by simp [pend];omega) ⟨U.1,U.2.1,U.2.2.1,rfl,U.2.2.2.2⟩
    ·exact h.K3 (p:= .GI _) ⟨rfl,ah,rfl⟩ (by rw [K];rfl) (by rw [K];simp [pend]) (by simp [pend];omega) ⟨U.1,U.2.1,U.2.2.1,rfl,U.2.2.2.2⟩
   ·cases O
  ·cases O;obtain⟨rfl,ah,rfl⟩:=aj;exact h.K3 (p:= .GI _) ⟨rfl,ah,rfl⟩ (by rw [K];rfl) (by rw [K];rfl) (by rw [K] at ag;exact ag) (by simpa [Df] using U)
  ·cases O;obtain⟨rfl,ah,rfl⟩:=aj;exact h.K3 (p:= .FG _) ⟨rfl,ah,rfl⟩ (by rw [K];rfl) (by rw [K];rfl) (by rw [K] at ag;exact ag) (by simpa [Df] using U)
  ·cases O;obtain⟨rfl,ah,rfl⟩:=aj;exact h.K3 (p:= .Hy _) ⟨rfl,ah,rfl⟩ (by rw [K];rfl) (by rw [K];rfl) (by rw [K] at ag;exact ag) (by simpa [Df] using U)
 ·have:=h.old i a b;rw [K] at this;exact this.elim
 ·
  have hw:=h.work k ai;rw [K] at hw;have ay:∀q k',q=Nx.ph p->(∀k',p≠ .G4 k')->q≠ .ph (.G4 k'):=by
   rintro q k' rfl ao e;exact ao k' (Nx.ph.inj e)
  cases p <;> simp only [Gz] at hw <;> (try exact hw.elim) <;> simp only [Fam.act] at O <;> (try (cases O;done))
  ·cases O;refine h.Ia ai (x:= .ph .IA) trivial (λk'=>by rw [K];simp) (by simp) (by rw [K];rfl) λL S Y Z=>?_;rw [K] at Y Z;simp only [cL,cS,Nat.add_zero] at Y Z;subst Y Z;exact U
  ·cases O;refine h.Ia ai (x:= .ph .Ha) trivial (λk'=>by rw [K];simp) (by simp) (by rw [K];rfl) λL S Y Z=>?_;rw [K] at Y Z;simp only [cL,cS,Nat.add_zero] at Y Z;subst Y Z;exact U
  ·split at O
   ·rename_i ab;cases O;have al:∀y ac ae L S,y=(if c=true then φ (N0+F.n) else .ph .C7)->Df y v wt sm ac ae cl->(if v=1/\wt=1 then L=ac+1 else L=ac)->S=ae->Df y (v - 1) wt sm L S cl:=by
     intro y ac ae L S az hm Y Z;cases y with
     | gone d=>simp only [Df] at hm ⊢;split at Y <;> omega
     | ph q=>
      cases q <;> simp only [Df] at hm ⊢ <;> (try exact hm) <;> (try (split at Y <;> omega))
      ·split at Y
       ·exfalso;omega
       ·exact⟨by omega,by omega,by omega,by omega,hm.2.2.2.2⟩
      ·split at Y
       ·exfalso;omega
       ·exact⟨by omega,by omega,by omega,by omega,hm.2.2.2.2.1,by omega⟩
      ·split at Y
       ·exfalso;omega
       ·exact⟨by omega,by omega,by omega,by omega,hm.2.2.2.2.1,by omega,by omega⟩
      ·split at Y
       ·exact⟨by omega,by omega,hm.2.2⟩
       ·exact⟨by omega,by omega,hm.2.2⟩
      ·split at Y
       ·exact⟨by omega,by omega,hm.2.2⟩
       ·exact⟨by omega,by omega,hm.2.2⟩
      ·split at Y
       ·exact⟨by omega,by omega,hm.2.2⟩
       ·exact⟨by omega,by omega,hm.2.2⟩
    split
    ·rename_i ak;refine h.Ia ai (x:= .ph .GA) trivial (λk'=>by rw [K];simp) (by simp) (by rw [K];simp [cU];omega) λL S Y Z=>?_;rw [K] at Y Z;simp only [cL,cS,Nat.add_zero] at Y Z;exact al _ _ _ L S rfl U (by rw [if_pos ak];exact Y) Z
    ·rename_i ak;refine h.Ia ai (x:= .gone 1) trivial (λk'=>by rw [K];simp) (by simp) (by rw [K];simp [cU];omega) λL S Y Z=>?_;rw [K] at Y Z;simp only [cL,cS,Nat.add_zero] at Y Z;exact al _ _ _ L S rfl U (by rw [if_neg ak];exact Y) Z
   ·cases O
  ·split at O
   ·rename_i ab;cases O;refine h.Ia ai (x:= .ph .G2) trivial (λk'=>by rw [K];simp) (by simp) (by rw [K];simp [cU];omega) λL S Y Z=>?_;rw [K] at Y Z;simp only [cL,cS,Nat.add_zero] at Y Z;have e:L=sumTo N λi=>cL (φ i):=by
     have aA:L+1=(sumTo N λi=>cL (φ i))+1:=Y;omega
    obtain⟨ak,ap⟩:=ab;subst e Z ak ap;exact U
   ·cases O
  ·split at O
   ·rename_i ab;cases O;obtain⟨ak,ap⟩:=ab;subst ak ap;refine h.Ia ai (x:= .ph .EZ) trivial (λk'=>by rw [K];simp) (by simp) (by rw [K];simp [cU]) λL S Y Z=>?_;rw [K] at Y Z;simp only [cL,cS,Nat.add_zero] at Y Z;have al:∀y ac ae,Df y 0 1 sm ac ae cl->L+1=ac->S=ae+1->Df y 0 0 sm L S cl:=by
     intro y ac ae hm Y Z;cases y with
     | gone d=>simp only [Df] at hm ⊢;omega
     | ph q=>
      cases q <;> simp only [Df] at hm ⊢ <;> (try exact hm) <;> (try (exfalso;omega))
      ·exact⟨by omega,by omega,hm.2.2⟩
      ·exact⟨by omega,by omega,hm.2.2⟩
      ·exact⟨by omega,by omega,hm.2.2⟩
    exact al _ _ _ U Y Z
   ·cases O
  ·split at O
   ·rename_i ab;cases O;subst ab;refine h.Ia ai (x:= .gone 1) trivial (λk'=>by rw [K];simp) (by simp) (by rw [K];simp [cU]) λL S Y Z=>?_;rw [K] at Y Z;simp only [cL,cS,Nat.add_zero] at Y Z;have al:∀y ac ae,Df y v wt 0 ac ae cl->L=ac->S+1=ae->Df y v wt 1 L S cl:=by
     intro y ac ae hm Y Z;cases y with
     | gone d=>simp only [Df] at hm ⊢;omega
     | ph q=>
      cases q <;> simp only [Df] at hm ⊢ <;> (try exact hm) <;> (try (exfalso;omega))
      ·exact⟨by omega,by omega,hm.2.2⟩
      ·exact⟨by omega,by omega,hm.2.2⟩
      ·exact⟨by omega,by omega,hm.2.2⟩
    exact al _ _ _ U Y Z
   ·cases O
  ·cases O;refine h.Ia ai (x:= .ph .Gj) trivial (λk'=>by rw [K];simp) (by simp) (by rw [K];rfl) λL S Y Z=>?_;rw [K] at Y Z;simp only [cL,cS,Nat.add_zero] at Y Z;subst Y Z;exact U
 ·
  have hw:=h.cls aa;rw [if_pos aa,K] at U;rw [K] at hw;obtain⟨am,ar,aj⟩:=h.main;cases p <;> simp only [I2] at hw <;> (try exact hw.elim) <;> simp only [Fam.act] at O <;> (try (cases O;done)) <;> simp only [Df] at U
  ·cases O;exact h.HC aa (x:= .ph (.FV F.n)) trivial ⟨U.1,U.2.1,U.2.2.1,U.2.2.2.1,U.2.2.2.2,au⟩
  ·split at O
   ·rename_i m ab;cases O;split
    ·exact h.HC aa (x:= .ph .FY) trivial ⟨U.1,U.2.1,U.2.2.1,rfl,by assumption,U.2.2.2.2.1⟩
    ·exact h.HC aa (x:= .ph (.Hb _)) trivial ⟨U.1,U.2.1,U.2.2.1,rfl,U.2.2.2.2.1,Nat.le_refl _,by omega⟩
   ·cases O
  ·split at O
   ·rename_i m ab;split at O
    ·cases O;exact h.HC aa (x:= .ph .Ig) trivial ⟨by omega,by omega,U.2.2.2.2.1⟩
    ·cases O;exact h.HC aa (x:= .ph (.FV _)) trivial ⟨U.1,U.2.1,U.2.2.1,rfl,U.2.2.2.2.1,by omega⟩
   ·cases O
  ·cases O;exact h.HC aa (x:= .ph .Fo) trivial U
  ·split at O
   ·rename_i ab;cases O;exact h.HC aa (x:= .ph .G3) trivial ⟨by omega,by omega,rfl,by omega,by omega,U.2.2⟩
   ·cases O
  ·split at O
   ·rename_i ab;obtain⟨rfl,rfl⟩:=ab;cases O;exact h.HC aa (x:= .ph .FY) trivial U
   ·cases O
  ·cases O;exact h.HC aa (x:= .ph .Ie) trivial U
  ·cases O;exact h.HC aa (x:= .ph .HF) trivial U
  ·cases O;exact h.HC aa (x:= .ph .F5) trivial U
end
end Pal
namespace Pal
open Go Go.Conc
open Go.ConcN (upd upd_same upd_ne sumTo sumTo_upd sumTo_upd_out sumTo_congr le_sumTo sumTo_le fork_knows)
section
variable {F:Fam}{N0 N j:Nat}{c:Bool}{φ:Nat->Nx}{v wt sm:Nat}{cl:Bool}
theorem Cs.spawn(h:Cs F N0 N j c φ v wt sm cl)(U:φ 0= .ph (.FG j)):
  Cs F N0 (N+1) (j+1) c (upd (upd φ N (.ph (F.start j))) 0 (.ph (F.Fi j))) v wt sm cl:=by
 obtain⟨ai,aj,ak⟩:=h.main;obtain rfl:ai= .FG j:=by rw [aj] at U;exact Nx.ph.inj U
 obtain⟨_,ap,rfl⟩:=ak;have al:=h.size;have aq:=h.pos;simp only [Bool.toNat_false,Nat.add_zero] at al;have Y:cU (.ph (F.start j))=1/\cL (.ph (F.start j))=0/\cS (.ph (F.start j))=0:=by
  exact⟨rfl,rfl,rfl⟩
 have K:cU (.ph (F.Fi j))=0/\cL (.ph (F.Fi j))=0/\cS (.ph (F.Fi j))=0/\pend (.ph (F.Fi j))=0/\got (.ph (F.Fi j))= []:=by
  unfold Fam.Fi;split <;> exact⟨rfl,rfl,rfl,rfl,rfl⟩
 have Z:cU (φ 0)=0/\cL (φ 0)=0/\cS (φ 0)=0:=by rw [U];exact⟨rfl,rfl,rfl⟩
 let φ':Nat->Nx:=upd (upd φ N (.ph (F.start j))) 0 (.ph (F.Fi j));have O:φ' 0= .ph (F.Fi j):=upd_same _ _ _;have ah:φ' N= .ph (F.start j):=by show upd _ _ _ _=_;rw [upd_ne _ _ (by omega),upd_same]
 have aa:∀i,0<i->i≠N->φ' i=φ i:=λi ab ac=>by show upd _ _ _ _=_;rw [upd_ne _ _ (by omega),upd_ne _ _ ac]
 have sum:∀f:Nx->Nat,f (φ 0)=0->f (.ph (F.Fi j))=0->(sumTo (N+1) λi=>f (φ' i))=(sumTo N λi=>f (φ i))+f (.ph (F.start j)):=by
  intro f f0 f1;simp only [sumTo,ah];congr 1;have am:0<N:=by omega
  have:=sumTo_upd (upd φ N (.ph (F.start j))) (.ph (F.Fi j)) f am;have e2:upd φ N (.ph (F.start j)) 0=φ 0:=upd_ne _ _ (by omega);rw [e2,f0,f1] at this;have ar:=sumTo_upd_out φ (.ph (F.start j)) f (i:=N) (j:=N) (Nat.le_refl _);show sumTo N (λi=>f (upd (upd φ N (.ph (F.start j))) 0 (.ph (F.Fi j)) i))=_;omega
 have ae:=h.cnt;have ag:=h.JK;rw [U] at ae ag;simp only [pend] at ae ag;show Cs F N0 (N+1) (j+1) false φ' v wt sm cl;have an:got (φ 0)= []:=by rw [U];rfl
 refine⟨h.pos,h.n1,h.HK,by simp;omega,by omega,by simp,⟨F.Fi j,O,?_⟩,λi ab ac=>by rw [aa i ab (by omega)];exact h.old i ab ac,λk ao=>?_,by simp,?_,?_,?_,λk ao hh=>?_,by rw [O,K.2.2.2.2];exact .nil,by rw [O,K.2.2.2.2];simp⟩
 ·unfold Fam.Fi;split
  ·exact⟨by assumption,rfl⟩
  ·exact⟨rfl,by omega,rfl⟩
 ·by_cases e:k=j
  ·subst e;rw [show N0+k=N by omega,ah];exact rfl
  ·rw [aa _ (by omega) (by omega)];exact h.work k (by omega)
 ·rw [O,K.2.2.2.1,sum cU Z.1 K.1,Y.1];exact ae
 ·rw [O,K.2.2.2.1];exact ag
 ·have hm:=h.mode;simp only [Bool.false_eq_true,if_false] at hm ⊢;rw [sum cL Z.2.1 K.2.1,sum cS Z.2.2 K.2.2.1,Y.2.1,Y.2.2];exact hm
 ·rw [O,K.2.2.2.2];by_cases e:k=j
  ·exact absurd hh Bool.false_ne_true
  ·rw [aa _ (by omega) (by omega)];have:=h.Ks k (by omega) hh
   rwa [an] at this
theorem Cs.Yv(h:Cs F N0 N j c φ v wt sm cl)(O:φ 0= .ph .GD):
  Cs F N0 (N+1) j true (upd (upd φ N (.ph .C7)) 0 (.ph (.Fy [] []))) v wt sm cl:=by
 obtain⟨ai,aj,ak⟩:=h.main;obtain rfl:ai= .GD:=by rw [aj] at O;exact Nx.ph.inj O
 obtain⟨ah,rfl⟩:=ak;have al:=h.size;have ao:=h.pos;simp only [Bool.toNat_false,Nat.add_zero] at al;have U:cU (φ 0)=0/\cL (φ 0)=0/\cS (φ 0)=0:=by rw [O];exact⟨rfl,rfl,rfl⟩
 let φ':Nat->Nx:=upd (upd φ N (.ph .C7)) 0 (.ph (.Fy [] []));have K:φ' 0= .ph (.Fy [] []):=upd_same _ _ _;have Y:φ' N= .ph .C7:=by show upd _ _ _ _=_;rw [upd_ne _ _ (by omega),upd_same]
 have Z:∀i,0<i->i≠N->φ' i=φ i:=λi aa ab=>by show upd _ _ _ _=_;rw [upd_ne _ _ (by omega),upd_ne _ _ ab]
 have sum:∀f:Nx->Nat,f (φ 0)=0->f (.ph (.Fy [] []))=0->f (.ph .C7)=0->(sumTo (N+1) λi=>f (φ' i))=(sumTo N λi=>f (φ i)):=by
  intro f f0 f1 f2;simp only [sumTo,Y,f2];have am:0<N:=by omega
  have:=sumTo_upd (upd φ N (.ph .C7)) (.ph (.Fy [] [])) f am;have e2:upd φ N (.ph .C7) 0=φ 0:=upd_ne _ _ (by omega);rw [e2,f0,f1] at this;have ap:=sumTo_upd_out φ (.ph .C7) f (i:=N) (j:=N) (Nat.le_refl _);show sumTo N (λi=>f (upd (upd φ N (.ph .C7)) 0 (.ph (.Fy [] [])) i))+0=_;omega
 have ac:=h.cnt;have ae:=h.JK;rw [O] at ac ae;simp only [pend] at ac ae;show Cs F N0 (N+1) j true φ' v wt sm cl;have an:got (φ 0)= []:=by rw [O];rfl
 refine⟨h.pos,h.n1,h.HK,by simp;omega,h.jn,λ_=>ah,⟨.Fy [] [],K,ah,rfl⟩,λi aa ab=>by rw [Z i aa (by omega)];exact h.old i aa ab,λk ag=>?_,λ_=>by rw [show N0+F.n=N by omega,Y];trivial,?_,?_,?_,λk ag hh=>?_,by rw [K];exact .nil,by rw [K];simp [got]⟩
 ·rw [Z _ (by omega) (by omega)];exact h.work k ag
 ·rw [K,sum cU U.1 rfl rfl];exact ac
 ·rw [K];exact ae
 ·have hm:=h.mode;simp only [Bool.false_eq_true,if_false,if_true] at hm ⊢;rw [show N0+F.n=N by omega,Y,sum cL U.2.1 rfl rfl,sum cS U.2.2 rfl rfl];exact hm
 ·rw [K];rw [Z _ (by omega) (by omega)];have:=h.Ks k ag hh
  rwa [an] at this
theorem Cs.leave(h:Cs F N0 N j c φ v wt sm cl){i d d':Nat}(hi:i<N)(K:φ i= .gone d):Cs F N0 N j c (upd φ i (.gone d')) v wt sm cl:=by
 rcases h.Em hi with rfl | ⟨a,b⟩ | ⟨k,U,rfl⟩ | ⟨Y,rfl⟩
 ·obtain⟨p,Z,_⟩:=h.main;rw [K] at Z;cases Z
 ·have ae:=hi;have z:∀f:Nx->Nat,f (.gone d)=0->f (.gone d')=0->(sumTo N λa=>f (upd φ i (.gone d') a))=sumTo N λa=>f (φ a):=by
   intro f f0 f1;have:=sumTo_upd φ (.gone d') f ae;rw [K] at this;omega
  have aj:=h.size;have O:upd φ i (.gone d') 0=φ 0:=upd_ne _ _ (by omega);refine⟨h.pos,h.n1,h.HK,h.size,h.jn,h.cj,by rw [O];exact h.main,λaa ag ah=>?_,λk U=>by rw [upd_ne _ _ (by omega)];exact h.work k U,λY=>by rw [upd_ne _ _ (by omega)];exact h.cls Y,by rw [O,z cU rfl rfl];exact h.cnt,by rw [O];exact h.JK,?_,λk U hh=>by rw [O,upd_ne _ _ (by omega)];exact h.Ks k U hh,by rw [O];exact h.nd,by rw [O];exact h.sub⟩
  ·by_cases e:aa=i
   ·subst e;rw [upd_same];trivial
   ·rw [upd_ne _ _ e];exact h.old aa ag ah
  ·rw [z cL rfl rfl,z cS rfl rfl,upd_ne _ _ (by omega)];exact h.mode
 ·refine h.Ia U (x:= .gone d') trivial (by rw [K];simp) (by simp) (by rw [K];rfl) λL S ab ac=>?_;rw [K] at ab ac;have ai:L=sumTo N λi=>cL (φ i):=ab;have e2:S=sumTo N λi=>cS (φ i):=ac;subst ai e2;exact h.mode
 ·have hm:=h.mode;rw [if_pos Y,K] at hm;exact h.HC Y (x:= .gone d') trivial hm
theorem Cs.WV(h:Cs F N0 N j c φ v wt sm cl)(O:c=true)(U:φ (N0+F.n)= .ph .G3∨φ (N0+F.n)= .ph .FY∨φ (N0+F.n)= .ph .F5∨φ (N0+F.n)= .ph .Hw∨MX (φ (N0+F.n))):∀k,k<j->MX (φ (N0+k)):=by
 intro k Y;have hm:=h.mode;rw [if_pos O] at hm;have Z:=h.size;have aa:=h.cnt;have ab:cU (φ (N0+k))<=sumTo N λi=>cU (φ i):=le_sumTo (f:=λi=>cU (φ i)) (show N0+k<N by omega);have ac:cL (φ (N0+k))<=sumTo N λi=>cL (φ i):=le_sumTo (f:=λi=>cL (φ i)) (show N0+k<N by omega);have ae:cS (φ (N0+k))<=sumTo N λi=>cS (φ i):=le_sumTo (f:=λi=>cS (φ i)) (show N0+k<N by omega);have ag:v=0/\(sumTo N λi=>cL (φ i))=0/\(sumTo N λi=>cS (φ i))=0:=by
  rcases U with e | e | e | e | e
  ·rw [e] at hm;exact⟨hm.2.2.2.2.1,hm.1,hm.2.1⟩
  ·rw [e] at hm;exact⟨hm.2.2.2.2.1,hm.1,hm.2.1⟩
  ·rw [e] at hm;exact⟨hm.2.2.2.2.1,hm.1,hm.2.1⟩
  ·rw [e] at hm;exact⟨hm.2.2.2.2.1,hm.1,hm.2.1⟩
  ·cases K:φ (N0+F.n) with
   | gone d=>rw [K] at hm;exact⟨hm.2.2.2.2.1,hm.1,hm.2.1⟩
   | ph p=>rw [K] at e;exact e.elim
 have hw:=h.work k Y;cases K:φ (N0+k) with
 | gone d=>trivial
 | ph p=>
  have ah:1<=cU (φ (N0+k))+cL (φ (N0+k))+cS (φ (N0+k)):=by
   rw [K] at hw ⊢;cases p <;> simp only [Gz] at hw <;> simp [cU,cL,cS]
  exfalso;omega
end
open Go.ConcN (RelBy)
def dl:LP->Nat
 | .G5 | .DO _ _ _ | .Ca _ _ _ _ | .H3 _ | .Cl _ | .FW | .Ek _ | .DJ _ | .len=>1
 | .HE | .Ew _ | .G8 | .EO _ | .ES=>1
 | _=>0
def FC:Nx->Nat
 | .gone d=>d
 | .ph .Ha | .ph .GA | .ph .G2 | .ph .EZ=>1
 | .ph (.FV _) | .ph (.Hb _) | .ph .Ig | .ph .HF | .ph .Fo | .ph .G3 | .ph .FY=>1
 | .ph (.Ib _) | .ph (.Il _) | .ph (.Hy _) | .ph (.GI _)=>1
 | .ph (.lk _ p)=>dl p
 | _=>0
def late:Nx->Prop
 | .ph (.G4 _) | .ph .HG | .ph .Gj | .ph (.lk _ _)=>False
 | _=>True
def KE(t:Trace)(E:LH)(ρ:Nat):Prop:=∀b,E b≠none->∀x a,touchAt t x=some a->CB a.loc=some b->a.write=true->Before t x ρ
structure EM (F:Fam) (N0 t0 N j:Nat) (φ:Nat->Nx) (S:Nat->St) (t:Trace):Prop where
 deaf:∀i,i<N->Deaf t i=FC (φ i)
 above:∀i,N<=i->Deaf t i=0
 plain:∀x a b,touchAt t x=some a->CB a.loc=some b->(b=F.wg∨b=F.mu)->a.kind= .plain->∀i,i<N->(i=0∨N0<=i)->Knows t i x
 said:∀x a b,touchAt t x=some a->CB a.loc=some b->(b=F.wg∨b=F.mu)->a.kind= .said->Knows t 0 x
 F8:∀x a,touchAt t x=some a->CB a.loc=some F.fd->(∀i,i<N->(i=0∨N0<=i)->Knows t i x)∨∃k,k<j/\t.g? x=some (N0+k)/\t.counts x/\a.loc= .cell ⟨F.fd,k,none⟩
 over:∀x g,t.g? x=some g->g≠0->t.counts x->(∃y,t.g? y=some 0/\HappensBefore t x y)∨(N0<=g/\g<N)
 norel:∀x,t0<=x->t.act? x≠some (.mark (.release F.sA))
 LW:t0<=t.size
 rel:∀k,k<j->late (φ (N0+k))->∃ρ,t0<=ρ/\RelBy F.sA t (N0+k) ρ/\KE t (S (N0+k)).E ρ
section
variable {F:Fam}{N0 t0 N j:Nat}{φ:Nat->Nx}{S:Nat->St}{t u:Trace}
def EvS(F:Fam)(N0 j i:Nat)(e:Event):Prop:=
 (∀a,(MemAct.ofEvent e).touch? =some a->∃b,CB a.loc=some b/\(((b=F.wg∨b=F.mu)/\a.kind≠ .plain/\(a.kind= .said->i=0))∨(b=F.fd/\∃k,k<j/\i=N0+k/\a.loc= .cell ⟨F.fd,k,none⟩/\a.kind= .plain)))/\e.loc≠ .mark (.release F.sA)
theorem EM.noRace(h:EM F N0 t0 N j φ S t)(ae:∀said,¬Race said t){i:Nat}(hi:i<N)(Z:i=0∨N0<=i){fn:FuncId}{pos:String}{es:Array Event}
  (ag:∀e∈es,EvS F N0 j i e):∀said,¬Race said (t++MemOp.ofEvents i fn pos es):=by
 intro said;refine noRace_append (g:=i) (ae said) (λop O=>by obtain⟨e,_,rfl⟩:=mem_ofEvents O;rfl) λx a U op O d hd ah=>?_;obtain⟨e,he,rfl⟩:=mem_ofEvents O;obtain⟨b,hb,K⟩:=(ag e he).1 d hd;obtain⟨aa,hm,ap,ai⟩:=ah;have Y:CB a.loc=some b:=by rw [aa];exact hb
 rcases K with⟨K,ab,aj⟩ | ⟨rfl,k,ab,ak,al,_⟩
 ·rcases ai with q | q | ⟨_,q,q'⟩
  ·exact h.plain x a b U Y K q i hi Z
  ·exact absurd q ab
  ·have:=h.said x a b U Y K q
   rwa [← aj q'] at this
 ·rcases h.F8 x a U Y with q | ⟨k',_,am,_,ac⟩
  ·exact q i hi Z
  ·rw [aa,al] at ac;have:k=k':=by simpa using ac
   subst this;obtain⟨z,an,ao⟩:=Option.map_eq_some_iff.1 am;have:=knows_own an;rw [ao,← ak] at this;exact this
theorem On(h:∀x g,t.g? x=some g->g≠0->t.counts x->(∃y,t.g? y=some 0/\HappensBefore t x y)∨(N0<=g/\g<N))(hu:∀op∈u,op.g=0∨(N0<=op.g/\op.g<N)∨op.act.touch? =none):
  ∀x g,(t++u).g? x=some g->g≠0->(t++u).counts x->(∃y,(t++u).g? y=some 0/\HappensBefore (t++u) x y)∨(N0<=g/\g<N):=by
 intro x g O U Y;rcases Nat.lt_or_ge x t.size with q | q
 ·rcases h x g (by rw [← g?_old (u:=u) q];exact O) U ((counts_old q).1 Y) with⟨y,K,hb⟩ | hh
  ·have ac:y<t.size:=by
    unfold Trace.g? at K;obtain⟨z,ae,_⟩:=Option.map_eq_some_iff.1 K;exact lt_size_of_getElem? ae
   exact .inl ⟨y,by rw [g?_old ac];exact K,hb_app u hb⟩
  ·exact .inr hh
 ·obtain⟨a,ag,_⟩:=Y;obtain⟨op,Z,aa⟩:=touch_of ag;have ab:op.g=g:=by simpa [Trace.g?,Z] using O
  rcases getElem?_append_cases Z with⟨ai,_⟩ | ⟨_,ah⟩
  ·omega
  ·rcases hu op ah with z | z | z
   ·exact absurd (ab▸z) U
   ·exact .inr (ab▸z)
   ·rw [z] at aa;cases aa
theorem Of(h:∀x,t0<=x->t.act? x≠some (.mark (.release F.sA)))(hu:∀op∈u,op.act≠ .mark (.release F.sA)):∀x,t0<=x->(t++u).act? x≠some (.mark (.release F.sA)):=by
 intro x O e;obtain⟨op,U,K⟩:=Option.map_eq_some_iff.1 e;rcases getElem?_append_cases U with⟨_,Y⟩ | ⟨_,Z⟩
 ·exact h x O (by rw [act?_of Y,K])
 ·exact hu op Z K
theorem TC{g:Nat}(hu:∀op∈u,op.g=g->op.act.touch? =none):∀x,t.size<=x->(t++u).g? x=some g->¬(t++u).counts x:=by
 intro x ab U Y;obtain⟨a,Z,_⟩:=Y;obtain⟨op,K,O⟩:=touch_of Z;rcases getElem?_append_cases K with⟨ac,_⟩ | ⟨_,aa⟩
 ·omega
 ·rw [hu op aa (by simpa [Trace.g?,K] using U)] at O;cases O
theorem KE.app{E:LH}{ρ:Nat}(h:KE t E ρ)(hu:∀op∈u,∀a b,op.act.touch? =some a->CB a.loc=some b->a.write=true->E b=none):KE (t++u) E ρ:=by
 intro b hb x a U K hw;obtain⟨op,Y,O⟩:=touch_of U;rcases getElem?_append_cases Y with⟨ab,Z⟩ | ⟨_,aa⟩
 ·exact(h b hb x a (by rw [touchAt_of Z];exact O) K hw).app u
 ·exact absurd (hu op aa a b O K hw) hb
theorem EM.app(h:EM F N0 t0 N j φ S t){i:Nat}(hi:i<N){x:Nx}{s':St}{fn:FuncId}{pos:String}{es:Array Event}
  (hd:deafBehind (FC (φ i)) es=FC x)
  (ah:∀e∈es,(∀a b,(MemAct.ofEvent e).touch? =some a->CB a.loc=some b->(b=F.wg∨b=F.mu)->a.kind≠ .plain/\(a.kind= .said->i=0))/\
   (∀a,(MemAct.ofEvent e).touch? =some a->CB a.loc=some F.fd->∃k,k<j/\i=N0+k/\a.loc= .cell ⟨F.fd,k,none⟩/\a.kind= .plain)/\e.loc≠ .mark (.release F.sA))
  (av:(i=0∨N0<=i)∨∀e∈es,(MemAct.ofEvent e).touch? =none)
  (aw:∀k,k<j->late (φ (N0+k))->∀e∈es,∀a b,(MemAct.ofEvent e).touch? =some a->CB a.loc=some b->a.write=true->(S (N0+k)).E b=none)
  (aj:∀k,k<j->i=N0+k->late x->(late (φ i)/\s'.E=(S i).E/\∀ρ,RelBy F.sA t i ρ->RelBy F.sA (t++MemOp.ofEvents i fn pos es) i ρ)∨∃ρ,t0<=ρ/\RelBy F.sA (t++MemOp.ofEvents i fn pos es) i ρ/\KE (t++MemOp.ofEvents i fn pos es) s'.E ρ):
  EM F N0 t0 N j (upd φ i x) (upd S i s') (t++MemOp.ofEvents i fn pos es):=by
 generalize hu:MemOp.ofEvents i fn pos es=u at*;have ab:∀op∈u,op.g=i:=λop O=>by rw [← hu] at O;obtain⟨e,_,rfl⟩:=mem_ofEvents O;rfl
 have ai:∀op∈u,∃e∈es,op.act=MemAct.ofEvent e:=λop O=>by rw [← hu] at O;obtain⟨e,he,rfl⟩:=mem_ofEvents O;exact⟨e,he,rfl⟩
 have hold:∀{y a},touchAt (t++u) y=some a->(touchAt t y=some a/\y<t.size)∨(Knows (t++u) i y/\(t++u).g? y=some i/\∃e∈es,(MemAct.ofEvent e).touch? =some a):=by
  intro y a ay;obtain⟨op,O,an⟩:=touch_of ay;rcases getElem?_append_cases O with⟨aj,az⟩ | ⟨_,ak⟩
  ·left;exact⟨by rw [touchAt_of az];exact an,aj⟩
  ·right;obtain⟨e,he,Z⟩:=ai op ak;exact⟨by have:=knows_own O;rwa [ab op ak] at this,by simp [Trace.g?,O,ab op ak],e,he,by rw [← Z];exact an⟩
 have ao:∀k,k<j->late (φ (N0+k))->∀ρ,KE t (S (N0+k)).E ρ->KE (t++u) (S (N0+k)).E ρ:=λk K U ρ aA=>aA.app λop aB a b ap hb hw=>by
  obtain⟨e,he,Z⟩:=ai op aB;rw [Z] at ap;exact aw k K U e he a b ap hb hw
 refine⟨λY aa=>?_,λY aa=>?_,λy a b ac hb ae K Y aa al=>?_,λy a b ac hb ae K=>?_,λy a ac hb=>?_,On h.over λop O=>?_,Of h.norel λop O e=>?_,by simp;have:=h.LW;omega,λk K U=>?_⟩
 ·by_cases e:Y=i
  ·subst e;rw [upd_same,← hu,Deaf_own,h.deaf Y hi,hd]
  ·rw [upd_ne _ _ e,Deaf_other t (Ne.symm e) u ab];exact h.deaf Y aa
 ·rw [Deaf_other t (by omega) u ab];exact h.above Y aa
 ·rcases hold ac with⟨q,_⟩ | ⟨_,_,e,he,ag⟩
  ·exact(h.plain y a b q hb ae K Y aa al).app _
  ·exact absurd K ((ah e he).1 a b ag hb ae).1
 ·rcases hold ac with⟨q,_⟩ | ⟨aq,_,e,he,ag⟩
  ·exact(h.said y a b q hb ae K).app _
  ·rw [← ((ah e he).1 a b ag hb ae).2 K];exact aq
 ·rcases hold ac with⟨q,ar⟩ | ⟨aq,am,e,he,ag⟩
  ·rcases h.F8 y a q hb with z | ⟨k,K,am,aC,U⟩
   ·exact .inl λY aa al=>(z Y aa al).app _
   ·exact .inr ⟨k,K,by rw [g?_old ar];exact am,(counts_old ar).2 aC,U⟩
  ·obtain⟨k,K,aD,U,aE⟩:=(ah e he).2.1 a ag hb;exact .inr ⟨k,K,by rw [am,aD],⟨a,ac,by rw [U];rfl,.inl (by rw [aE];simp)⟩,U⟩
 ·rw [ab op O];rcases av with(q | q) | q
  ·exact .inl q
  ·exact .inr (.inl ⟨q,hi⟩)
  ·obtain⟨e,he,Z⟩:=ai op O;rw [Z];exact .inr (.inr (q e he))
 ·obtain⟨ev,aF,Z⟩:=ai op O;rw [Z] at e;exact(ah ev aF).2.2 (by
   obtain⟨loc,wr,aG⟩:=ev
   cases loc with
   | mark m=>simp only [MemAct.ofEvent,MemAct.mark.injEq] at e;rw [e]
   | obj r=>cases wr <;> cases aG <;> simp [MemAct.ofEvent] at e
   | _=>simp [MemAct.ofEvent] at e)
 ·by_cases e:i=N0+k
  ·subst e;rw [upd_same] at U;rw [upd_same];rcases aj k K rfl U with⟨au,aH,aI⟩ | hh
   ·obtain⟨ρ,a,b,c⟩:=h.rel k K au;exact⟨ρ,a,aI ρ b,by rw [aH];exact ao k K au ρ c⟩
   ·exact hh
  ·rw [upd_ne _ _ (Ne.symm e)] at U;rw [upd_ne _ _ (Ne.symm e)];obtain⟨ρ,a,b,c⟩:=h.rel k K U;exact⟨ρ,a,b.appOther ab e,ao k K U ρ c⟩
theorem EM.CY(h:EM F N0 t0 N j φ S t)(hu:∀op∈u,op.act.touch? =none/\∀m,op.act≠ .mark m):EM F N0 t0 N j φ S (t++u):=by
 have ag:∀g,Deaf (t++u) g=Deaf t g:=by
  intro g;obtain⟨l⟩:=u;rw [Deaf_append];have key:∀(l:List MemOp) (d:Nat),(∀op∈l,∀m,op.act≠ .mark m)->l.foldl (deafStep g) d=d:=by
   intro l
   induction l with
   | nil=>intro d _;rfl
   | cons z l aj=>
    intro d U;have ak:=U z (by simp);have e2:deafStep g d z=d:=by
     unfold deafStep;split <;> first | (rename_i e;exact absurd e (ak _)) | rfl
    rw [List.foldl_cons,e2];exact aj d λop K=>U op (by simp [K])
  exact key l _ λop K=>(hu op (by simpa using K)).2
 have hold:∀{y a},touchAt (t++u) y=some a->touchAt t y=some a/\y<t.size:=by
  intro y a Z;obtain⟨op,K,aa⟩:=touch_of Z;rcases getElem?_append_cases K with⟨al,am⟩ | ⟨_,an⟩
  ·exact⟨by rw [touchAt_of am];exact aa,al⟩
  ·rw [(hu op an).1] at aa;cases aa
 have ao:∀g x,t.size<=x->(t++u).g? x=some g->¬(t++u).counts x:=λg=>TC λop K _=>(hu op K).1;refine⟨λi hi=>by rw [ag];exact h.deaf i hi,λi hi=>by rw [ag];exact h.above i hi,λy a b Y hb ab O i hi ac=>(h.plain y a b (hold Y).1 hb ab O i hi ac).app _,λy a b Y hb ab O=>(h.said y a b (hold Y).1 hb ab O).app _,λy a Y hb=>?_,
  On h.over λop K=> .inr (.inr (hu op K).1),Of h.norel λop K=>(hu op K).2 _,by simp;have:=h.LW;omega,λk O U=>let ⟨ρ,a,b,c⟩:=h.rel k O U;⟨ρ,a,b.app λx Z ae=>ao _ x Z ae,c.app λop K a b ah=>by rw [(hu op K).1] at ah;cases ah⟩⟩
 obtain⟨q,ai⟩:=hold Y;rcases h.F8 y a q hb with z | ⟨k,O,ae,ap,U⟩
 ·exact .inl λaq ar ac=>(z aq ar ac).app _
 ·exact .inr ⟨k,O,by rw [g?_old ai];exact ae,(counts_old ai).2 ap,U⟩
theorem EM.spawn(h:EM F N0 t0 N j φ S t){φ':Nat->Nx}{S':Nat->St}(aa:0<N)(az:N=N0+j)(hd:∀i,i<N->FC (φ' i)=FC (φ i))(ao:FC (φ' N)=0)(ap:FC (φ 0)=0)
  (aq:∀k,k<j+1->late (φ' (N0+k))->k<j/\late (φ (N0+k))/\(S' (N0+k)).E=(S (N0+k)).E)
  {x y:MemOp} (Z:x.g=0/\x.act= .go N) (ah:y.g=N/\y.act= .start):EM F N0 t0 (N+1) (j+1) φ' S' (t++ #[x,y]):=by
 have hu:∀op∈(#[x,y]:Array MemOp),op.act.touch? =none/\∀m,op.act≠ .mark m:=by
  intro op ai;simp only [List.mem_toArray,List.mem_cons,List.not_mem_nil,or_false] at ai;rcases ai with rfl | rfl
  ·rw [Z.2];exact⟨rfl,by simp⟩
  ·rw [ah.2];exact⟨rfl,by simp⟩
 have K:=h.CY hu;have aj:∀z,Knows t 0 z->Knows (t++ #[x,y]) N z:=λz O=>fork_knows Z ah (by rw [h.deaf 0 aa];exact ap) (h.above N (Nat.le_refl _)) O;have hold:∀{z a},touchAt (t++ #[x,y]) z=some a->touchAt t z=some a:=by
  intro z a O;obtain⟨op,ab,U⟩:=touch_of O;rcases getElem?_append_cases ab with⟨ak,ar⟩ | ⟨_,ac⟩
  ·rw [touchAt_of ar];exact U
  ·rw [(hu op ac).1] at U;cases U
 refine⟨λi hi=>?_,λi hi=>K.above i (by omega),λz a b O hb al Y i hi ae=>?_,K.said,λz a O hb=>?_,λz g ag au av=>?_,K.norel,K.LW,λk Y Z=>?_⟩
 ·rcases Nat.lt_or_ge i N with q | q
  ·rw [hd i q];exact K.deaf i q
  ·obtain rfl:i=N:=by omega
   rw [ao];exact K.above i (Nat.le_refl _)
 ·rcases Nat.lt_or_ge i N with q | q
  ·exact K.plain z a b O hb al Y i q ae
  ·obtain rfl:i=N:=by omega
   exact aj z (h.plain z a b (hold O) hb al Y 0 aa (.inl rfl))
 ·have am:z<t.size:=by
   obtain⟨op,ab,U⟩:=touch_of O;rcases getElem?_append_cases ab with⟨ak,_⟩ | ⟨_,ac⟩
   ·exact ak
   ·rw [(hu op ac).1] at U;cases U
  rcases h.F8 z a (hold O) hb with an | ⟨k,Y,ag,aw,ay⟩
  ·refine .inl λi hi ae=>?_;rcases Nat.lt_or_ge i N with q | q
   ·exact(an i q ae).app _
   ·obtain rfl:i=N:=by omega
    exact aj z (an 0 aa (.inl rfl))
  ·exact .inr ⟨k,by omega,by rw [g?_old am];exact ag,(counts_old am).2 aw,ay⟩
 ·rcases K.over z g ag au av with q | q
  ·exact .inl q
  ·exact .inr ⟨q.1,by omega⟩
 ·obtain⟨a,b,c⟩:=aq k Y Z;rw [c];exact K.rel k a b
end
end Pal
namespace Pal
open Go Go.Conc
open Go.ConcN (upd upd_same upd_ne sumTo sumTo_upd sumTo_upd_out sumTo_congr le_sumTo sumTo_le)
def pH:LP->Nat
 | .len | .Kt | .Jw | .EP | .Gn | .JM | .JI | .Jy | .HE=>1
 | _=>0
def pN:LP->Nat
 | .EO false=>1
 | _=>0
def pZ:LP->Nat
 | .EO true=>1
 | _=>0
def pV:LP->Nat
 | .FW | .Ek _=>1
 | _=>0
def pT:LP->Nat
 | .DO _ true _ | .Ca _ true _ _=>1
 | _=>0
def pQ:LP->Nat
 | .H3 _ | .Cl _=>1
 | _=>0
def pD:LP->Nat
 | .DJ _=>1
 | _=>0
def pX:LP->Nat
 | .Ew _ | .G8=>1
 | _=>0
def oC(f:LP->Nat):Option LP->Nat
 | some p=>f p
 | none=>0
def LN(m:M4)(q h rn rs v t s d x:Nat):Prop:=
 h=m.l.toNat/\
 (m.s=false->rs=0/\d=0/\m.k.toNat=rn+q+v+t/\s=m.w+rn+q/\(m.l=false->m.k=false->1<=m.w->1<=x))/\
 (m.s=true->m.k=false/\rn=0/\t=0/\m.l.toNat+rs+q+v+d=1/\m.w=s+v+d/\1<=m.w)
def KX:LP->M4->Prop
 | .Ca sv aw it old,_=>(aw=true->old.k=true)/\(sv=true->aw=true)/\it<=4/\CR old
 | .DO sv aw it,_=>(sv=true->aw=true)/\it<=4
 | .DJ ex,m=>ex=false->2<=m.w
 | .Ew old,_=>old.l=false/\old.k=false/\old.s=false/\old.w≠0/\CR old
 | _,_=>True
section
variable {F:Fam}{p:LP}{m m':M4}{q q' h rn rs v t s d x:Nat}{es:Array Event}{o:Option LP}
theorem XV(ag:LN m q (pH p+h) (pN p+rn) (pZ p+rs) (pV p+v) (pT p+t) (pQ p+s) (pD p+d) (pX p+x))(K:KX p m)(Y:CR m)(ah:∀sv,p= .Cl sv->q≠0):Di p m q:=by
 obtain⟨l,k,st,w⟩:=m;obtain⟨Z,O,U⟩:=ag;cases p <;> simp only [Di,KX] at K ⊢ <;> (try exact Y)
 ·exact⟨K.1,K.2,Y,λe=>by
   subst e
   simp only [pH,pN,pZ,pV,pT,pQ,pD,pX] at Z O U
   cases st
   ·have:=(O rfl).2.2.1
    cases k
    ·simp at this;omega
    ·rfl
   ·have:=(U rfl).2.2.1;omega⟩
 ·exact⟨K.1,K.2.1,K.2.2.1,K.2.2.2,Y,λe=>by
   subst e
   simp only [pH,pN,pZ,pV,pT,pQ,pD,pX] at Z O U
   cases st
   ·have:=(O rfl).2.2.1
    cases k
    ·simp at this;omega
    ·rfl
   ·have:=(U rfl).2.2.1;omega⟩
 ·exact ah _ rfl
 ·simp only [pH,pN,pZ,pV,pT,pQ,pD,pX] at Z O U;refine⟨λe=>?_,λe=>?_,Y⟩
  ·subst e;obtain⟨a1,ac,ab,aa,ai,ae⟩:=U rfl;cases l
   ·exact⟨rfl,a1,by omega⟩
   ·simp at aa;omega
  ·subst e;obtain⟨a1,ac,ab,aa⟩:=O rfl;cases k
   ·simp at ab;omega
   ·rfl
 ·simp only [pH,pN,pZ,pV,pT,pQ,pD,pX] at Z O U;cases st
  ·have:=(O rfl).2.1;omega
  ·obtain⟨a1,ac,ab,aa,ai,ae⟩:=U rfl;cases l
   ·exact⟨rfl,rfl,a1,ae,K,Y⟩
   ·simp at aa;omega
 ·simp only [pH,pN,pZ,pV,pT,pQ,pD,pX] at Z;cases l
  ·simp at Z
  ·exact⟨rfl,Y⟩
 ·exact⟨K.1,K.2.1,K.2.2.1,K.2.2.2.1,K.2.2.2.2,Y⟩
 ·refine⟨?_,Y⟩;have aj:k.toNat<=1:=Bool.toNat_le k;cases st
  ·have:=(O rfl).2.2.1;simp only at this;omega
  ·have:=(U rfl).2.2.2.1;simp only at this;omega
set_option maxHeartbeats 1000000 in
theorem LN.step(K:(m',q',es,o)∈F.BQ p m q)(U:Di p m q)(O:LN m q (pH p+h) (pN p+rn) (pZ p+rs) (pV p+v) (pT p+t) (pQ p+s) (pD p+d) (pX p+x)):
  LN m' q' (oC pH o+h) (oC pN o+rn) (oC pZ o+rs) (oC pV o+v) (oC pT o+t) (oC pQ o+s) (oC pD o+d) (oC pX o+x):=by
 obtain⟨l,k,st,w⟩:=m;cases p <;> simp only [Fam.BQ,List.mem_singleton,Prod.mk.injEq,List.not_mem_nil] at K
 case FX=>obtain⟨rfl,rfl,-,rfl⟩:=K;exact O
 case G5=>
  split at K
  ·rename_i e;simp only [M4.zero,M4.mk.injEq] at e;obtain⟨rfl,rfl,rfl,rfl⟩:=e;simp only [List.mem_singleton,Prod.mk.injEq] at K;obtain⟨rfl,rfl,-,rfl⟩:=K;simp [LN,pH,pN,pZ,pV,pT,pQ,pD,pX,oC] at O ⊢;omega
  ·simp only [List.mem_singleton,Prod.mk.injEq] at K;obtain⟨rfl,rfl,-,rfl⟩:=K;exact O
 case DO sv aw it=>obtain⟨rfl,rfl,-,rfl⟩:=K;cases aw <;> exact O
 case Ca sv aw it old=>
  simp only [Fam.Fl,List.mem_append] at K;simp only [Di] at U;obtain⟨k1,Y,Z,aa,ae,-⟩:=U;rcases K with K | K
  ·split at K
   ·rename_i c;split at K
    ·rename_i c2;simp only [List.mem_singleton] at K;obtain⟨rfl,c3,c4⟩:=c2;split at K
     ·rename_i e;subst e;simp only [Prod.mk.injEq] at K;obtain⟨rfl,rfl,-,rfl⟩:=K;simp only at c c3 c4;obtain⟨rfl,rfl,-⟩:=c;subst c3;simp [LN,pH,pN,pZ,pV,pT,pQ,pD,pX,oC] at O ⊢;omega
     ·simp only [Prod.mk.injEq] at K;obtain⟨rfl,rfl,-,rfl⟩:=K;exact O
    ·simp only [List.mem_singleton,Prod.mk.injEq] at K;obtain⟨rfl,rfl,-,rfl⟩:=K;cases aw <;> exact O
   ·simp at K
  ·split at K
   ·rename_i e;subst e;split at K
    ·rename_i c;simp only [List.mem_singleton,Prod.mk.injEq] at K;obtain⟨rfl,rfl,-,rfl⟩:=K;simp only at c;obtain⟨rfl,rfl⟩:=c;cases aw <;> cases k <;> simp [LN,pH,pN,pZ,pV,pT,pQ,pD,pX,oC] at O k1 ⊢ <;> omega
    ·rename_i c;have key:∀o',(o'=some (LP.H3 sv)∨o'=some (LP.Cl sv))->LN ⟨l,!aw&&k,st || (sv&&l),w+1⟩ q (oC pH o'+h) (oC pN o'+rn) (oC pZ o'+rs) (oC pV o'+v) (oC pT o'+t) (oC pQ o'+s) (oC pD o'+d) (oC pX o'+x):=by
      intro o' ag;have ab:oC pH o'=0/\oC pN o'=0/\oC pZ o'=0/\oC pV o'=0/\oC pT o'=0/\oC pQ o'=1/\oC pD o'=0/\oC pX o'=0:=by
       rcases ag with rfl | rfl <;> exact⟨rfl,rfl,rfl,rfl,rfl,rfl,rfl,rfl⟩
      obtain⟨ab,e2,ah,ai,aj,ak,al,am⟩:=ab;rw [ab,e2,ah,ai,aj,ak,al,am];cases l <;> cases st <;> cases k <;> cases aw <;> cases sv <;> simp [LN,pH,pN,pZ,pV,pT,pQ,pD,pX] at O k1 Y c ⊢ <;> omega
     simp only [List.mem_cons,List.not_mem_nil,or_false,Prod.mk.injEq] at K;rcases K with⟨rfl,rfl,-,rfl⟩ | ⟨rfl,rfl,-,rfl⟩
     ·exact key _ (.inl rfl)
     ·exact key _ (.inr rfl)
   ·simp only [List.mem_singleton,Prod.mk.injEq] at K;obtain⟨rfl,rfl,-,rfl⟩:=K;cases aw <;> exact O
 case H3 sv=>obtain⟨rfl,rfl,-,rfl⟩:=K;exact O
 case Cl sv=>
  obtain⟨rfl,rfl,-,rfl⟩:=K;simp only [Di] at U;cases st <;> cases k <;> cases l <;> cases sv <;> simp [LN,pH,pN,pZ,pV,pT,pQ,pD,pX,oC] at O ⊢ <;> omega
 case FW=>
  simp only [List.mem_cons,List.not_mem_nil,or_false,Prod.mk.injEq] at K;rcases K with⟨rfl,rfl,-,rfl⟩ | ⟨rfl,rfl,-,rfl⟩ <;> exact O
 case Ek sv=>
  simp only [Di] at U;split at K
  ·rename_i c;simp only [List.mem_singleton,Prod.mk.injEq] at K;obtain⟨rfl,rfl,-,rfl⟩:=K;have c:st=true:=c;subst c;cases k <;> cases l <;> simp [LN,pH,pN,pZ,pV,pT,pQ,pD,pX,oC] at O ⊢ <;> omega
  ·rename_i c;simp only [List.mem_singleton,Prod.mk.injEq] at K;obtain⟨rfl,rfl,-,rfl⟩:=K;cases st
   ·cases k <;> cases l <;> simp [LN,pH,pN,pZ,pV,pT,pQ,pD,pX,oC] at O ⊢ <;> omega
   ·exact absurd rfl c
 case DJ ex=>
  obtain⟨rfl,rfl,-,rfl⟩:=K;simp only [Di] at U;obtain⟨rfl,rfl,rfl,aa,ae,-⟩:=U;cases ex <;> simp [LN,pH,pN,pZ,pV,pT,pQ,pD,pX,oC] at O ae ⊢ <;> omega
 case len=>obtain⟨rfl,rfl,-,rfl⟩:=K;exact O
 case Kt=>obtain⟨rfl,rfl,-,rfl⟩:=K;exact O
 case Jw=>obtain⟨rfl,rfl,-,rfl⟩:=K;exact O
 case Gn=>obtain⟨rfl,rfl,-,rfl⟩:=K;exact O
 case JM=>obtain⟨rfl,rfl,-,rfl⟩:=K;exact O
 case JI=>obtain⟨rfl,rfl,-,rfl⟩:=K;exact O
 case Jy=>obtain⟨rfl,rfl,-,rfl⟩:=K;exact O
 case HE=>
  obtain⟨rfl,rfl,-,rfl⟩:=K;simp only [Di] at U;obtain⟨rfl,-⟩:=U;rcases Nat.eq_zero_or_pos w with rfl | hw
  ·cases st <;> cases k <;> simp [LN,pH,pN,pZ,pV,pT,pQ,pD,pX,oC] at O ⊢ <;> omega
  ·have ac:¬w=0:=by omega
   cases st <;> cases k <;> simp [LN,pH,pN,pZ,pV,pT,pQ,pD,pX,oC,ac] at O ⊢ <;> omega
 case Ew old=>
  simp only [Di] at U;obtain⟨k1,Y,Z,aa,-⟩:=U;split at K
  ·rename_i e;subst e;simp only at k1 Y Z aa;subst k1 Y Z;simp only [List.mem_singleton,Prod.mk.injEq] at K;obtain⟨rfl,rfl,-,rfl⟩:=K;simp [LN,pH,pN,pZ,pV,pT,pQ,pD,pX,oC] at O ⊢;omega
  ·simp only [List.mem_singleton,Prod.mk.injEq] at K;obtain⟨rfl,rfl,-,rfl⟩:=K;exact O
 case G8=>
  obtain⟨rfl,rfl,-,rfl⟩:=K;rcases Nat.eq_zero_or_pos w with rfl | hw
  ·cases st <;> cases k <;> cases l <;> simp [LN,pH,pN,pZ,pV,pT,pQ,pD,pX,oC] at O ⊢ <;> omega
  ·have ac:¬w=0:=by omega
   cases st <;> cases k <;> cases l <;> simp [LN,pH,pN,pZ,pV,pT,pQ,pD,pX,oC,ac] at O ⊢ <;> omega
 case EO b=>
  obtain⟨rfl,rfl,-,rfl⟩:=K;cases b <;> cases st <;> cases k <;> cases l <;> simp [LN,pH,pN,pZ,pV,pT,pQ,pD,pX,oC] at O ⊢ <;> omega
 case ES=>obtain⟨rfl,rfl,-,rfl⟩:=K;exact O
theorem LN.awake(O:LN m q (pH p+h) (pN p+rn) (pZ p+rs) (pV p+v) (pT p+t) (pQ p+s) (pD p+d) (pX p+x))(ab:pT p=1):m.k=true:=by
 obtain⟨l,k,st,w⟩:=m;obtain⟨ac,U,Y⟩:=O;cases st
 ·obtain⟨a1,Z,K,aa⟩:=U rfl;cases k
  ·simp at K;omega
  ·rfl
 ·obtain⟨a1,Z,K,aa⟩:=Y rfl;omega
theorem LN.ZW(K:(m',q',es,o)∈F.BQ p m q)(O:Di p m q)(Z:KX p m)(U:CR m)(ac:LN m q (pH p+h) (pN p+rn) (pZ p+rs) (pV p+v) (pT p+t) (pQ p+s) (pD p+d) (pX p+x)):∀aa,o=some aa->KX aa m':=by
 have ab:=λae=>ac.awake ae;cases p <;> simp only [Fam.BQ,List.mem_singleton,Prod.mk.injEq,List.not_mem_nil] at K
 case G5=>
  split at K <;> simp only [List.mem_singleton,Prod.mk.injEq] at K <;> obtain⟨rfl,rfl,-,rfl⟩:=K <;> rintro _ ⟨⟩ <;> simp [KX]
 case DO sv aw it=>
  obtain⟨rfl,rfl,-,rfl⟩:=K;rintro _ ⟨⟩;exact⟨λe=>by subst e;exact ab rfl,Z.1,Z.2,U⟩
 case Ca sv aw it old=>
  simp only [Fam.Fl,List.mem_append] at K;simp only [Di] at O;obtain⟨k1,Y,ag,ah,ai,-⟩:=O;rcases K with K | K
  ·split at K
   ·rename_i c;split at K
    ·simp only [List.mem_singleton] at K;split at K <;> simp only [Prod.mk.injEq] at K <;> obtain⟨rfl,rfl,-,rfl⟩:=K <;> rintro _ ⟨⟩
     ·exact⟨λ_=>rfl,by omega⟩
     ·exact⟨Y,by omega⟩
    ·simp only [List.mem_singleton,Prod.mk.injEq] at K;obtain⟨rfl,rfl,-,rfl⟩:=K;rintro _ ⟨⟩;exact⟨λe=>by subst e;exact ab rfl,Y,by omega,U⟩
   ·simp at K
  ·split at K
   ·split at K
    ·simp only [List.mem_singleton,Prod.mk.injEq] at K;obtain⟨rfl,rfl,-,rfl⟩:=K;rintro _ ⟨⟩;trivial
    ·simp only [List.mem_cons,List.not_mem_nil,or_false,Prod.mk.injEq] at K;rcases K with⟨rfl,rfl,-,rfl⟩ | ⟨rfl,rfl,-,rfl⟩ <;> rintro _ ⟨⟩ <;> trivial
   ·simp only [List.mem_singleton,Prod.mk.injEq] at K;obtain⟨rfl,rfl,-,rfl⟩:=K;rintro _ ⟨⟩;exact⟨Y,ag⟩
 case Cl sv=>
  obtain⟨rfl,rfl,-,rfl⟩:=K;rintro _ h;cases sv <;> cases h <;> trivial
 case FW=>
  simp only [List.mem_cons,List.not_mem_nil,or_false,Prod.mk.injEq] at K;rcases K with⟨rfl,rfl,-,rfl⟩ | ⟨rfl,rfl,-,rfl⟩ <;> rintro _ ⟨⟩ <;> trivial
 case Ek sv=>
  simp only [Di] at O;split at K
  ·rename_i c;simp only [List.mem_singleton,Prod.mk.injEq] at K;obtain⟨rfl,rfl,-,rfl⟩:=K;rintro _ ⟨⟩;intro e;have:=(O.1 c).2.2;simp at e;omega
  ·rename_i c;simp only [List.mem_singleton,Prod.mk.injEq] at K;obtain⟨rfl,rfl,-,rfl⟩:=K;rintro _ ⟨⟩;exact⟨λ_=>O.2.1 (by simpa using c),λ_=>rfl,by omega,U⟩
 case HE=>
  obtain⟨rfl,rfl,-,rfl⟩:=K;rintro _ h;split at h
  ·cases h;trivial
  ·rename_i c;split at h
   ·rename_i c2;cases h;exact⟨rfl,c2.1,by simpa using c,c2.2,U⟩
   ·cases h;trivial
 case Ew old=>
  split at K <;> simp only [List.mem_singleton,Prod.mk.injEq] at K <;> obtain⟨rfl,rfl,-,rfl⟩:=K <;> rintro _ ⟨⟩ <;> trivial
 case G8=>
  obtain⟨rfl,rfl,-,rfl⟩:=K;rintro _ h;split at h
  ·rename_i c;cases h;exact⟨c.1,c.2.1,c.2.2.1,c.2.2.2,U⟩
  ·cases h;trivial
 all_goals
  obtain⟨rfl,rfl,-,rfl⟩:=K;rintro _ ⟨⟩
 all_goals trivial
theorem LN.keepW(K:(m',q',es,o)∈F.BQ p m q)(O:Di p m q)(U:LN m q (pH p+h) (pN p+rn) (pZ p+rs) (pV p+v) (pT p+t) (pQ p+s) (pD p+d) (pX p+x))(hd:1<=d):m.w<=m'.w:=by
 obtain⟨l,k,st,w⟩:=m;obtain⟨ac,Y,Z⟩:=U;have aa:st=true:=by
  cases st
  ·have:=(Y rfl).2.1;omega
  ·rfl
 subst aa;obtain⟨a1,ae,ag,ab,ah,ai⟩:=Z rfl;cases p <;> simp only [Fam.BQ,List.mem_singleton,Prod.mk.injEq,List.not_mem_nil] at K
 case G5=>split at K <;> simp only [List.mem_singleton,Prod.mk.injEq] at K <;> obtain⟨rfl,rfl,-,rfl⟩:=K <;> simp_all [M4.zero]
 case Ca sv aw it old=>
  simp only [Fam.Fl,List.mem_append] at K;rcases K with K | K
  ·split at K
   ·split at K
    ·simp only [List.mem_singleton] at K;split at K <;> simp only [Prod.mk.injEq] at K <;> obtain⟨rfl,rfl,-,rfl⟩:=K <;> exact Nat.le_refl _
    ·simp only [List.mem_singleton,Prod.mk.injEq] at K;obtain⟨rfl,rfl,-,rfl⟩:=K;exact Nat.le_refl _
   ·simp at K
  ·split at K
   ·split at K
    ·simp only [List.mem_singleton,Prod.mk.injEq] at K;obtain⟨rfl,rfl,-,rfl⟩:=K;exact Nat.le_refl _
    ·simp only [List.mem_cons,List.not_mem_nil,or_false,Prod.mk.injEq] at K;rcases K with⟨rfl,rfl,-,rfl⟩ | ⟨rfl,rfl,-,rfl⟩ <;> simp
   ·simp only [List.mem_singleton,Prod.mk.injEq] at K;obtain⟨rfl,rfl,-,rfl⟩:=K;exact Nat.le_refl _
 case FW=>
  simp only [List.mem_cons,List.not_mem_nil,or_false,Prod.mk.injEq] at K;rcases K with⟨rfl,rfl,-,rfl⟩ | ⟨rfl,rfl,-,rfl⟩ <;> exact Nat.le_refl _
 case Ek sv=>split at K <;> simp only [List.mem_singleton,Prod.mk.injEq] at K <;> obtain⟨rfl,rfl,-,rfl⟩:=K <;> exact Nat.le_refl _
 case DJ ex=>simp only [pD] at ab;omega
 case Ew old=>
  simp only [Di] at O;split at K
  ·rename_i e;subst e;exact absurd O.2.2.1 (by simp)
  ·simp only [List.mem_singleton,Prod.mk.injEq] at K;obtain⟨rfl,rfl,-,rfl⟩:=K;exact Nat.le_refl _
 all_goals
  obtain⟨rfl,rfl,-,rfl⟩:=K;exact Nat.le_refl _
end
def CV(f:LP->Nat):Nx->Nat
 | .ph (.lk _ p)=>f p
 | _=>0
def Nw:Nx->M4->Prop
 | .ph (.lk _ p),m=>KX p m
 | _,_=>True
def Sg(f:LP->Nat)(N:Nat)(φ:Nat->Nx):Nat:=sumTo N λi=>CV f (φ i)
structure LI (N:Nat) (φ:Nat->Nx) (m:M4) (q:Nat):Prop where
 ln:LN m q (Sg pH N φ) (Sg pN N φ) (Sg pZ N φ) (Sg pV N φ) (Sg pT N φ) (Sg pQ N φ) (Sg pD N φ) (Sg pX N φ)
 loc:∀i,i<N->Nw (φ i) m
section
variable {F:Fam}{N i k:Nat}{φ:Nat->Nx}{p:LP}{m m':M4}{q q':Nat}{es:Array Event}{o:Option LP}{y:Nx}
theorem OX(f:LP->Nat)(hi:i<N):Sg f N (upd φ i y)+CV f (φ i)=Sg f N φ+CV f y:=sumTo_upd φ y (CV f) hi
theorem Fw(f:LP->Nat)(hi:i<N)(K:φ i= .ph (.lk k p)):∃r,Sg f N φ=f p+r/\∀o,Sg f N (upd φ i (.ph (Fam.CW k o)))=oC f o+r:=by
 have O:CV f (φ i)<=Sg f N φ:=le_sumTo (f:=λi=>CV f (φ i)) hi;have e:CV f (φ i)=f p:=by rw [K];rfl
 refine⟨Sg f N φ - f p,by omega,λo=>?_⟩;have U:=OX (φ:=φ) (y:= .ph (Fam.CW k o)) f hi;have Y:CV f (.ph (Fam.CW k o))=oC f o:=by cases o <;> rfl
 omega
theorem MF(f:LP->Nat)(hi:i<N)(K:CV f (φ i)=CV f y):Sg f N (upd φ i y)=Sg f N φ:=by
 have:=OX (φ:=φ) (y:=y) f hi;omega
theorem LI.other(h:LI N φ m q)(hi:i<N)(U:∀k p,φ i≠ .ph (.lk k p))(K:∀k p,y≠ .ph (.lk k p)):LI N (upd φ i y) m q:=by
 have z:∀(f:LP->Nat) x,(∀k p,x≠Nx.ph (.lk k p))->CV f x=0:=by
  intro f x Y;cases x with
  | gone d=>rfl
  | ph p=>cases p <;> first | rfl | exact absurd rfl (Y _ _)
 have e:∀f,Sg f N (upd φ i y)=Sg f N φ:=λf=>MF f hi (by rw [z f _ U,z f _ K]);refine⟨by simp only [e];exact h.ln,λa Z=>?_⟩;by_cases O:a=i
 ·subst O;rw [upd_same];cases y with
  | gone d=>trivial
  | ph p=>cases p <;> first | trivial | exact absurd rfl (K _ _)
 ·rw [upd_ne _ _ O];exact h.loc a Z
theorem LI.ok(h:LI N φ m q)(hi:i<N)(K:φ i= .ph (.lk k p))(Y:CR m)(Z:∀sv,p= .Cl sv->q≠0):Di p m q:=by
 obtain⟨a,aa,-⟩:=Fw pH hi K;obtain⟨b,ab,-⟩:=Fw pN hi K;obtain⟨c,ac,-⟩:=Fw pZ hi K;obtain⟨d,ae,-⟩:=Fw pV hi K;obtain⟨e,ag,-⟩:=Fw pT hi K;obtain⟨f,ah,-⟩:=Fw pQ hi K;obtain⟨g,ai,-⟩:=Fw pD hi K;obtain⟨j,aj,-⟩:=Fw pX hi K;have O:=h.ln;rw [aa,ab,ac,ae,ag,ah,ai,aj] at O;have U:=h.loc i hi;rw [K] at U;exact XV O U Y Z
theorem LI.step(h:LI N φ m q)(hi:i<N)(K:φ i= .ph (.lk k p))(ah:CR m)(U:Di p m q)(Y:(m',q',es,o)∈F.BQ p m q):LI N (upd φ i (.ph (Fam.CW k o))) m' q':=by
 obtain⟨a,ai,aj⟩:=Fw pH hi K;obtain⟨b,ak,al⟩:=Fw pN hi K;obtain⟨c,am,an⟩:=Fw pZ hi K;obtain⟨d,ao,ap⟩:=Fw pV hi K;obtain⟨e,aq,ar⟩:=Fw pT hi K;obtain⟨f,au,av⟩:=Fw pQ hi K;obtain⟨g,aw,ay⟩:=Fw pD hi K;obtain⟨j,az,aA⟩:=Fw pX hi K;have O:=h.ln;rw [ai,ak,am,ao,aq,au,aw,az] at O;have ab:=h.loc i hi;rw [K] at ab;refine⟨by rw [aj,al,an,ap,ar,av,ay,aA];exact O.step Y U,λy ac=>?_⟩;by_cases Z:y=i
 ·subst Z;rw [upd_same];cases o with
  | none=>trivial
  | some aB=>exact O.ZW Y U ab ah aB rfl
 ·rw [upd_ne _ _ Z];have aa:=h.loc y ac;cases ae:φ y with
  | gone d=>trivial
  | ph p0=>
   cases p0 with
   | lk aC p0=>
    rw [ae] at aa;cases p0 <;> try exact aa
    rename_i ex;intro aD;have hd:1<=g:=by
     have aE:=OX (N:=N) (φ:=φ) (i:=i) (y:= .gone 0) pD hi;have ag:CV pD (upd φ i (.gone 0) y)<=Sg pD N (upd φ i (.gone 0)):=le_sumTo (f:=λa=>CV pD (upd φ i (.gone 0) a)) ac;rw [upd_ne _ _ Z,ae] at ag;have aF:CV pD (φ i)=pD p:=by rw [K];rfl
     have e2:CV pD (.gone 0)=0:=rfl;have aG:CV pD (.ph (.lk aC (.DJ ex)))=1:=rfl;omega
    have:=O.keepW Y U hd;have ag:2<=m.w:=aa aD;omega
   | _=>trivial
end
end Pal
namespace Pal
open Go Go.Conc
open Go.ConcN (upd upd_same upd_ne sumTo sumTo_upd sumTo_upd_out sumTo_congr le_sumTo sumTo_le)
def He:LP->Nat
 | .len=>22 | .Kt=>21 | .Jw=>20 | .EP=>19 | .Gn=>18 | .JM=>17 | .JI=>16 | .Jy=>15 | .HE=>14
 | .Ew _=>13 | .G8=>13 | .EO _=>12 | .ES=>11
 | _=>23
def kw:LP->Nat
 | .FX | .G5=>2
 | .DO _ aw _=>if aw then 1 else 2
 | .Ca _ aw _ _=>if aw then 1 else 2
 | .FW | .Ek _ | .DJ _=>1
 | _=>0
def lc(m:M4):LP->Nat
 | .FX=>27 | .G5=>26 | .DO _ _ it=>2*(5 - it)+1
 | .Ca _ _ it old=>2*(5 - it)+if m=old then 0 else 2
 | .H3 _=>24 | .Cl _=>23 | .FW=>22 | .Ek _=>21
 | .Ew old=>if m=old then 1 else 3
 | .G8=>2
 | _=>0
def wO:Option LP->Nat
 | some p=>He p
 | none=>9
def wt(n:Nat):Nx->Nat
 | .gone _=>0
 | .ph p=>match p with
  | .G4 _=>10 | .HG=>9 | .Gj=>8 | .IA=>7 | .Ha=>6 | .GA=>5 | .G2=>4 | .EZ=>3
  | .C7=>3*n+25 | .FV m=>3*m+20 | .Hb m=>3*m+19 | .Ig=>14 | .HF=>13 | .Fo=>12 | .G3=>11 | .FY=>10 | .Ie=>9 | .F5=>8 | .Hw=>7
  | .F3 j=>5*n+90+50*(n - j) | .Ib j=>5*n+89+50*(n - j) | .Il j=>5*n+88+50*(n - j) | .Hy j=>5*n+87+50*(n - j) | .GI j=>5*n+86+50*(n - j) | .FG j=>5*n+85+50*(n - j)
  | .GD=>5*n+60 | .Fy _ _=>2
  | .lk _ p=>He p
theorem XP{F:Fam}{p:Ph}{v w sm v' w' sm':Nat}{es:Array Event}{K:Nx}(h:F.act p v w sm=some ((v',w',sm'),es,K)):wt F.n K<wt F.n (.ph p):=by
  cases p <;> simp only [Fam.act] at h <;> (try (cases h;done))
  case Ha=>
    split at h
    ·cases h;split <;> simp [wt]
    ·cases h
  case FV=>
    split at h
    ·cases h;split <;> simp [wt] <;> omega
    ·cases h
  case Hb=>
    split at h
    ·split at h <;> cases h <;> simp [wt] <;> omega
    ·cases h
  case Ib=>
    split at h
    ·cases h;split <;> simp [wt]
    ·cases h
  all_goals first
    | (cases h;simp [wt];done)
    | (split at h
       ·cases h;simp [wt]
       ·cases h)
section
variable {F:Fam}{p:LP}{m m':M4}{q q':Nat}{es:Array Event}{o:Option LP}
theorem Xa(K:(m',q',es,o)∈F.BQ p m q)(O:Di p m q):wO o<He p∨(wO o=He p/\(oC kw o+q'<kw p+q∨(oC kw o+q'=kw p+q/\m'=m/\oC (lc m) o<lc m p))):=by
 cases p <;> simp only [Fam.BQ,List.mem_singleton,Prod.mk.injEq,List.not_mem_nil] at K
 case G5=>
  split at K <;> simp only [List.mem_singleton,Prod.mk.injEq] at K <;> obtain⟨rfl,rfl,-,rfl⟩:=K
  ·exact .inl (by simp [wO,He])
  ·exact .inr ⟨rfl,.inr ⟨rfl,rfl,by simp [oC,lc]⟩⟩
 case DO sv aw it=>
  obtain⟨rfl,rfl,-,rfl⟩:=K;exact .inr ⟨rfl,.inr ⟨rfl,rfl,by simp [oC,lc]⟩⟩
 case Ca sv aw it old=>
  simp only [Fam.Fl,List.mem_append] at K;simp only [Di] at O;obtain⟨k1,U,Y,Z,aa,-⟩:=O;rcases K with K | K
  ·split at K
   ·rename_i c;split at K
    ·rename_i c2;simp only [List.mem_singleton] at K;obtain⟨rfl,c3,c4⟩:=c2;split at K <;> simp only [Prod.mk.injEq] at K <;> obtain⟨rfl,rfl,-,rfl⟩:=K
     ·exact .inr ⟨rfl,.inl (by simp [oC,kw])⟩
     ·rename_i e;refine .inr ⟨rfl,.inr ⟨rfl,rfl,?_⟩⟩;simp only [oC,lc,if_neg e];omega
    ·simp only [List.mem_singleton,Prod.mk.injEq] at K;obtain⟨rfl,rfl,-,rfl⟩:=K;refine .inr ⟨rfl,.inr ⟨rfl,rfl,?_⟩⟩;simp only [oC,lc,if_true];omega
   ·simp at K
  ·split at K
   ·rename_i e;split at K
    ·simp only [List.mem_singleton,Prod.mk.injEq] at K;obtain⟨rfl,rfl,-,rfl⟩:=K;exact .inl (by simp [wO,He])
    ·simp only [List.mem_cons,List.not_mem_nil,or_false,Prod.mk.injEq] at K;rcases K with⟨rfl,rfl,-,rfl⟩ | ⟨rfl,rfl,-,rfl⟩ <;> exact .inr ⟨rfl,.inl (by cases aw <;> simp [oC,kw])⟩
   ·rename_i e;simp only [List.mem_singleton,Prod.mk.injEq] at K;obtain⟨rfl,rfl,-,rfl⟩:=K;refine .inr ⟨rfl,.inr ⟨rfl,rfl,?_⟩⟩;simp only [oC,lc,if_neg e];omega
 case Cl sv=>
  obtain⟨rfl,rfl,-,rfl⟩:=K;simp only [Di] at O;cases sv
  ·refine .inr ⟨rfl,.inr ⟨?_,rfl,by simp [oC,lc]⟩⟩;simp only [oC,kw,Bool.false_eq_true,if_false];omega
  ·refine .inr ⟨rfl,.inr ⟨?_,rfl,by simp [oC,lc]⟩⟩;simp only [oC,kw,if_true];omega
 case FW=>
  simp only [List.mem_cons,List.not_mem_nil,or_false,Prod.mk.injEq] at K;rcases K with⟨rfl,rfl,-,rfl⟩ | ⟨rfl,rfl,-,rfl⟩ <;> exact .inr ⟨rfl,.inr ⟨rfl,rfl,by simp [oC,lc]⟩⟩
 case Ek sv=>
  split at K <;> simp only [List.mem_singleton,Prod.mk.injEq] at K <;> obtain⟨rfl,rfl,-,rfl⟩:=K <;> exact .inr ⟨rfl,.inr ⟨rfl,rfl,by simp [oC,lc]⟩⟩
 case HE=>
  obtain⟨rfl,rfl,-,rfl⟩:=K;refine .inl ?_;split
  ·simp [wO,He]
  ·split <;> simp [wO,He]
 case Ew old=>
  split at K <;> simp only [List.mem_singleton,Prod.mk.injEq] at K <;> obtain⟨rfl,rfl,-,rfl⟩:=K
  ·exact .inl (by simp [wO,He])
  ·rename_i e;refine .inr ⟨rfl,.inr ⟨rfl,rfl,?_⟩⟩;simp only [oC,lc,if_neg e];omega
 case G8=>
  obtain⟨rfl,rfl,-,rfl⟩:=K;split
  ·exact .inr ⟨rfl,.inr ⟨rfl,rfl,by simp [oC,lc]⟩⟩
  ·exact .inl (by simp [wO,He])
 case H3 sv=>obtain⟨rfl,rfl,-,rfl⟩:=K;exact .inr ⟨rfl,.inr ⟨rfl,rfl,by simp [oC,lc]⟩⟩
 case FX=>obtain⟨rfl,rfl,-,rfl⟩:=K;exact .inr ⟨rfl,.inr ⟨rfl,rfl,by simp [oC,lc]⟩⟩
 all_goals
  obtain⟨rfl,rfl,-,rfl⟩:=K;exact .inl (by simp [wO,He])
end
def Dn(N:Nat)(r' r:Nat->Rk):Prop:=∃i,i<N/\Rk.sub (r' i) (r i)/\∀j,j≠i->r' j=r j
theorem Dn.wf:∀N,WellFounded (Dn N)
 | 0=>⟨λ_=>⟨_,λ_ ⟨_,h,_⟩=>by omega⟩⟩
 | N+1=>⟨by
  have key:∀x:Rk,∀r:Nat->Rk,r N=x->Acc (Dn (N+1)) r:=by
   intro x
   induction x using Rk.wf.induction with
   | _ x Y=>
    intro r
    induction r using (Dn.wf N).induction with
    | _ r Z=>
     intro e
     refine⟨_,λr' ⟨i,hi,K,O⟩=>?_⟩
     by_cases U:i=N
     ·subst U;exact Y (r' i) (by rw [← e];exact K) r' rfl
     ·exact Z r' ⟨i,by omega,K,O⟩ (by rw [O N (Ne.symm U),e])
  exact λr=>key _ r rfl⟩
def chain:Nat->Rk
 | 0=> .leaf
 | n+1=> .node λ_=>chain n
theorem U3(n:Nat)(w:World):Rk.sub (chain n) (chain (n+1)):=⟨_,w,rfl,rfl⟩
structure Mu where
 a:Nat
 k:Nat
 l:Nat
 N:Nat
 r:Nat->Rk
 b:Nat
def Mu.lt(x y:Mu):Prop:=x.a<y.a∨(x.a=y.a/\(x.k<y.k∨(x.k=y.k/\(x.l<y.l∨(x.l=y.l/\x.N=y.N/\(Dn y.N x.r y.r∨(x.r=y.r/\x.b<y.b)))))))
theorem Mu.wf:WellFounded Mu.lt:=⟨by
 have key:∀(a k l N:Nat) (r:Nat->Rk) (b:Nat),Acc Mu.lt ⟨a,k,l,N,r,b⟩:=by
  intro a
  induction a using Nat.strongRecOn with
  | _ a ab=>
   intro k
   induction k using Nat.strongRecOn with
   | _ k ac=>
    intro l
    induction l using Nat.strongRecOn with
    | _ l ae=>
     intro N r
     induction r using (Dn.wf N).induction with
     | _ r ag=>
      intro b
      induction b using Nat.strongRecOn with
      | _ b ah=>
       refine⟨_,λ⟨ai,k',l',N',r',b'⟩ h=>?_⟩
       rcases h with h | ⟨K,h | ⟨O,h | ⟨U,Y,h | ⟨Z,aa⟩⟩⟩⟩
       ·exact ab ai h k' l' N' r' b'
       ·simp only at K h;subst K;exact ac k' h l' N' r' b'
       ·simp only at K O h;subst K O;exact ae l' h N' r' b'
       ·simp only at K O U Y h;subst K O U Y;exact ag r' h b'
       ·simp only at K O U Y Z aa;subst K O U Y Z;exact ah b' aa
 exact λ⟨a,k,l,N,r,b⟩=>key a k l N r b⟩
def bit(b:Bool):Nat:=if b then 1 else 0
def mu(F:Fam)(N:Nat)(φ:Nat->Nx)(m:M4)(q:Nat)(r:Nat->Rk)(bt:Nat->Bool):Mu:=⟨sumTo N λi=>wt F.n (φ i),Sg kw N φ+q,Sg (lc m) N φ,N,r,sumTo N λi=>bit (bt i)⟩
section
variable {F:Fam}{N N' i k:Nat}{φ φ':Nat->Nx}{p:LP}{m m':M4}{q q':Nat}{es:Array Event}{o:Option LP}{r r':Nat->Rk}{b b':Nat->Bool}{x:Nx}{ρ:Rk}
theorem ZI(h:(sumTo N' λi=>wt F.n (φ' i))<sumTo N λi=>wt F.n (φ i)):Mu.lt (mu F N' φ' m' q' r' b') (mu F N φ m q r b):= .inl h
theorem SY(hi:i<N)(h:wt F.n x<wt F.n (φ i)):Mu.lt (mu F N (upd φ i x) m' q' r' b') (mu F N φ m q r b):=by
 have:=sumTo_upd φ x (wt F.n) hi;exact .inl (by show(sumTo N λa=>wt F.n (upd φ i x a))<sumTo N λa=>wt F.n (φ a);omega)
theorem S2(hi:i<N)(K:∀f,CV f x=CV f (φ i))(hw:wt F.n x=wt F.n (φ i))(h:Rk.sub ρ (r i)):Mu.lt (mu F N (upd φ i x) m q (upd r i ρ) b') (mu F N φ m q r b):=by
 have:=sumTo_upd φ x (wt F.n) hi;refine .inr ⟨by show(sumTo N λa=>wt F.n (upd φ i x a))=sumTo N λa=>wt F.n (φ a);omega,.inr ⟨by show Sg kw N (upd φ i x)+q=_;rw [MF kw hi (K kw).symm];rfl,.inr ⟨MF (lc m) hi (K _).symm,rfl,.inl ⟨i,hi,?_,λa O=>upd_ne _ _ O⟩⟩⟩⟩;show Rk.sub (upd r i ρ i) _;rw [upd_same];exact h
theorem Zz(hi:i<N)(K:φ i= .ph (.lk k p))(Y:(m',q',es,o)∈F.BQ p m q)(Z:Di p m q):Mu.lt (mu F N (upd φ i (.ph (Fam.CW k o))) m' q' r' b') (mu F N φ m q r b):=by
 have hw:=sumTo_upd φ (.ph (Fam.CW k o)) (wt F.n) hi;have aa:wt F.n (φ i)=He p:=by rw [K];rfl
 have e2:wt F.n (.ph (Fam.CW k o))=wO o:=by cases o <;> rfl
 rw [aa,e2] at hw;obtain⟨a,O,U⟩:=Fw (k:=k) kw hi K;obtain⟨c,ab,ac⟩:=Fw (k:=k) (lc m) hi K;rcases Xa Y Z with h | ⟨ag,h | ⟨ah,ae,ai⟩⟩
 ·exact .inl (by show(sumTo N λa=>wt F.n (upd φ i _ a))<sumTo N λa=>wt F.n (φ a);omega)
 ·exact .inr ⟨by show(sumTo N λa=>wt F.n (upd φ i _ a))=sumTo N λa=>wt F.n (φ a);omega,.inl (by show Sg kw N (upd φ i _)+q'<Sg kw N φ+q;rw [O,U];omega)⟩
 ·subst ae;exact .inr ⟨by show(sumTo N λa=>wt F.n (upd φ i _ a))=sumTo N λa=>wt F.n (φ a);omega,.inr ⟨by show Sg kw N (upd φ i _)+q'=Sg kw N φ+q;rw [O,U];omega,.inl (by show Sg (lc m') N (upd φ i _)<Sg (lc m') N φ;rw [ab,ac];omega)⟩⟩
end
end Pal
namespace Pal
open Go Go.Conc
open Go.ConcN (upd upd_same upd_ne sumTo sumTo_upd sumTo_upd_out sumTo_congr le_sumTo sumTo_le fork_knows RelBy)
section
variable {F:Fam}{N0 t0 N j:Nat}{φ:Nat->Nx}{S:Nat->St}{t u:Trace}{v wt sm v' wt' sm':Nat}
theorem MB{α:Type}(f:Nat->α)(i:Nat):upd f i (f i)=f:=by
 funext a;unfold upd;split
 ·rename_i e;rw [e]
 ·rfl
def Fp(F:Fam)(K:Prop)(e:Event):Prop:=
 (∀a,(MemAct.ofEvent e).touch? =some a->(∃b,CB a.loc=some b/\(b=F.wg∨b=F.mu))/\a.kind≠ .plain/\(a.kind= .said->K))/\e.loc≠ .mark (.release F.sA)
theorem Fp.toS{K:Prop}{e:Event}{i:Nat}(h:Fp F K e)(O:K->i=0):EvS F N0 j i e:=
 ⟨λa U=>let ⟨⟨b,Y,Z⟩,aa,ab⟩:=h.1 a U;⟨b,Y,.inl ⟨Z,aa,λq=>O (ab q)⟩⟩,h.2⟩
theorem Fp.keep{O:Prop}{e:Event}{i:Nat}(h:Fp F O e)(Y:O->i=0)(Z:F.fd≠F.wg)(aa:F.fd≠F.mu):(∀a b,(MemAct.ofEvent e).touch? =some a->CB a.loc=some b->(b=F.wg∨b=F.mu)->a.kind≠ .plain/\(a.kind= .said->i=0))/\
   (∀a,(MemAct.ofEvent e).touch? =some a->CB a.loc=some F.fd->∃k,k<j/\i=N0+k/\a.loc= .cell ⟨F.fd,k,none⟩/\a.kind= .plain)/\e.loc≠ .mark (.release F.sA):=
 ⟨λa b K _ _=>⟨(h.1 a K).2.1,λq=>Y ((h.1 a K).2.2 q)⟩,λa K hb=>by
  obtain⟨⟨b,U,ab⟩,-⟩:=h.1 a K
  rw [hb] at U
  obtain rfl:=Option.some.inj U
  rcases ab with e | e
  ·exact absurd e Z
  ·exact absurd e aa,h.2⟩
theorem QE{m:Mark}(K:∀a,m≠ .read a)(O:∀a,m≠ .write a):(MemAct.ofEvent (Fam.Cu m)).touch? =none:=by
 cases m <;> first | rfl | exact absurd rfl (K _) | exact absurd rfl (O _)
theorem Yi(p:Ph){es:Array Event}{ah:Nx}(K:F.act p v wt sm=some ((v',wt',sm'),es,ah)):
  (∀e∈es,Fp F (p= .HF∨∃j,p= .Hy j) e)/\deafBehind (FC (.ph p)) es=FC ah/\(∀e∈es,∀B,F.wg<B->(MemAct.ofEvent e).low B):=by
 have am:∀b w,(MemAct.ofEvent ⟨.cell F.sA,w,b⟩).touch? =some ⟨.cell F.sA,w,if b then .atomic else .plain⟩:=by intro b w;cases b <;> cases w <;> rfl
 have aa:∀(a:Addr) w (T:Prop),a.block=F.wg->Fp F T ⟨.cell a,w,true⟩:=by
  intro a w T hb;refine⟨λx U=>?_,by simp⟩;have:x=⟨.cell a,w,.atomic⟩:=by cases w <;> (simp [MemAct.ofEvent,MemAct.touch?] at U;exact U.symm)
  subst this;exact⟨⟨F.wg,by simp [CB,hb],.inl rfl⟩,by simp,by simp⟩
 have ab:∀(a:Addr) w B,a.block=F.wg->F.wg<B->(MemAct.ofEvent ⟨.cell a,w,true⟩).low B:=by
  intro a w B hb O;cases w <;> simp [MemAct.ofEvent,MemAct.low,Loc.low,hb,O]
 have GM:∀(m:Mark) (T:Prop),(∀a,m≠ .read a)->(∀a,m≠ .write a)->(∀a,m≠ .release a)->Fp F T (Fam.Cu m):=by
  intro m T aj ak al;exact⟨λx U=>(by rw [QE aj ak] at U;cases U),λe=>al _ (Loc.mark.inj e)⟩
 have ac:F.mA.block=F.wg:=rfl;have Z:F.sA.block=F.wg:=rfl;have ER:∀(T:Prop),∀e∈semEvents F.mA,Fp F T e:=by
  intro T e he;simp only [semEvents,List.mem_toArray,List.mem_cons,List.not_mem_nil,or_false] at he;rcases he with rfl | rfl | rfl | rfl
  ·exact GM .disable T (by simp) (by simp) (by simp)
  ·exact aa _ _ _ ac
  ·exact aa _ _ _ ac
  ·exact GM .enable T (by simp) (by simp) (by simp)
 have ai:∀e∈semEvents F.mA,∀B,F.wg<B->(MemAct.ofEvent e).low B:=by
  intro e he B O;simp only [semEvents,List.mem_toArray,List.mem_cons,List.not_mem_nil,or_false] at he;rcases he with rfl | rfl | rfl | rfl
  ·trivial
  ·exact ab _ _ _ ac O
  ·exact ab _ _ _ ac O
  ·trivial
 have ae:∀(T:Prop),∀e∈(#[Fam.B6 F.sA,Fam.Ee F.sA]:Array Event),Fp F T e:=by
  intro T e he;simp only [List.mem_toArray,List.mem_cons,List.not_mem_nil,or_false] at he;rcases he with rfl | rfl <;> exact aa _ _ _ Z
 have ag:∀e∈(#[Fam.B6 F.sA,Fam.Ee F.sA]:Array Event),∀B,F.wg<B->(MemAct.ofEvent e).low B:=by
  intro e he B O;simp only [List.mem_toArray,List.mem_cons,List.not_mem_nil,or_false] at he;rcases he with rfl | rfl <;> exact ab _ _ _ Z O
 have one:∀{e:Event} {T:Prop},Fp F T e->∀x∈(#[e]:Array Event),Fp F T x:=by
  intro e T h x U;simp at U;subst U;exact h
 have Y:∀{e:Event},(∀B,F.wg<B->(MemAct.ofEvent e).low B)->∀x∈(#[e]:Array Event),∀B,F.wg<B->(MemAct.ofEvent x).low B:=by
  intro e h x U;simp at U;subst U;exact h
 cases p <;> simp only [Fam.act] at K <;> (try (cases K;done))
 ·cases K;exact⟨one (GM _ _ (by simp) (by simp) (by simp)),rfl,Y λB O=>O⟩
 ·cases K;exact⟨one (GM _ _ (by simp) (by simp) (by simp)),rfl,Y λB O=>trivial⟩
 ·split at K
  ·cases K;exact⟨ae _,by split <;> rfl,ag⟩
  ·cases K
 ·split at K
  ·cases K;exact⟨one (aa _ _ _ Z),rfl,Y λB O=>ab _ _ _ Z O⟩
  ·cases K
 ·split at K
  ·cases K;exact⟨one (aa _ _ _ Z),rfl,Y λB O=>ab _ _ _ Z O⟩
  ·cases K
 ·split at K
  ·cases K;exact⟨ER _,rfl,ai⟩
  ·cases K
 ·cases K;exact⟨one (GM _ _ (by simp) (by simp) (by simp)),rfl,Y λB O=>trivial⟩
 ·split at K
  ·cases K;exact⟨one (aa _ _ _ Z),by split <;> rfl,Y λB O=>ab _ _ _ Z O⟩
  ·cases K
 ·split at K
  ·split at K
   ·cases K;exact⟨ae _,rfl,ag⟩
   ·cases K;exact⟨one (aa _ _ _ Z),rfl,Y λB O=>ab _ _ _ Z O⟩
  ·cases K
 ·cases K;refine⟨one ⟨λx U=>?_,by simp [Fam.Cu]⟩,rfl,Y λB O=>O⟩;simp [Fam.Cu,MemAct.ofEvent,MemAct.touch?] at U;subst U;exact⟨⟨F.wg,rfl,.inl rfl⟩,by simp,λ_=> .inl rfl⟩
 ·split at K
  ·cases K;exact⟨ER _,rfl,ai⟩
  ·cases K
 ·split at K
  ·cases K;exact⟨one (aa _ _ _ Z),rfl,Y λB O=>ab _ _ _ Z O⟩
  ·cases K
 ·cases K;exact⟨one (GM _ _ (by simp) (by simp) (by simp)),rfl,Y λB O=>trivial⟩
 ·cases K;exact⟨one (GM _ _ (by simp) (by simp) (by simp)),rfl,Y λB O=>trivial⟩
 ·split at K
  ·cases K;exact⟨ae _,by split <;> rfl,ag⟩
  ·cases K
 ·cases K;refine⟨one ⟨λx U=>?_,by simp [Fam.Cu]⟩,rfl,Y λB O=>O⟩;simp [Fam.Cu,MemAct.ofEvent,MemAct.touch?] at U;subst U;exact⟨⟨F.wg,rfl,.inl rfl⟩,by simp,λ_=> .inr ⟨_,rfl⟩⟩
 ·cases K;exact⟨one (GM _ _ (by simp) (by simp) (by simp)),rfl,Y λB O=>trivial⟩
 all_goals
  cases K;exact⟨by simp,rfl,by simp⟩
theorem Wh(p:Ph){es:Array Event}{U:Nx}(K:F.act p v wt sm=some ((v',wt',sm'),es,U)){k:Nat}(hw:Gz F k (.ph p))(O:late (.ph p)):
  ∀m e,es[m]? =some e->(MemAct.ofEvent e).touch? =none∨((∃ad wr,e=⟨.cell ad,wr,true⟩)/\0<deafBehind (FC (.ph p)) (es.extract 0 m)):=by
 have two:∀m e,(#[Fam.B6 F.sA,Fam.Ee F.sA]:Array Event)[m]? =some e->(∃ad wr,e=⟨.cell ad,wr,true⟩)/\0<deafBehind 1 ((#[Fam.B6 F.sA,Fam.Ee F.sA]:Array Event).extract 0 m):=by
  intro m e h
  match m with
  | 0=>simp at h;subst h;exact⟨⟨_,_,rfl⟩,by simp [deafBehind]⟩
  | 1=>simp at h;subst h;exact⟨⟨_,_,rfl⟩,by simp [deafBehind,Fam.B6]⟩
  | m+2=>simp at h
 cases p <;> simp only [Gz] at hw <;> (try exact hw.elim) <;> simp only [late] at O <;> (try exact O.elim) <;> simp only [Fam.act] at K <;> (try (cases K;done))
 ·cases K;intro m e h
  match m with
  | 0=>simp at h;subst h;exact .inl rfl
  | m+1=>simp at h
 ·split at K
  ·cases K;exact λm e h=> .inr (two m e h)
  ·cases K
 ·split at K
  ·cases K;intro m e h
   match m with
   | 0=>simp at h;subst h;exact .inr ⟨⟨_,_,rfl⟩,by simp [deafBehind,FC]⟩
   | m+1=>simp at h
  ·cases K
 ·split at K
  ·cases K;intro m e h
   match m with
   | 0=>simp at h;subst h;exact .inr ⟨⟨_,_,rfl⟩,by simp [deafBehind,FC]⟩
   | m+1=>simp at h
  ·cases K
 ·split at K
  ·cases K;intro m e h
   match m with
   | 0=>simp [semEvents] at h;subst h;exact .inl rfl
   | 1=>simp [semEvents] at h;subst h;exact .inr ⟨⟨_,_,rfl⟩,by simp [deafBehind,FC,semEvents]⟩
   | 2=>simp [semEvents] at h;subst h;exact .inr ⟨⟨_,_,rfl⟩,by simp [deafBehind,FC,semEvents]⟩
   | 3=>simp [semEvents] at h;subst h;exact .inl rfl
   | m+4=>simp [semEvents] at h
  ·cases K
theorem Wu{p:LP}{m m':M4}{q q':Nat}{es:Array Event}{o:Option LP}(K:(m',q',es,o)∈F.BQ p m q):
  (∀e∈es,Fp F False e)/\deafBehind (dl p) es=oC dl o/\(∀e∈es,∀B,F.mu<B->(MemAct.ofEvent e).low B):=by
 have aa:∀(a:Addr) w,a.block=F.mu->Fp F False ⟨.cell a,w,true⟩:=by
  intro a w hb;refine⟨λx Z=>?_,by simp⟩;have:x=⟨.cell a,w,.atomic⟩:=by cases w <;> (simp [MemAct.ofEvent,MemAct.touch?] at Z;exact Z.symm)
  subst this;exact⟨⟨F.mu,by simp [CB,hb],.inr rfl⟩,by simp,by simp⟩
 have ab:∀(a:Addr) w B,a.block=F.mu->F.mu<B->(MemAct.ofEvent ⟨.cell a,w,true⟩).low B:=by
  intro a w B hb O;cases w <;> simp [MemAct.ofEvent,MemAct.low,Loc.low,hb,O]
 have GM:∀(m:Mark),(∀a,m≠ .read a)->(∀a,m≠ .write a)->(∀a,m≠ .release a)->Fp F False (Fam.Cu m):=by
  intro m ac ae ag;exact⟨λx Z=>(by rw [QE ac ae] at Z;cases Z),λe=>ag _ (Loc.mark.inj e)⟩
 have nil:∀d,(∀e∈(#[]:Array Event),Fp F False e)/\deafBehind d #[]=d/\(∀e∈(#[]:Array Event),∀B,F.mu<B->(MemAct.ofEvent e).low B):=λd=>⟨by simp,rfl,by simp⟩;have rd:∀d,(∀e∈(#[Fam.B6 F.uA]:Array Event),Fp F False e)/\deafBehind d #[Fam.B6 F.uA]=d/\(∀e∈(#[Fam.B6 F.uA]:Array Event),∀B,F.mu<B->(MemAct.ofEvent e).low B):=λd=>
  ⟨λe he=>by simp at he;subst he;exact aa _ _ rfl,rfl,λe he B O=>by simp at he;subst he;exact ab _ _ _ rfl O⟩
 have U:∀d,(∀e∈(#[Fam.B6 F.uA,Fam.Ee F.uA]:Array Event),Fp F False e)/\deafBehind d #[Fam.B6 F.uA,Fam.Ee F.uA]=d/\(∀e∈(#[Fam.B6 F.uA,Fam.Ee F.uA]:Array Event),∀B,F.mu<B->(MemAct.ofEvent e).low B):=λd=>
  ⟨λe he=>by
   simp only [List.mem_toArray,List.mem_cons,List.not_mem_nil,or_false] at he
   rcases he with rfl | rfl <;> exact aa _ _ rfl,rfl,λe he B O=>by
   simp only [List.mem_toArray,List.mem_cons,List.not_mem_nil,or_false] at he
   rcases he with rfl | rfl <;> exact ab _ _ _ rfl O⟩
 have ER:(∀e∈semEvents F.qA,Fp F False e)/\deafBehind 1 (semEvents F.qA)=1/\(∀e∈semEvents F.qA,∀B,F.mu<B->(MemAct.ofEvent e).low B):=by
  refine⟨λe he=>?_,rfl,λe he B O=>?_⟩
  ·simp only [semEvents,List.mem_toArray,List.mem_cons,List.not_mem_nil,or_false] at he;rcases he with rfl | rfl | rfl | rfl
   ·exact GM .disable (by simp) (by simp) (by simp)
   ·exact aa _ _ rfl
   ·exact aa _ _ rfl
   ·exact GM .enable (by simp) (by simp) (by simp)
  ·simp only [semEvents,List.mem_toArray,List.mem_cons,List.not_mem_nil,or_false] at he;rcases he with rfl | rfl | rfl | rfl
   ·trivial
   ·exact ab _ _ _ rfl O
   ·exact ab _ _ _ rfl O
   ·trivial
 have Y:∀(m:Mark) (d d':Nat),(∀a,m≠ .read a)->(∀a,m≠ .write a)->(∀a,m≠ .release a)->deafBehind d #[Fam.Cu m]=d'->(∀B,F.mu<B->(MemAct.ofEvent (Fam.Cu m)).low B)->
   (∀e∈(#[Fam.Cu m]:Array Event),Fp F False e)/\deafBehind d #[Fam.Cu m]=d'/\(∀e∈(#[Fam.Cu m]:Array Event),∀B,F.mu<B->(MemAct.ofEvent e).low B):=λm d d' ac ae ag ah ai=>
  ⟨λe he=>by simp at he;subst he;exact GM m ac ae ag,ah,λe he B O=>by simp at he;subst he;exact ai B O⟩
 cases p <;> simp only [Fam.BQ,List.mem_singleton,Prod.mk.injEq,List.not_mem_nil] at K
 case FX=>obtain⟨rfl,rfl,rfl,rfl⟩:=K;exact Y .disable 0 1 (by simp) (by simp) (by simp) rfl λB O=>trivial
 case G5=>
  split at K <;> simp only [List.mem_singleton,Prod.mk.injEq] at K <;> obtain⟨rfl,rfl,rfl,rfl⟩:=K
  ·exact U 1
  ·exact rd 1
 case Ca sv aw it old=>
  simp only [Fam.Fl,List.mem_append] at K;rcases K with K | K
  ·split at K
   ·split at K
    ·simp only [List.mem_singleton] at K;split at K <;> simp only [Prod.mk.injEq] at K <;> obtain⟨rfl,rfl,rfl,rfl⟩:=K
     ·exact U 1
     ·exact rd 1
    ·simp only [List.mem_singleton,Prod.mk.injEq] at K;obtain⟨rfl,rfl,rfl,rfl⟩:=K;exact nil 1
   ·simp at K
  ·split at K
   ·split at K
    ·simp only [List.mem_singleton,Prod.mk.injEq] at K;obtain⟨rfl,rfl,rfl,rfl⟩:=K;exact U 1
    ·simp only [List.mem_cons,List.not_mem_nil,or_false,Prod.mk.injEq] at K;rcases K with⟨rfl,rfl,rfl,rfl⟩ | ⟨rfl,rfl,rfl,rfl⟩ <;> exact U 1
   ·simp only [List.mem_singleton,Prod.mk.injEq] at K;obtain⟨rfl,rfl,rfl,rfl⟩:=K;exact rd 1
 case Cl sv=>obtain⟨rfl,rfl,rfl,rfl⟩:=K;cases sv <;> exact ER
 case FW=>
  simp only [List.mem_cons,List.not_mem_nil,or_false,Prod.mk.injEq] at K;rcases K with⟨rfl,rfl,rfl,rfl⟩ | ⟨rfl,rfl,rfl,rfl⟩ <;> exact nil 1
 case Ek sv=>split at K <;> simp only [List.mem_singleton,Prod.mk.injEq] at K <;> obtain⟨rfl,rfl,rfl,rfl⟩:=K <;> exact nil 1
 case HE=>
  obtain⟨rfl,rfl,rfl,rfl⟩:=K;split
  ·exact U 1
  ·split <;> exact U 1
 case Ew old=>
  split at K <;> simp only [List.mem_singleton,Prod.mk.injEq] at K <;> obtain⟨rfl,rfl,rfl,rfl⟩:=K
  ·exact U 1
  ·exact rd 1
 case G8=>obtain⟨rfl,rfl,rfl,rfl⟩:=K;split <;> exact nil 1
 case EO b=>obtain⟨rfl,rfl,rfl,rfl⟩:=K;exact ER
 case len=>obtain⟨rfl,rfl,rfl,rfl⟩:=K;exact Y .enable 1 0 (by simp) (by simp) (by simp) rfl λB O=>trivial
 case ES=>obtain⟨rfl,rfl,rfl,rfl⟩:=K;exact Y .enable 1 0 (by simp) (by simp) (by simp) rfl λB O=>trivial
 case Jy=>obtain⟨rfl,rfl,rfl,rfl⟩:=K;exact Y .disable 0 1 (by simp) (by simp) (by simp) rfl λB O=>trivial
 case Jw=>obtain⟨rfl,rfl,rfl,rfl⟩:=K;exact Y (.acquire F.uA) 0 0 (by simp) (by simp) (by simp) rfl λB O=>O
 case JI=>obtain⟨rfl,rfl,rfl,rfl⟩:=K;exact Y (.releaseMerge F.uA) 0 0 (by simp) (by simp) (by simp) rfl λB O=>O
 all_goals
  obtain⟨rfl,rfl,rfl,rfl⟩:=K
 all_goals first | exact nil 0 | exact nil 1 | exact U 1
end
end Pal
namespace Pal
open Go Go.Conc
open Go.ConcN (upd upd_same upd_ne sumTo sumTo_upd sumTo_upd_out sumTo_congr le_sumTo sumTo_le fork_knows RelBy)
def Cm(c:Bool)(N:Nat)(φ:Nat->Nx):Nat->Nx:=λi=>if c=true/\i=N then φ 0 else if c=true/\i=0 then .ph (.Fy [] []) else φ i
theorem I3{N:Nat}{φ:Nat->Nx}:Cm false N φ=φ:=by funext i;simp [Cm]
theorem Iv{c:Bool}{N:Nat}{φ:Nat->Nx}{i:Nat}(K:i≠0)(O:i≠N):Cm c N φ i=φ i:=by simp [Cm,K,O]
theorem Ju{N:Nat}{φ:Nat->Nx}:Cm true N φ N=φ 0:=by simp [Cm]
theorem ML{c:Bool}{N:Nat}{φ:Nat->Nx}{i:Nat}{x:Nx}(K:i≠0)(O:i≠N):upd (Cm c N φ) i x=Cm c N (upd φ i x):=by
 funext a;unfold Cm;by_cases e:a=i
 ·subst e;rw [upd_same,if_neg (by simp [O]),if_neg (by simp [K]),upd_same]
 ·rw [upd_ne _ _ e];rw [upd_ne φ x (Ne.symm K),upd_ne _ _ e]
theorem Wc{N:Nat}{φ:Nat->Nx}{x:Nx}(O:N≠0):upd (Cm true N φ) N x=Cm true N (upd φ 0 x):=by
 funext a;unfold Cm;by_cases e:a=N
 ·subst e;simp [upd_same]
 ·rw [upd_ne _ _ e];by_cases K:a=0
  ·subst K;simp [e]
  ·rw [upd_ne φ x K];simp [e,K]
def Ht:Nx->Bool
 | .gone _=>true
 | .ph p=>Fam.Cz p
def loc(x:Nx)(s:St):St:=if Ht x=true then .quiet else s
def Gk:LP->Prop
 | .Gn | .JM | .JI | .Jy | .HE | .Ew _ | .G8 | .EO _ | .ES=>True
 | _=>False
def stored:Nx->Prop
 | .gone _=>True
 | .ph (.lk _ p)=>Gk p
 | .ph .HG | .ph .Gj | .ph .IA | .ph .Ha | .ph .GA | .ph .G2 | .ph .EZ=>True
 | _=>False
def Pd(p:Ph):Prop:=p= .Fo∨∃k sv,p= .lk k (.Cl sv)
inductive Gq (P:Program) (F:Fam) (main:Bool):Nx->Rk->Bool->Gs_
 | walk {p:Ph} {r:Rk} {g:Goroutine} {s:St}:main=Fam.Cr p->(Fam.Cz p=true->s= .quiet)->Jr P main (JQ (Stop P F p)) r g s->Gq P F main (.ph p) r true g s
 | blk {p:Ph} {r:Rk} {g:Goroutine} {s:St}:Pd p->main=Fam.Cr p->Stop P F p g s->Gq P F main (.ph p) r false {g with status:= .blocked} s
 | gone {q d:Nat} {g:Goroutine}:main=false->QuitsD P q d g->Gq P F main (.gone d) (chain q) true g .quiet
section
variable {P:Program}{F:Fam}{main:Bool}
theorem Jr.running{p:Ph}{r:Rk}{g:Goroutine}{s:St}(h:Jr P main (JQ (Stop P F p)) r g s):g.status= .running:=by
 cases r with
 | leaf=>obtain⟨s₀,_,K⟩:=h;exact K.law.run
 | node f=>
  rcases h with⟨s₀,_,K⟩ | ⟨O,_⟩
  ·exact K.law.run
  ·exact O
theorem Jr.at_{Q:GP}{r:Rk}{g:Goroutine}{s:St}(h:Q g s):Jr P main Q r g s:=by
 cases r with
 | leaf=>exact h
 | node f=>exact .inl h
theorem Gq.awake{x:Nx}{r:Rk}{b:Bool}{g:Goroutine}{s:St}(h:Gq P F main x r b g s):Go.Conc.awake g:=by
 cases h with
 | walk _ _ K=>exact awake_of (.inl K.running)
 | blk _ _ _=>exact awake_of (.inr (.inl rfl))
 | gone _ O=>exact awake_of (O.status.elim .inl λx=> .inr (.inr x))
theorem TQ{g:Goroutine}(h:g.status= .running):{({g with status:= .blocked}:Goroutine) with status:= .running}=g:=by
 obtain⟨a,b,c,d,e⟩:=g;simp only at h;subst h;rfl
theorem PZ{p:Ph}(h:Pd p):Fam.Cz p=false:=by
 rcases h with rfl | ⟨k,sv,rfl⟩ <;> rfl
theorem Gq.woken{x:Nx}{r:Rk}{b:Bool}{o:Goroutine}{s:St}(h:Gq P F main x r b o s){g g':Goroutine}{w':World}:
  ∃b',Gq P F main x r b' (Go.Conc.woken P g g' w' o) s/\(b=true->b'=true)/\(mayWake P g=true->g'.status= .running->b'=true):=by
 have ae:∀(o:Goroutine),Go.Conc.woken P g g' w' o=o.again w'∨Go.Conc.woken P g g' w' o=o:=by
  intro o;unfold Go.Conc.woken;split
  ·exact .inl rfl
  ·exact .inr rfl
 cases h with
 | walk K ag Y=>exact⟨true,by rw [woken_run Y.running];exact .walk K ag Y,λ_=>rfl,λ_ _=>rfl⟩
 | @blk p _ go _ Z K O=>
  have aa:({go with status:= .blocked}:Goroutine).again w'=go:=by
   have:=O.law.offers;have ah:({go with status:= .blocked}:Goroutine).again w'={({go with status:= .blocked}:Goroutine) with status:= .running}:=by simp [Goroutine.again,this]
   rw [ah];exact TQ O.law.run
  have ab:Gq P F main (.ph p) r true go s:= .walk K (λq=>by rw [PZ Z] at q;cases q) (Jr.at_ ⟨s,.refl _,O⟩);by_cases U:mayWake P g=true/\g'.status= .running
  ·have e:Go.Conc.woken P g g' w' ({go with status:= .blocked}:Goroutine)=({go with status:= .blocked}:Goroutine).again w':=by
    unfold Go.Conc.woken;rw [if_pos (by simp [U.1,U.2])]
   exact⟨true,by rw [e,aa];exact ab,λ_=>rfl,λ_ _=>rfl⟩
  ·rcases ae ({go with status:= .blocked}:Goroutine) with e | e
   ·exact⟨true,by rw [e,aa];exact ab,λ_=>rfl,λa b=>absurd ⟨a,b⟩ U⟩
   ·exact⟨false,by rw [e];exact .blk Z K O,λe=>e,λa b=>absurd ⟨a,b⟩ U⟩
 | gone K ac=>exact⟨true,by rw [woken_quitsD ac];exact .gone K ac,λ_=>rfl,λ_ _=>rfl⟩
end
structure Base where
 N0:Nat
 t0:Nat
 E0:LH
 w0:World
structure Inv (P:Program) (F:Fam) (B:Base) (gs:Array Goroutine) (w:World) (t:Trace) (φ:Nat->Nx) (r:Nat->Rk) (bt:Nat->Bool) (S:Nat->St) (Sh:Nat->Prop) (j:Nat) (c:Bool) (v wt sm:Nat) (m:M4) (q:Nat) (f:Nat->Value):Prop where
 Ct:Cs F B.N0 (gs.size+c.toNat) j c (Cm c gs.size φ) v wt sm false
 lock:LI gs.size φ m q
 Ey:EM F B.N0 B.t0 gs.size j φ S t
 Ku:∀i g,gs[i]? =some g->Gq P F (i==0) (φ i) (r i) (bt i) g (loc (φ i) (S i))
 B3:BP t w gs.size S Sh
 HI:Sh F.wg
 Ij:Sh F.mu
 IC:Sh F.fd
 LZ:F.mu≠F.wg
 JF:F.fd≠F.wg
 JH:F.fd≠F.mu
 HK:F.n<134217728
 mn:φ 0≠ .ph .GD/\φ 0≠ .ph .Hw
 wg:F.WG w v wt sm
 I7:F.MU w m q
 F8:F.FD w f
 blk:∀i,i<gs.size->bt i=false->(i=0/\φ 0= .ph .Fo/\sm=0)∨((∃k sv,φ i= .ph (.lk k (.Cl sv)))/\q=0)
 Ii:∀k,k<j->stored (φ (B.N0+k))->F.msg k (f k) (S (B.N0+k)).E
 le:Le B.E0 (S 0).E
 tape:w.tape=B.w0.tape
 os:F7 B.w0.os w.os
 output:w.output=B.w0.output
section
variable {P:Program}{F:Fam}{B:Base}{gs:Array Goroutine}{w w':World}{t:Trace}{φ:Nat->Nx}{r:Nat->Rk}{bt:Nat->Bool}{S:Nat->St}{Sh:Nat->Prop}{j:Nat}{c:Bool}{v wt' sm v₁ wt₁ sm₁:Nat}{m m₁:M4}{q q₁:Nat}{f f₁:Nat->Value}
theorem Inv.at_(h:Inv P F B gs w t φ r bt S Sh j c v wt' sm m q f)(d:Nat):Inv P F B gs (w.at d) t φ r bt S Sh j c v wt' sm m q f:=
 have K:BP t (w.at d) gs.size S Sh:=by
  have:=h.B3.mute (u:= #[]) (w':=w.at d) (g:=0) (by simp) (by simp) (by simp) rfl;simpa using this
 {h with B3:=K}
theorem Inv.size(h:Inv P F B gs w t φ r bt S Sh j c v wt' sm m q f):gs.size=B.N0+j:=by have:=h.Ct.size;omega
theorem Inv.Em(h:Inv P F B gs w t φ r bt S Sh j c v wt' sm m q f){i:Nat}(hi:i<gs.size):i=0∨(i≠0/\∃d,φ i= .gone d/\i<B.N0)∨∃k,k<j/\i=B.N0+k/\i≠0/\Gz F k (φ i):=by
 have Y:=h.size;have Z:=h.Ct.pos;rcases Nat.eq_zero_or_pos i with K | K
 ·exact .inl K
 rcases Nat.lt_or_ge i B.N0 with O | O
 ·have:=h.Ct.old i K O;rw [Iv (by omega) (by omega)] at this;cases U:φ i with
  | gone d=>exact .inr (.inl ⟨by omega,d,rfl,O⟩)
  | ph p=>rw [U] at this;exact this.elim
 ·have:=h.Ct.work (i - B.N0) (by omega);rw [show B.N0+(i - B.N0)=i by omega,Iv (by omega) (by omega)] at this;exact .inr (.inr ⟨i - B.N0,by omega,by omega,by omega,this⟩)
theorem Inv.main(h:Inv P F B gs w t φ r bt S Sh j c v wt' sm m q f):∃p,φ 0= .ph p/\Fam.Cr p=true/\((c=false/\Hu F.n j c p)∨(c=true/\I2 (.ph p))):=by
 have Z:=h.size;cases K:c with
 | false=>
  have:=h.Ct.main;rw [K,I3] at this;obtain⟨p,Y,O⟩:=this;exact⟨p,Y,by cases p <;> simp [Hu] at O <;> rfl,.inl ⟨rfl,O⟩⟩
 | true=>
  have:=h.Ct.cls K;have aa:=h.Ct.cj K;rw [K,show B.N0+F.n=gs.size by omega,Ju] at this;cases U:φ 0 with
  | gone d=>
   have:=h.Ct.mode;rw [if_pos K,K,show B.N0+F.n=gs.size by omega,Ju,U] at this;simp [Df] at this
  | ph p=>rw [U] at this;exact⟨p,rfl,by cases p <;> simp [I2] at this <;> rfl,.inr ⟨rfl,this⟩⟩
theorem Jo(a b:LP->Nat)(N:Nat)(φ:Nat->Nx):Sg (λp=>a p+b p) N φ=Sg a N φ+Sg b N φ:=by
 unfold Sg
 induction N with
 | zero=>rfl
 | succ N K=>
  simp only [sumTo,K];have:CV (λp=>a p+b p) (φ N)=CV a (φ N)+CV b (φ N):=by
   cases φ N with
   | gone d=>rfl
   | ph p=>cases p <;> rfl
  omega
theorem N6{a b:Nat->Nat}:∀{N M:Nat},N<=M->(∀i,i<N->a i<=b i)->sumTo N a<=sumTo M b
 | 0,_,_,_=>by simp [sumTo]
 | N+1,0,h,_=>by omega
 | N+1,M+1,h,K=>by
  rcases Nat.lt_or_ge N M with q | q
  ·have O:sumTo (N+1) a<=sumTo M b:=N6 (by omega) K
   simp only [sumTo] at O ⊢;omega
  ·obtain rfl:N=M:=by omega
   have O:sumTo N a<=sumTo N b:=N6 (Nat.le_refl _) λi hi=>K i (by omega);have U:=K N (by omega);simp only [sumTo];omega
theorem Inv.small(h:Inv P F B gs w t φ r bt S Sh j c v wt' sm m q f):CR m:=by
 have Y:=h.size;have hb:Sg (λp=>(pQ p+pV p)+pD p) gs.size φ<=sumTo (gs.size+c.toNat) λi=>cU (Cm c gs.size φ i):=by
  refine N6 (by omega) λi hi=>?_;rcases Nat.eq_zero_or_pos i with rfl | Z
  ·obtain⟨p,O,hm,_⟩:=h.main;rw [O];cases p <;> first | (simp [CV];done) | (simp [Fam.Cr] at hm)
  ·rw [Iv (by omega) (by omega)];cases φ i with
   | gone d=>simp [CV]
   | ph p=>
    cases p <;> simp only [CV] <;> (try omega)
    rename_i k l;cases l <;> simp [pQ,pV,pD,cU]
 rw [Jo,Jo] at hb;have aa:=h.Ct.cnt;have ab:=h.Ct.PD;obtain⟨l1,l2,U⟩:=h.lock.ln;have ac:=h.HK;show m.w<134217728;cases K:m.s with
 | false=>have:=(l2 K).2.2.2.1;omega
 | true=>have:=(U K).2.2.2.2.1;omega
theorem Inv.go(h:Inv P F B gs w t φ r bt S Sh j c v wt' sm m q f){i:Nat}{g g':Goroutine}{es:Array Event}{x:Nx}{ρ:Rk}{s':St}(hi:gs[i]? =some g)
  (ah:Cs F B.N0 (gs.size+c.toNat) j c (Cm c gs.size (upd φ i x)) v₁ wt₁ sm₁ false) (ai:LI gs.size (upd φ i x) m₁ q₁)
  (aj:EM F B.N0 B.t0 gs.size j (upd φ i x) (upd S i s') (t++MemOp.ofEvents i g.frame.fn g.frame.place es))
  (ak:Gq P F (i==0) x ρ true g' (loc x s'))
  (hC:BP (t++MemOp.ofEvents i g.frame.fn g.frame.place es) w' gs.size (upd S i s') Sh)
  (al:F.WG w' v₁ wt₁ sm₁) (am:F.MU w' m₁ q₁) (an:F.FD w' f₁)
  (ao:sm₁≠0->sm=0->mayWake P g=true/\g'.status= .running) (ap:q₁≠0->q=0->mayWake P g=true/\g'.status= .running)
  (aq:∀k,k<j->stored (upd φ i x (B.N0+k))->F.msg k (f₁ k) (upd S i s' (B.N0+k)).E)
  (ar:i=0->x≠ .ph .GD/\x≠ .ph .Hw) (au:i=0->Le (S 0).E s'.E) (av:w'.tape=w.tape) (aw:F7 w.os w'.os) (ay:w'.output=w.output):
  ∃O,Inv P F B ((gs.map (woken P g g' w')).setIfInBounds i g') w' (t++MemOp.ofEvents i g.frame.fn g.frame.place es) (upd φ i x) (upd r i ρ) O (upd S i s') Sh j c v₁ wt₁ sm₁ m₁ q₁ f₁:=by
 have az:i<gs.size:=(Array.getElem?_eq_some_iff.1 hi).1;have U:((gs.map (woken P g g' w')).setIfInBounds i g').size=gs.size:=by simp
 have ae:∀a,∃b',(a=i->b'=true)/\(a≠i->∀o,gs[a]? =some o->Gq P F (a==0) (φ a) (r a) b' (woken P g g' w' o) (loc (φ a) (S a))/\(bt a=true->b'=true)/\(mayWake P g=true->g'.status= .running->b'=true)):=by
  intro a;by_cases e:a=i
  ·exact⟨true,λ_=>rfl,λq=>absurd e q⟩
  ·cases K:gs[a]? with
   | none=>exact⟨true,λ_=>rfl,λ_ o q=>by cases q⟩
   | some o=>
    obtain⟨b',aA,Y,Z⟩:=(h.Ku a o K).woken (g:=g) (g':=g') (w':=w');exact⟨b',λq=>absurd q e,λ_ o' q=>by cases q;exact⟨aA,Y,Z⟩⟩
 let O:Nat->Bool:=λa=>Classical.choose (ae a);have hb:∀a,(a=i->O a=true)/\(a≠i->∀o,gs[a]? =some o->Gq P F (a==0) (φ a) (r a) (O a) (woken P g g' w' o) (loc (φ a) (S a))/\(bt a=true->O a=true)/\(mayWake P g=true->g'.status= .running->O a=true)):=λa=>Classical.choose_spec (ae a);refine⟨O,by rw [U];exact ah,by rw [U];exact ai,by rw [U];exact aj,λa o K=>?_,by rw [U];exact hC,h.HI,h.Ij,h.IC,h.LZ,h.JF,h.JH,h.HK,(by
  by_cases e:i=0
  ·subst e;rw [upd_same];exact ar rfl
  ·rw [upd_ne _ _ (Ne.symm e)];exact h.mn),al,am,an,λa ab ac=>?_,aq,λb o K=>?_,av.trans h.tape,h.os.trans aw,ay.trans h.output⟩
 ·by_cases e:a=i
  ·subst e;rw [Array.getElem?_setIfInBounds_self_of_lt (by simpa using az)] at K;obtain rfl:=Option.some.inj K;rw [upd_same,upd_same,upd_same,(hb a).1 rfl];exact ak
  ·rw [Array.getElem?_setIfInBounds_ne (Ne.symm e),Array.getElem?_map] at K;obtain⟨o',aB,rfl⟩:=Option.map_eq_some_iff.1 K;rw [upd_ne _ _ e,upd_ne _ _ e,upd_ne _ _ e];exact((hb a).2 e o' aB).1
 ·rw [U] at ab;have e:a≠i:=λe=>by have:=(hb a).1 e;rw [ac] at this;cases this
  obtain⟨_,k1,aC⟩:=(hb a).2 e _ (Array.getElem?_eq_getElem ab);have ag:¬(mayWake P g=true/\g'.status= .running):=λ⟨x,y⟩=>by have:=aC x y;rw [ac] at this;cases this
  have aD:bt a=false:=by
   cases aa:bt a with
   | false=>rfl
   | true=>have:=k1 aa;rw [ac] at this;cases this
  rcases h.blk a ab aD with⟨rfl,Y,Z⟩ | ⟨⟨k,sv,Y⟩,Z⟩
  ·refine .inl ⟨rfl,by rw [upd_ne _ _ e];exact Y,?_⟩;exact Classical.not_not.1 λaa=>ag (ao aa Z)
  ·refine .inr ⟨⟨k,sv,by rw [upd_ne _ _ e];exact Y⟩,?_⟩;exact Classical.not_not.1 λaa=>ag (ap aa Z)
 ·by_cases e:i=0
  ·subst e;rw [upd_same];exact au rfl b o (h.le b o K)
  ·rw [upd_ne _ _ (Ne.symm e)];exact h.le b o K
end
end Pal
namespace Pal
open Go Go.Conc
open Go.ConcN (upd upd_same upd_ne sumTo sumTo_upd sumTo_upd_out sumTo_congr le_sumTo sumTo_le fork_knows RelBy)
def PH(P:Program)(F:Fam)(B:Base)(gs:Array Goroutine)(w:World)(t:Trace):Prop:=
 ∃q Sh g s,Hd P gs w t q Sh g s/\F.fin g s/\Le B.E0 s.E/\w.tape=B.w0.tape/\F7 B.w0.os w.os/\w.output=B.w0.output
def H6(P:Program)(F:Fam)(B:Base)(gs:Array Goroutine)(w:World)(sl:Option (Nat×Nat))(t:Trace)(i:Nat)(K:Mu):Prop:=
 ∃gs' w' O u,runT P (crowd gs w sl) i=(.next (crowd gs' w' O),u)/\
  ((∃φ r bt S Sh j c v wt' sm m q f,Inv P F B gs' w' (t++u) φ r bt S Sh j c v wt' sm m q f/\Mu.lt (mu F gs'.size φ m q r bt) K)∨PH P F B gs' w' (t++u))
theorem LI.same{N:Nat}{φ:Nat->Nx}{m:M4}{q i:Nat}{y:Nx}(h:LI N φ m q)(hi:i<N)(O:∀f,CV f (φ i)=CV f y∨(f≠pH/\f≠pN/\f≠pZ/\f≠pV/\f≠pT/\f≠pQ/\f≠pD/\f≠pX))(U:Nw y m):LI N (upd φ i y) m q:=by
 have e:∀f,(f=pH∨f=pN∨f=pZ∨f=pV∨f=pT∨f=pQ∨f=pD∨f=pX)->Sg f N (upd φ i y)=Sg f N φ:=λf Y=>MF f hi (by
  rcases O f with q | ⟨a,b,c,d,e,f,g,h⟩
  ·exact q
  ·rcases Y with q | q | q | q | q | q | q | q <;> contradiction)
 refine⟨by rw [e pH (by simp),e pN (by simp),e pZ (by simp),e pV (by simp),e pT (by simp),e pQ (by simp),e pD (by simp),e pX (by simp)];exact h.ln,λa Z=>?_⟩;by_cases K:a=i
 ·subst K;rw [upd_same];exact U
 ·rw [upd_ne _ _ K];exact h.loc a Z
section
variable {P:Program}{F:Fam}{B:Base}{gs:Array Goroutine}{w w':World}{sl:Option (Nat×Nat)}{t:Trace}{φ:Nat->Nx}{r:Nat->Rk}{bt:Nat->Bool}{S:Nat->St}{Sh:Nat->Prop}{j:Nat}{c:Bool}{v wt' sm v₁ wt₁ sm₁:Nat}{m m₁:M4}{q q₁:Nat}{f f₁:Nat->Value}
theorem Inv.go'(h:Inv P F B gs w t φ r bt S Sh j c v wt' sm m q f){i:Nat}{g g':Goroutine}{es:Array Event}{x:Nx}{ρ:Rk}{s':St}(hi:gs[i]? =some g)(O:stepG P (i==0) g w= .go g' w' es)
  (U:Cs F B.N0 (gs.size+c.toNat) j c (Cm c gs.size (upd φ i x)) v₁ wt₁ sm₁ false) (Y:LI gs.size (upd φ i x) m₁ q₁)
  (Z:EM F B.N0 B.t0 gs.size j (upd φ i x) (upd S i s') (t++MemOp.ofEvents i g.frame.fn g.frame.place es))
  (aa:Gq P F (i==0) x ρ true g' (loc x s'))
  (hC:BP (t++MemOp.ofEvents i g.frame.fn g.frame.place es) w' gs.size (upd S i s') Sh)
  (ab:F.WG w' v₁ wt₁ sm₁) (ac:F.MU w' m₁ q₁) (ae:F.FD w' f₁)
  (ag:sm₁≠0->sm=0->mayWake P g=true/\g'.status= .running) (ah:q₁≠0->q=0->mayWake P g=true/\g'.status= .running)
  (ai:∀k,k<j->stored (upd φ i x (B.N0+k))->F.msg k (f₁ k) (upd S i s' (B.N0+k)).E)
  (aj:i=0->x≠ .ph .GD/\x≠ .ph .Hw) (ak:i=0->Le (S 0).E s'.E) (al:w'.tape=w.tape) (am:F7 w.os w'.os) (an:w'.output=w.output)
  (hm:∀K,Mu.lt (mu F gs.size (upd φ i x) m₁ q₁ (upd r i ρ) K) (mu F gs.size φ m q r bt)):H6 P F B gs w sl t i (mu F gs.size φ m q r bt):=by
 obtain⟨K,ao⟩:=h.go hi U Y Z aa hC ab ac ae ag ah ai aj ak al am an;refine⟨_,_,_,_,runT_crowd_go hi O,.inl ⟨_,_,_,_,_,_,_,_,_,_,_,_,_,ao,?_⟩⟩;have ap:((gs.map (woken P g g' w')).setIfInBounds i g').size=gs.size:=by simp
 rw [ap];exact hm K
theorem Qe{k:Nat}{p:Ph}(hw:Gz F k (.ph p))(K:late (.ph p)):Fam.Cz p=true:=by
 cases p <;> simp only [Gz] at hw <;> (try exact hw.elim) <;> first | rfl | exact K.elim
theorem Mm(a:Nat)(fn:FuncId)(pos:String):MemOp.ofEvents a fn pos #[]= #[]:=by rw [ofEvents_eq];simp
theorem Inv.own(h:Inv P F B gs w t φ r bt S Sh j c v wt' sm m q f)(az:∀k v E E',Le E E'->F.msg k v E->F.msg k v E'){i:Nat}{g g':Goroutine}{es:Array Event}{p:Ph}{ρ:Rk}{s':St}(hi:gs[i]? =some g)(K:φ i= .ph p)(am:(i==0)=Fam.Cr p)
  (an:stepG P (i==0) g w= .go g' w' es) (ao:Jr P (i==0) (JQ (Stop P F p)) ρ g' s') (aA:Fits s' w') (O:Fr (loc (.ph p) (S i)) w s' w') (Y:∀e∈es,Ev (loc (.ph p) (S i)) w w' e) (aB:loc (.ph p) (S i)= .quiet->s'= .quiet/\w'=w/\es= #[]) (aC:Rk.sub ρ (r i)):
  H6 P F B gs w sl t i (mu F gs.size φ m q r bt):=by
 have U:i<gs.size:=(Array.getElem?_eq_some_iff.1 hi).1;have Z:upd φ i (.ph p)=φ:=by rw [← K];exact MB _ _
 have ap:∀aq,Mu.lt (mu F gs.size (upd φ i (.ph p)) m q (upd r i ρ) aq) (mu F gs.size φ m q r bt):=λaq=>S2 U (λ_=>by rw [K]) (by rw [K]) aC;cases aa:Fam.Cz p with
 | true=>
  have ab:loc (.ph p) (S i)= .quiet:=by simp [loc,Ht,aa]
  obtain⟨rfl,rfl,rfl⟩:=aB ab;have ai:upd S i (S i)=S:=MB _ _;refine h.go' hi an (x:= .ph p) (ρ:=ρ) (s':=S i) (by rw [Z];exact h.Ct) (by rw [Z];exact h.lock) ?_ (by rw [ab];exact .walk am (λ_=>rfl) ao) ?_ h.wg h.I7 h.F8 (λa b=>absurd b a) (λa b=>absurd b a) (by rw [Z,ai];exact h.Ii) (λe=>by subst e;rw [← K];exact h.mn) (λe=>by subst e;exact .refl _) rfl (.refl _) rfl ap
  ·rw [Z,ai,Mm];simpa using h.Ey
  ·rw [ai,Mm];simpa using h.B3
 | false=>
  have ab:loc (.ph p) (S i)=S i:=by simp [loc,Ht,aa]
  rw [ab] at O Y;have aD:loc (.ph p) s'=s':=by simp [loc,Ht,aa]
  have aj:∀b₀,Sh b₀->∀b wr,Gy (S i) w w' b wr->b≠b₀:=by
   intro b₀ ae b wr aE;have ar:=h.B3.sh i U b₀ ae;have aL:=h.B3.F4 b₀ ae;rintro rfl;rcases aE.2 with q | q | ⟨q,_⟩
   ·exact q ar.1
   ·omega
   ·exact q ar.2
  have ak:∀b₀,Sh b₀->w'.heap[b₀]? =w.heap[b₀]? :=λb₀ ae=>O.keep b₀ (h.B3.F4 b₀ ae) (h.B3.sh i U b₀ ae).1;have au:∀k,k<j->i=B.N0+k->¬late (φ i):=by
   intro k ac e av;rcases h.Em U with aM | ⟨_,d,hd,_⟩ | ⟨k',_,_,_,hw⟩
   ·have:=h.Ct.pos;omega
   ·rw [K] at hd;cases hd
   ·rw [K] at hw av;rw [Qe hw av] at aa;cases aa
  have aF:∀e∈es,e.loc≠ .mark .disable/\e.loc≠ .mark .enable:=by
   intro e he;have:=Y e he;refine⟨λah=>?_,λah=>?_⟩ <;> unfold Ev at this <;> rw [ah] at this <;> exact this
  refine h.go' (f₁:=f) hi an (x:= .ph p) (ρ:=ρ) (s':=s') (by rw [Z];exact h.Ct) (by rw [Z];exact h.lock) ?_ (by rw [aD];exact .walk am (λe=>by rw [aa] at e;cases e) ao) (h.B3.own U aA O Y) ?_ ?_ ?_ (λa b=>absurd b a) (λa b=>absurd b a) ?_ (λe=>by subst e;rw [← K];exact h.mn) (λe=>by subst e;exact λb o al=>O.ext b o al) O.tape (.of O.os) O.output ap
  ·refine h.Ey.app U (by rw [K];exact deafBehind_still aF _) (λe he=>⟨λa b ag hb aG=>absurd aG ?_,λa ag hb=>absurd rfl (aj F.fd h.IC F.fd a.write (KI (Y e he) ag hb)),?_⟩) ?_ (λk ac aH e he a b ag hb hw=>?_) (λk ac e ab=>absurd (K▸ab) (au k ac e))
   ·have:=KI (Y e he) ag hb;rintro(q | q)
    ·exact aj F.wg h.HI b _ this q
    ·exact aj F.mu h.Ij b _ this q
   ·intro ah;have:=Y e he;unfold Ev at this;rw [ah] at this;exact this
   ·rcases h.Em U with e | ⟨_,d,hd,_⟩ | ⟨k,_,e,_,_⟩
    ·exact .inl (.inl e)
    ·rw [K] at hd;cases hd
    ·exact .inl (.inr (by omega))
   ·have aI:=KI (Y e he) ag hb;have aJ:B.N0+k≠i:=λe=>au k ac e.symm (e▸aH);have aw:B.N0+k<gs.size:=by have:=h.size;omega
    rcases aI.2 with y | y | ⟨_,y⟩
    ·exact(h.B3.hh i (B.N0+k) U aw (Ne.symm aJ) b y).2
    ·cases aK:(S (B.N0+k)).E b with
     | none=>rfl
     | some o=>have:=(h.B3.fits _ aw).e b o aK;simp [Array.getElem?_eq_none y] at this
    ·rw [y] at hw;cases hw
  ·show w'.heap[F.wg]? =_;rw [ak _ h.HI];exact h.wg
  ·show w'.heap[F.mu]? =_;rw [ak _ h.Ij];exact h.I7
  ·show w'.heap[F.fd]? =_;rw [ak _ h.IC];exact h.F8
  ·intro k ac ay;rw [Z] at ay;have:=h.Ii k ac ay;by_cases e:B.N0+k=i
   ·rw [e,upd_same];rw [e] at this;exact az _ _ _ _ (λb o al=>O.ext b o al) this
   ·rw [upd_ne _ _ e];exact this
theorem Inv.slip(h:Inv P F B gs w t φ r bt S Sh j c v wt' sm m q f){i:Nat}{g:Goroutine}(hi:gs[i]? =some g)(Z:g.status= .running){d U:Nat}(O:φ i= .gone d)(al:r i=chain U)(ab:(i==0)=false)(ag:QuitsD P U d g):
  H6 P F B gs w sl t i (mu F gs.size φ m q r bt):=by
 have ac:i<gs.size:=(Array.getElem?_eq_some_iff.1 hi).1;have aa:i≠0:=by simpa using ab
 cases U with
 | zero=>rw [ag.1] at Z;cases Z
 | succ U=>
  rcases ag with⟨am,_⟩ | ⟨_,g',es,hm,an,ao⟩
  ·rw [am] at Z;cases Z
  have ap:∀op∈MemOp.ofEvents i g.frame.fn g.frame.place es,op.act.touch? =none:=λop Y=>by obtain⟨e,he,rfl⟩:=mem_ofEvents Y;exact touch_mute (hm e he)
  have aq:∀e∈es,e.loc≠ .mark (.release F.sA):=by
   intro e he ah;have:=hm e he;obtain⟨loc,wr,av⟩:=e;simp only at ah;subst ah;simp [Event.mute] at this
  have ai:upd S i (S i)=S:=MB _ _;have aj:=h.Ct.leave (i:=i) (d:=d) (d':=deafBehind d es) (by omega) (by rw [Iv aa (by omega)];exact O);rw [ML aa (by omega)] at aj;refine h.go' hi (by rw [ab];exact an w) (x:= .gone (deafBehind d es)) (ρ:=chain U) (s':=S i) aj (h.lock.other ac (λk p e=>by rw [O] at e;cases e) (λk p e=>by cases e)) ?_ (.gone ab ao) ?_ h.wg h.I7 h.F8 (λa b=>absurd b a) (λa b=>absurd b a) ?_ (λe=>absurd e aa) (λe=>absurd e aa) rfl (.refl _) rfl λaw=>S2 ac (λ_=>by rw [O];rfl) (by rw [O];rfl) (by rw [al];exact U3 U w)
  ·refine h.Ey.app ac (by rw [O];rfl) (λe he=>⟨λa b K=>(by rw [touch_mute (hm e he)] at K;cases K),λa K=>(by rw [touch_mute (hm e he)] at K;cases K),aq e he⟩) (.inr λe he=>touch_mute (hm e he)) (λk ae ar e he a b K=>(by rw [touch_mute (hm e he)] at K;cases K)) (λk ae e ar=> .inl ⟨by rw [O];trivial,rfl,λρ au=>?_⟩);exact au.appOwn _ _ es λm e he=> .inl (touch_mute (hm e (Array.mem_of_getElem? he)))
  ·rw [ai];exact h.B3.mute (g:=i) (λop Y=>by obtain⟨e,_,rfl⟩:=mem_ofEvents Y;rfl) ap (λop Y=>by obtain⟨e,he,rfl⟩:=mem_ofEvents Y;exact low_mute (hm e he) _) rfl
  ·rw [ai];intro k ae ak;refine h.Ii k ae ?_;by_cases e:B.N0+k=i
   ·rw [e,O];trivial
   ·rw [upd_ne _ _ e] at ak;exact ak
theorem Yj{p:Ph}{es:Array Event}{K:Nx}(O:F.act p v wt' sm=some ((v₁,wt₁,sm₁),es,K)):
  (∀q,K= .ph q->Fam.Cr q=Fam.Cr p/\(Fam.Cz q=true->p= .Gj∨Fam.Cz p=true)/\(Fam.Cz q=false->Fam.Cz p=false/\p≠ .Gj)/\∀k l,q≠ .lk k l)/\(sm₁≠0->sm=0->p= .EZ)/\(∀d,K= .gone d->Fam.Cr p=false/\Fam.Cz p=true)/\
  (∀k l,p≠ .lk k l)/\(Fam.Cr p=false->stored K)/\(Fam.Cr p=false->late K->late (.ph p)∨p= .Gj)/\(Fam.Cr p=false->stored (.ph p))/\K≠ .ph .GD/\K≠ .ph .Hw:=by
 cases p <;> simp only [Fam.act] at O <;> (try (cases O;done))
 all_goals (try (split at O)) <;> (try (cases O;done)) <;> (try (split at O))
 all_goals cases O
 all_goals first
  | (simp [Fam.Cr,Fam.Cz,stored,late];done)
  | (split <;> simp [Fam.Cr,Fam.Cz,stored,late];done)
  | (simp [Fam.Cr,Fam.Cz,stored,late];omega)
theorem Cs.enabled{N0 N:Nat}{cl:Bool}(h:Cs F N0 N j c φ v wt' sm cl){i:Nat}(hi:i<N){p:Ph}(K:φ i= .ph p)(al:∀k,p≠ .G4 k)(am:∀k,p≠ .FG k)(an:p≠ .GD)(ao:∀ap vs,p≠ .Fy ap vs)(aq:p≠ .Hw)(ar:p= .Fo->sm=1)(au:p≠ .F5)(av:∀k l,p≠ .lk k l):
  ∃v' w' sm' es aw,F.act p v wt' sm=some ((v',w',sm'),es,aw):=by
 have hm:=h.mode;have aB:=h.PD;have aC:=h.HK;have O:=h.cnt;have aa:cU (φ i)<=sumTo N λa=>cU (φ a):=le_sumTo (f:=λa=>cU (φ a)) hi;have ab:cL (φ i)<=sumTo N λa=>cL (φ a):=le_sumTo (f:=λa=>cL (φ a)) hi;have ah:cS (φ i)<=sumTo N λa=>cS (φ a):=le_sumTo (f:=λa=>cS (φ a)) hi;rw [K] at aa ab ah;have ay:wt'<=1:=by
  generalize (if c=true then φ (N0+F.n) else Nx.ph .C7)=y at hm
  cases y with
  | gone d=>simp only [Df] at hm;omega
  | ph q=>cases q <;> simp only [Df] at hm <;> (try exact hm.elim) <;> omega
 have ac:1<=(sumTo N λa=>cL (φ a))+(sumTo N λa=>cS (φ a))->v=0/\sm=0/\wt'=sumTo N λa=>cL (φ a):=by
  intro hh;generalize (if c=true then φ (N0+F.n) else Nx.ph .C7)=y at hm
  cases y with
  | gone d=>simp only [Df] at hm;omega
  | ph q=>cases q <;> simp only [Df] at hm <;> (try exact hm.elim) <;> omega
 have ae:∀x,φ i= .ph x->I2 (.ph x)->c=true/\(if c=true then φ (N0+F.n) else Nx.ph .C7)= .ph x:=by
  intro x Y ai;rcases h.Em hi with rfl | ⟨a,b⟩ | ⟨k,ag,rfl⟩ | ⟨O,rfl⟩
  ·obtain⟨q,U,Z⟩:=h.main;rw [Y] at U;cases U;cases x <;> simp [Hu] at Z <;> exact ai.elim
  ·have:=h.old i a b;rw [Y] at this;exact this.elim
  ·have:=h.work k ag;rw [Y] at this;cases x <;> simp [Gz] at this <;> exact ai.elim
  ·exact⟨O,by rw [if_pos O];exact Y⟩
 cases p <;> simp only [Fam.act]
 ·exact absurd rfl (al _)
 ·exact⟨_,_,_,_,_,rfl⟩
 ·exact⟨_,_,_,_,_,rfl⟩
 ·simp only [cU] at aa;have:1<=v:=by
   have aD:1<=sumTo N λa=>cU (φ a):=aa;omega
  rw [if_pos ⟨this,by omega,ay⟩];exact⟨_,_,_,_,_,rfl⟩
 ·have az:1<=sumTo N λa=>cL (φ a):=ab;have:=ac (by omega);rw [if_pos ⟨this.1,by omega⟩];exact⟨_,_,_,_,_,rfl⟩
 ·have az:1<=sumTo N λa=>cL (φ a):=ab;have:=ac (by omega);rw [if_pos ⟨this.1,by omega⟩];exact⟨_,_,_,_,_,rfl⟩
 ·have aE:1<=sumTo N λa=>cS (φ a):=ah;have:=ac (by omega);rw [if_pos this.2.1];exact⟨_,_,_,_,_,rfl⟩
 ·exact⟨_,_,_,_,_,rfl⟩
 ·obtain⟨aj,e⟩:=ae _ K trivial;rw [e] at hm;rw [if_pos ⟨hm.2.2.2.2.2,hm.2.2.2.1⟩];exact⟨_,_,_,_,_,rfl⟩
 ·obtain⟨aj,e⟩:=ae _ K trivial;rw [e] at hm;rw [if_pos ⟨hm.2.2.2.2.2.1,hm.2.2.2.2.2.2,hm.2.2.2.1⟩];split <;> exact⟨_,_,_,_,_,rfl⟩
 ·exact⟨_,_,_,_,_,rfl⟩
 ·rw [if_pos (ar rfl)];exact⟨_,_,_,_,_,rfl⟩
 ·obtain⟨aj,e⟩:=ae _ K trivial;rw [e] at hm;rw [if_pos ⟨hm.2.2.2.2.1,hm.2.2.2.1⟩];exact⟨_,_,_,_,_,rfl⟩
 ·exact⟨_,_,_,_,_,rfl⟩
 ·exact absurd rfl au
 ·exact absurd rfl aq
 ·exact⟨_,_,_,_,_,rfl⟩
 ·have aA:c=false/\v<=j/\j<F.n:=by
   rcases h.Em hi with rfl | ⟨a,b⟩ | ⟨k,ag,rfl⟩ | ⟨O,rfl⟩
   ·obtain⟨q,U,Z⟩:=h.main;rw [K] at U;cases U;have ak:=h.JK;rw [K] at ak;exact⟨Z.2.2,by simpa [pend] using ak,Z.2.1⟩
   ·have:=h.old i a b;rw [K] at this;exact this.elim
   ·have:=h.work k ag;rw [K] at this;exact this.elim
   ·have:=h.cls O;rw [K] at this;exact this.elim
  rw [aA.1] at hm;simp only [Bool.false_eq_true,if_false,Df] at hm;rw [if_pos ⟨by omega,hm.2.2.2.1⟩];exact⟨_,_,_,_,_,rfl⟩
 ·exact⟨_,_,_,_,_,rfl⟩
 ·exact⟨_,_,_,_,_,rfl⟩
 ·exact absurd rfl (am _)
 ·exact absurd rfl an
 ·exact absurd rfl (ao _ _)
 all_goals first | exact⟨_,_,_,_,_,rfl⟩ | exact absurd rfl (av _ _)
end
end Pal
namespace Pal
open Go Go.Conc
open Go.ConcN (upd upd_same upd_ne sumTo sumTo_upd sumTo_upd_out sumTo_congr le_sumTo sumTo_le fork_knows RelBy)
section
variable {P:Program}{F:Fam}{B:Base}{gs:Array Goroutine}{w w':World}{sl:Option (Nat×Nat)}{t:Trace}{φ:Nat->Nx}{r:Nat->Rk}{bt:Nat->Bool}{S:Nat->St}{Sh:Nat->Prop}{j:Nat}{c:Bool}{v wt' sm v₁ wt₁ sm₁:Nat}{m m₁:M4}{q q₁:Nat}{f f₁:Nat->Value}
theorem VU(w:World)(v wt sm:Nat):(F.put w v wt sm).heap.size=w.heap.size:=by simp [Fam.put]
theorem Pf(w:World)(v wt sm:Nat){b:Nat}(h:b≠F.wg):(F.put w v wt sm).heap[b]? =w.heap[b]? :=by simp [Fam.put,Array.getElem?_setIfInBounds_ne (Ne.symm h)]
theorem XE(w:World)(v wt sm:Nat)(h:F.wg<w.heap.size):F.WG (F.put w v wt sm) v wt sm:=by simp [Fam.WG,Fam.put,h]
theorem U6(w:World)(m:M4)(q:Nat):(F.FA w m q).heap.size=w.heap.size:=by simp [Fam.FA]
theorem Ov(w:World)(m:M4)(q:Nat){b:Nat}(h:b≠F.mu):(F.FA w m q).heap[b]? =w.heap[b]? :=by simp [Fam.FA,Array.getElem?_setIfInBounds_ne (Ne.symm h)]
theorem WI(w:World)(m:M4)(q:Nat)(h:F.mu<w.heap.size):F.MU (F.FA w m q) m q:=by simp [Fam.MU,Fam.FA,h]
theorem UF(w:World)(f:Nat->Value):(F.G7 w f).heap.size=w.heap.size:=by simp [Fam.G7]
theorem OA(w:World)(f:Nat->Value){b:Nat}(h:b≠F.fd):(F.G7 w f).heap[b]? =w.heap[b]? :=by simp [Fam.G7,Array.getElem?_setIfInBounds_ne (Ne.symm h)]
theorem WA(w:World)(f:Nat->Value)(h:F.fd<w.heap.size):F.FD (F.G7 w f) f:=by simp [Fam.FD,Fam.G7,h]
theorem Yg{p:Ph}{s:St}(h:p≠ .Gj):Fam.I6 p s=s:=by cases p <;> first | rfl | exact absurd rfl h
theorem BP.heap{t:Trace}{w w':World}{N:Nat}{S:Nat->St}{Sh:Nat->Prop}(h:BP t w N S Sh)(hw:w'.heap=w.heap):BP t w' N S Sh:=by
 have:=h.mute (u:= #[]) (w':=w') (g:=0) (by simp) (by simp) (by simp) hw;simpa using this
theorem Inv.act(h:Inv P F B gs w t φ r bt S Sh j c v wt' sm m q f)(aI:∀k v E E',Le E E'->F.msg k v E->F.msg k v E'){i:Nat}{g:Goroutine}(hi:gs[i]? =some g){p:Ph}(K:φ i= .ph p)(aa:(i==0)=Fam.Cr p){s₀:St}(aJ:B9 (loc (.ph p) (S i)) s₀)(ah:Stop P F p g s₀)
  {es:Array Event} {Z:Nx} (O:F.act p v wt' sm=some ((v₁,wt₁,sm₁),es,Z)):H6 P F B gs w sl t i (mu F gs.size φ m q r bt):=by
 have U:i<gs.size:=(Array.getElem?_eq_some_iff.1 hi).1;obtain⟨g',aK,aL,ap⟩:=ah.law.act _ _ _ _ _ _ _ _ O;obtain⟨n1,n2,aM,aN,n5,aO,aP,aQ⟩:=Yj O;obtain⟨ae,e2,aR⟩:=Yi p O;have aq:=h.B3.F4 F.wg h.HI;have bb:=h.size;have be:=h.Ct.pos;have ar:i≠0->Fam.Cr p=false:=λe=>by rw [← aa];simp [e]
 have au:(p= .HF∨∃j,p= .Hy j)->i=0:=by
  intro Y;have:Fam.Cr p=true:=by rcases Y with rfl | ⟨j,rfl⟩ <;> rfl
  rw [this] at aa;simpa using aa
 have av:i=0∨B.N0<=i:=by
  rcases h.Em U with e | ⟨_,d,hd,_⟩ | ⟨k,_,e,_,_⟩
  ·exact .inl e
  ·rw [K] at hd;cases hd
  ·exact .inr (by omega)
 let s':St:=if Fam.Cz p=true then S i else s₀
 have ai:Fam.Cz p=true->s'=S i:=λe=>by simp [s',e]
 have ab:Fam.Cz p=false->s'=s₀:=λe=>by simp [s',e]
 have aw:Fam.Cz p=false->B9 (S i) s₀:=λe=>by simpa [loc,Ht,e] using aJ
 have hle:Le (S i).E s'.E:=by
  cases e:Fam.Cz p with
  | true=>rw [ai e];exact .refl _
  | false=>rw [ab e];exact λb o aj=>(aw e).ext b o aj
 have ay:BP t w gs.size (upd S i s') Sh:=by
  cases e:Fam.Cz p with
  | true=>rw [ai e,MB];exact h.B3
  | false=>rw [ab e];exact h.B3.ghost U (aw e)
 have aS:BP (t++MemOp.ofEvents i g.frame.fn g.frame.place es) (F.put w v₁ wt₁ sm₁) gs.size (upd S i s') Sh:=by
  refine ay.ext (h.Ey.noRace h.B3.clean U av λe he=>(ae e he).toS au) (λop ak a al b hb=>?_) (λop ak=>?_) (VU ..) (λb hb=>Pf _ _ _ _ λe=>hb (e▸h.HI))
  ·obtain⟨e,he,rfl⟩:=mem_ofEvents ak;obtain⟨⟨b',ac,am⟩,_⟩:=(ae e he).1 a al;rw [hb] at ac;cases ac;rcases am with rfl | rfl
   ·exact h.HI
   ·exact h.Ij
  ·obtain⟨e,he,rfl⟩:=mem_ofEvents ak;exact aR e he _ aq
 have aT:stepG P (i==0) g w= .go g' (F.put w v₁ wt₁ sm₁) es:=by rw [aa];exact aK w h.wg
 have aU:Cs F B.N0 (gs.size+c.toNat) j c (Cm c gs.size (upd φ i Z)) v₁ wt₁ sm₁ false:=by
  by_cases e:i=0
  ·subst e;cases c with
   | false=>
    have:=h.Ct.act (i:=0) (by omega) (by rw [I3];exact K) O;rw [I3] at this;rw [I3];exact this
   | true=>
    have:=h.Ct.act (i:=gs.size) (by simp) (by rw [Ju];exact K) O
    rwa [Wc (by omega)] at this
  ·have:=h.Ct.act (i:=i) (by omega) (by rw [Iv e (by omega)];exact K) O
   rwa [ML e (by omega)] at this
 have aV:EM F B.N0 B.t0 gs.size j (upd φ i Z) (upd S i s') (t++MemOp.ofEvents i g.frame.fn g.frame.place es):=by
  refine h.Ey.app U (by rw [K];exact e2) (λe he=>(ae e he).keep au h.JF h.JH) (.inl av) (λk ag az e he a b al hb hw=>?_) (λk ag e az=>?_)
  ·obtain⟨⟨b',ac,am⟩,_⟩:=(ae e he).1 a al;rw [hb] at ac;cases ac;have aA:B.N0+k<gs.size:=by omega
   rcases am with rfl | rfl
   ·exact(h.B3.sh _ aA _ h.HI).2
   ·exact(h.B3.sh _ aA _ h.Ij).2
  ·have aB:i≠0:=by omega
   have aC:Gz F k (.ph p):=by
    rcases h.Em U with aW | ⟨_,d,hd,_⟩ | ⟨k',_,bf,_,hw⟩
    ·exact absurd aW aB
    ·rw [K] at hd;cases hd
    ·obtain rfl:k'=k:=by omega
     rwa [K] at hw
   rcases aO (ar aB) az with an | rfl
   ·refine .inl ⟨by rw [K];exact an,by rw [ai (Qe aC an)],λρ ao=>?_⟩;refine ao.appOwn _ _ es λm e he=>?_;rw [h.Ey.deaf _ U,K];exact Wh p O aC an m e he
   ·refine .inr ⟨t.size,h.Ey.LW,?_,?_⟩
    ·simp only [Fam.act] at O;cases O;exact .new (by rw [h.Ey.deaf _ U,K];rfl) _ _
    ·simp only [Fam.act] at O;cases O;rw [ab rfl];intro b hb x a aD aX hw;have aY:MemOp.ofEvents i g.frame.fn g.frame.place #[Fam.Cu (.releaseMerge F.sA)]= #[{g:=i,fn:=g.frame.fn,pos:=g.frame.place,act:= .mark (.releaseMerge F.sA)}]:=by rw [ofEvents_eq];simp [Fam.Cu,MemAct.ofEvent]
     rw [aY] at aD ⊢;obtain⟨op,aj,aE⟩:=touch_of aD;rcases getElem?_append_cases aj with⟨_,aZ⟩ | ⟨_,aF⟩
     ·have a0:=ay.kE i U b (by rw [upd_same,ab rfl];exact hb) x a (by rw [touchAt_of aZ];exact aE) aX hw;have a2:(t++ #[({g:=i,fn:=g.frame.fn,pos:=g.frame.place,act:= .mark (.releaseMerge F.sA)}:MemOp)])[t.size]? =some {g:=i,fn:=g.frame.fn,pos:=g.frame.place,act:= .mark (.releaseMerge F.sA)}:=by simp
      exact .inr (a0.hb_new (Nat.le_refl _) a2 rfl)
     ·simp at aF;subst aF;cases aE
 have a3:∀k,k<j->stored (upd φ i Z (B.N0+k))->F.msg k (f k) (upd S i s' (B.N0+k)).E:=by
  intro k ag aG;by_cases e:B.N0+k=i
  ·rw [e,upd_same];have:=h.Ii k ag (by rw [e,K];exact aP (ar (by omega)));rw [e] at this;exact aI _ _ _ _ hle this
  ·rw [upd_ne _ _ e] at aG ⊢;exact h.Ii k ag aG
 have a4:LI gs.size (upd φ i Z) m q:=h.lock.other U (λk l e=>aN k l (by rw [K] at e;exact Nx.ph.inj e)) (λk l e=>by subst e;exact(n1 _ rfl).2.2.2 k l rfl);have a5:∀q,Z= .ph q->loc (.ph q) s'=Fam.I6 p s₀:=by
  intro q e;obtain⟨_,aH,a6,_⟩:=n1 q e;cases Y:Fam.Cz q with
  | true=>
   have:loc (.ph q) s'= .quiet:=by simp [loc,Ht,Y]
   rw [this];rcases aH Y with rfl | e
   ·rfl
   ·rw [ah.law.quiet e];cases p <;> rfl
  | false=>
   obtain⟨a1,a7⟩:=a6 Y;rw [Yg a7,ab a1];simp [loc,Ht,Y]
 have fin:∀(ρ:Rk),Gq P F (i==0) Z ρ true g' (loc Z s')->H6 P F B gs w sl t i (mu F gs.size φ m q r bt):=λρ a8=>
  h.go' (f₁:=f) hi aT aU a4 aV a8 aS (XE _ _ _ _ aq) (by show(F.put w v₁ wt₁ sm₁).heap[F.mu]? =_;rw [Pf _ _ _ _ h.LZ];exact h.I7) (by show(F.put w v₁ wt₁ sm₁).heap[F.fd]? =_;rw [Pf _ _ _ _ h.JF];exact h.F8)
   (λa b=>⟨ah.law.Iy (.inl (n2 a b)),aL⟩) (λa b=>absurd b a) a3 (λ_=>aQ) (λe=>by subst e;exact hle) rfl (.refl _) rfl λbg=>SY U (by rw [K];exact XP O)
 cases Z with
 | ph q=>
  obtain⟨ρ,ao⟩:=ap;refine fin ρ ?_;obtain⟨a9,aH,_,_⟩:=n1 q rfl;refine .walk (by rw [aa,a9]) (λY=>by simp [loc,Ht,Y]) ?_;rw [a5 q rfl,aa];exact ao
 | gone d=>
  obtain⟨ba,Y⟩:=ap;exact fin (chain ba) (.gone (by rw [aa];exact(aM d rfl).1) Y)
theorem XY{l:LP}{m m':M4}{q q':Nat}{es:Array Event}{o:Option LP}(K:(m',q',es,o)∈F.BQ l m q):q'<=q∨∃b,l= .EO b:=by
 cases l <;> simp only [Fam.BQ,List.mem_singleton,Prod.mk.injEq,List.not_mem_nil] at K
 case EO b=>exact .inr ⟨b,rfl⟩
 case G5=>split at K <;> simp only [List.mem_singleton,Prod.mk.injEq] at K <;> exact .inl (by omega)
 case Ca sv aw it old=>
  simp only [Fam.Fl,List.mem_append] at K;left;rcases K with K | K
  ·split at K
   ·split at K
    ·simp only [List.mem_singleton] at K;split at K <;> simp only [Prod.mk.injEq] at K <;> omega
    ·simp only [List.mem_singleton,Prod.mk.injEq] at K;omega
   ·simp at K
  ·split at K
   ·split at K
    ·simp only [List.mem_singleton,Prod.mk.injEq] at K;omega
    ·simp only [List.mem_cons,List.not_mem_nil,or_false,Prod.mk.injEq] at K;rcases K with K | K <;> omega
   ·simp only [List.mem_singleton,Prod.mk.injEq] at K;omega
 case FW=>
  simp only [List.mem_cons,List.not_mem_nil,or_false,Prod.mk.injEq] at K;left;rcases K with K | K <;> omega
 case Ek sv=>split at K <;> simp only [List.mem_singleton,Prod.mk.injEq] at K <;> exact .inl (by omega)
 case Ew old=>split at K <;> simp only [List.mem_singleton,Prod.mk.injEq] at K <;> exact .inl (by omega)
 all_goals exact .inl (by omega)
theorem V1{l:LP}{m m':M4}{q q':Nat}{es:Array Event}{o:Option LP}(K:(m',q',es,o)∈F.BQ l m q):(∀p,o=some p->Gk p->Gk l)/\(o=none->Gk l):=by
 cases l <;> simp only [Fam.BQ,List.mem_singleton,Prod.mk.injEq,List.not_mem_nil] at K
 case G5=>split at K <;> simp only [List.mem_singleton,Prod.mk.injEq] at K <;> obtain⟨-,-,-,rfl⟩:=K <;> simp [Gk]
 case Ca sv aw it old=>
  simp only [Fam.Fl,List.mem_append] at K;rcases K with K | K
  ·split at K
   ·split at K
    ·simp only [List.mem_singleton] at K;split at K <;> simp only [Prod.mk.injEq] at K <;> obtain⟨-,-,-,rfl⟩:=K <;> simp [Gk]
    ·simp only [List.mem_singleton,Prod.mk.injEq] at K;obtain⟨-,-,-,rfl⟩:=K;simp [Gk]
   ·simp at K
  ·split at K
   ·split at K
    ·simp only [List.mem_singleton,Prod.mk.injEq] at K;obtain⟨-,-,-,rfl⟩:=K;simp [Gk]
    ·simp only [List.mem_cons,List.not_mem_nil,or_false,Prod.mk.injEq] at K;rcases K with⟨-,-,-,rfl⟩ | ⟨-,-,-,rfl⟩ <;> simp [Gk]
   ·simp only [List.mem_singleton,Prod.mk.injEq] at K;obtain⟨-,-,-,rfl⟩:=K;simp [Gk]
 case FW=>
  simp only [List.mem_cons,List.not_mem_nil,or_false,Prod.mk.injEq] at K;rcases K with⟨-,-,-,rfl⟩ | ⟨-,-,-,rfl⟩ <;> simp [Gk]
 case Cl sv=>obtain⟨-,-,-,rfl⟩:=K;cases sv <;> simp [Gk]
 case Ek sv=>split at K <;> simp only [List.mem_singleton,Prod.mk.injEq] at K <;> obtain⟨-,-,-,rfl⟩:=K <;> simp [Gk]
 all_goals first
  | (obtain⟨-,-,-,rfl⟩:=K;simp [Gk];done)
  | (exact⟨λ_ _ _=>trivial,λ_=>trivial⟩)
theorem Inv.BQ(h:Inv P F B gs w t φ r bt S Sh j c v wt' sm m q f)(aA:∀k v E E',Le E E'->F.msg k v E->F.msg k v E'){i:Nat}{g:Goroutine}(hi:gs[i]? =some g){k:Nat}{l:LP}(K:φ i= .ph (.lk k l))(aB:l≠ .EP)(ab:(i==0)=false){s₀:St}(an:B9 (S i) s₀)(ao:Stop P F (.lk k l) g s₀)
  (aC:∀sv,l= .Cl sv->q≠0):H6 P F B gs w sl t i (mu F gs.size φ m q r bt):=by
 have O:i<gs.size:=(Array.getElem?_eq_some_iff.1 hi).1;have aj:=h.lock.ok O K h.small aC;obtain⟨m',q',es,o,g',ac,U,aD,Y,aE,aF⟩:=ao.law.lk k l rfl aB w m q h.I7 aj;obtain⟨ae,e2,aG⟩:=Wu U;have ap:=h.B3.F4 F.mu h.Ij;have aZ:=h.size;have a0:=h.Ct.pos;have Z:i≠0:=by simpa using ab
 obtain⟨k',aH,aq,_,ar⟩:∃k',k'<j/\i=B.N0+k'/\i≠0/\Gz F k' (φ i):=by
  rcases h.Em O with e | ⟨_,d,hd,_⟩ | e
  ·exact absurd e Z
  ·rw [K] at hd;cases hd
  ·exact e
 rw [K] at ar;obtain rfl:k=k':=ar;have aI:BP t w gs.size (upd S i s₀) Sh:=h.B3.ghost O an;have aJ:BP (t++MemOp.ofEvents i g.frame.fn g.frame.place es) ac gs.size (upd S i s₀) Sh:=by
  have:BP (t++MemOp.ofEvents i g.frame.fn g.frame.place es) (F.FA w m' q') gs.size (upd S i s₀) Sh:=by
   refine aI.ext (h.Ey.noRace h.B3.clean O (.inr (by omega)) λe he=>(ae e he).toS (λx=>x.elim)) (λop ak a al b hb=>?_) (λop ak=>?_) (U6 ..) (λb hb=>Ov _ _ _ λe=>hb (e▸h.Ij))
   ·obtain⟨e,he,rfl⟩:=mem_ofEvents ak;obtain⟨⟨b',aa,am⟩,_⟩:=(ae e he).1 a al;rw [hb] at aa;cases aa;rcases am with rfl | rfl
    ·exact h.HI
    ·exact h.Ij
   ·obtain⟨e,he,rfl⟩:=mem_ofEvents ak;exact aG e he _ ap
  exact this.heap Y.1
 have aK:cU (.ph (Fam.CW k o))=1/\cL (.ph (Fam.CW k o))=0/\cS (.ph (Fam.CW k o))=0/\Gz F k (.ph (Fam.CW k o))/\(∀a,Nx.ph (Fam.CW k o)≠ .ph (.G4 a))/\Fam.Cr (Fam.CW k o)=false/\Fam.Cz (Fam.CW k o)=false/\¬late (.ph (Fam.CW k o)):=by
  cases o with
  | none=>exact⟨rfl,rfl,rfl,trivial,by simp [Fam.CW],rfl,rfl,λx=>x⟩
  | some p=>exact⟨rfl,rfl,rfl,rfl,by simp [Fam.CW],rfl,rfl,λx=>x⟩
 obtain⟨aL,x2,aM,aN,aO,aP,au,aQ⟩:=aK;have aR:Cs F B.N0 (gs.size+c.toNat) j c (Cm c gs.size (upd φ i (.ph (Fam.CW k o)))) v wt' sm false:=by
  have ag:Cm c gs.size φ (B.N0+k)= .ph (.lk k l):=by rw [← aq,Iv Z (by omega)];exact K
  have:=h.Ct.Ia (v':=v) (wt':=wt') (sm':=sm) (cl':=false) aH (x:= .ph (Fam.CW k o)) aN (λa=>by rw [ag];simp) aO (by rw [ag,aL];rfl) λL S' av aw=>by
   rw [ag,x2] at av;rw [ag,aM] at aw;have aS:L=_:=av;have aT:S'=_:=aw;rw [aS,aT];exact h.Ct.mode
  rwa [← aq,ML Z (by omega)] at this
 have aU:EM F B.N0 B.t0 gs.size j (upd φ i (.ph (Fam.CW k o))) (upd S i s₀) (t++MemOp.ofEvents i g.frame.fn g.frame.place es):=by
  refine h.Ey.app O (by rw [K];rw [show FC (.ph (.lk k l))=dl l from rfl,e2];cases o <;> rfl) (λe he=>(ae e he).keep (λx=>x.elim) h.JF h.JH) (.inl (.inr (by omega))) (λk' ah ay e he a b al hb hw=>?_) (λk' ah e ay=>absurd ay aQ);obtain⟨⟨b',aa,am⟩,_⟩:=(ae e he).1 a al;rw [hb] at aa;cases aa;have az:B.N0+k'<gs.size:=by omega
  rcases am with rfl | rfl
  ·exact(h.B3.sh _ az _ h.HI).2
  ·exact(h.B3.sh _ az _ h.Ij).2
 obtain⟨ρ,aV⟩:=aF;have aW:loc (.ph (Fam.CW k o)) s₀=s₀:=by simp [loc,Ht,au]
 refine h.go' (f₁:=f) hi (by rw [ab];exact aD) aR (h.lock.step O K h.small aj U) aU (ρ:=ρ) (by rw [aW];exact .walk (by rw [ab,aP]) (λe=>by rw [au] at e;cases e) (by rw [ab];exact aV)) aJ ?_ ?_ ?_ (λa b=>absurd b a) (λa b=>?_) (λk' ah ai=>?_) (λe=>absurd e Z) (λe=>absurd e Z) (Y.2.1) Y.2.2.1 Y.2.2.2 λa1=>Zz O K U aj
 ·show ac.heap[F.wg]? =_;rw [Y.1,Ov _ _ _ (Ne.symm h.LZ)];exact h.wg
 ·show ac.heap[F.mu]? =_;rw [Y.1];exact WI _ _ _ ap
 ·show ac.heap[F.fd]? =_;rw [Y.1,Ov _ _ _ h.JH];exact h.F8
 ·rcases XY U with e | ⟨aX,rfl⟩
  ·omega
  ·exact⟨ao.law.Iy (.inr ⟨k,aX,rfl⟩),aE⟩
 ·by_cases e:B.N0+k'=i
  ·rw [e,upd_same] at ai ⊢;obtain rfl:k'=k:=by omega
   have aY:Gk l:=by
    obtain⟨a,b⟩:=V1 U;cases o with
    | none=>exact b rfl
    | some p=>exact a p rfl ai
   have:=h.Ii k' ah (by rw [e,K];exact aY);rw [e] at this;exact aA _ _ _ _ (λb o U=>an.ext b o U) this
  ·rw [upd_ne _ _ e] at ai ⊢;exact h.Ii k' ah ai
end
end Pal
namespace Pal
open Go Go.Conc
open Go.ConcN (upd upd_same upd_ne sumTo sumTo_upd sumTo_upd_out sumTo_congr le_sumTo sumTo_le fork_knows RelBy)
section
variable {P:Program}{F:Fam}{B:Base}{gs gs':Array Goroutine}{w w':World}{sl:Option (Nat×Nat)}{t:Trace}{φ:Nat->Nx}{r:Nat->Rk}{bt:Nat->Bool}{S:Nat->St}{Sh:Nat->Prop}{j:Nat}{c:Bool}{v wt' sm v₁ wt₁ sm₁:Nat}{m m₁:M4}{q q₁:Nat}{f f₁:Nat->Value}
theorem Inv.store(h:Inv P F B gs w t φ r bt S Sh j c v wt' sm m q f){i:Nat}{g:Goroutine}(hi:gs[i]? =some g){k:Nat}(O:φ i= .ph (.lk k .EP))(ab:(i==0)=false){s₀:St}(aq:B9 (S i) s₀)(ar:Stop P F (.lk k .EP) g s₀):
  H6 P F B gs w sl t i (mu F gs.size φ m q r bt):=by
 have U:i<gs.size:=(Array.getElem?_eq_some_iff.1 hi).1;obtain⟨v0,au,g',aJ,av,aw⟩:=ar.law.store k rfl;have aj:=h.B3.F4 F.fd h.IC;have aK:=h.size;have aL:=h.Ct.pos;have Y:i≠0:=by simpa using ab
 obtain⟨k',ac,Z,_,ak⟩:∃k',k'<j/\i=B.N0+k'/\i≠0/\Gz F k' (φ i):=by
  rcases h.Em U with e | ⟨_,d,hd,_⟩ | e
  ·exact absurd e Y
  ·rw [O] at hd;cases hd
  ·exact e
 rw [O] at ak;obtain rfl:k=k':=ak;have aa:∀e∈(#[⟨.cell ⟨F.fd,k,none⟩,true,false⟩]:Array Event),∀a,(MemAct.ofEvent e).touch? =some a->a=⟨.cell ⟨F.fd,k,none⟩,true,.plain⟩:=by
  intro e he a K;simp at he;subst he;simp [MemAct.ofEvent,MemAct.touch?] at K;exact K.symm
 have al:∀e∈(#[⟨.cell ⟨F.fd,k,none⟩,true,false⟩]:Array Event),e.loc≠ .mark (.release F.sA):=by
  intro e he;simp at he;subst he;simp
 have ay:∀e∈(#[⟨.cell ⟨F.fd,k,none⟩,true,false⟩]:Array Event),EvS F B.N0 j i e:=λe he=>
  ⟨λa K=>by have:=aa e he a K;subst this;exact⟨F.fd,rfl,.inr ⟨rfl,k,ac,Z,rfl,rfl⟩⟩,al e he⟩
 have az:BP t w gs.size (upd S i s₀) Sh:=h.B3.ghost U aq;have aA:BP (t++MemOp.ofEvents i g.frame.fn g.frame.place #[⟨.cell ⟨F.fd,k,none⟩,true,false⟩]) (F.G7 w (upd f k v0)) gs.size (upd S i s₀) Sh:=by
  refine az.ext (h.Ey.noRace h.B3.clean U (.inr (by omega)) ay) (λop ae a aB b hb=>?_) (λop ae=>?_) (UF ..) (λb hb=>OA _ _ λe=>hb (e▸h.IC))
  ·obtain⟨e,he,rfl⟩:=mem_ofEvents ae;have:=aa e he a aB;subst this;have:b=F.fd:=by simpa [CB] using hb.symm
   subst this;exact h.IC
  ·obtain⟨e,he,rfl⟩:=mem_ofEvents ae;simp at he;subst he;simp [MemAct.ofEvent,MemAct.low,Loc.low,aj]
 have aC:Cs F B.N0 (gs.size+c.toNat) j c (Cm c gs.size (upd φ i (.ph (.lk k .Gn)))) v wt' sm false:=by
  have ag:Cm c gs.size φ (B.N0+k)= .ph (.lk k .EP):=by rw [← Z,Iv Y (by omega)];exact O
  have:=h.Ct.Ia (v':=v) (wt':=wt') (sm':=sm) (cl':=false) ac (x:= .ph (.lk k .Gn)) rfl (λa=>by rw [ag];simp) (by simp) (by rw [ag];rfl) λL S' am an=>by
   rw [ag] at am an;have aD:L=_:=am;have aE:S'=_:=an;rw [aD,aE];exact h.Ct.mode
  rwa [← Z,ML Y (by omega)] at this
 have aF:EM F B.N0 B.t0 gs.size j (upd φ i (.ph (.lk k .Gn))) (upd S i s₀) (t++MemOp.ofEvents i g.frame.fn g.frame.place #[⟨.cell ⟨F.fd,k,none⟩,true,false⟩]):=by
  refine h.Ey.app U (by rw [O];rfl) (λe he=>⟨λa b K hb aG=>?_,λa K hb=>?_,al e he⟩) (.inl (.inr (by omega))) (λk' ah ao e he a b K hb hw=>?_) (λk' ah e ao=>ao.elim)
  ·have:=aa e he a K;subst this;have ai:b=F.fd:=by simpa [CB] using hb.symm
   subst ai;rcases aG with e | e
   ·exact absurd e h.JF
   ·exact absurd e h.JH
  ·have:=aa e he a K;subst this;exact⟨k,ac,Z,rfl,rfl⟩
  ·have:=aa e he a K;subst this;have ai:b=F.fd:=by simpa [CB] using hb.symm
   subst ai;exact(h.B3.sh (B.N0+k') (by omega) _ h.IC).2
 obtain⟨ρ,aH⟩:=aw;have aI:LI gs.size (upd φ i (.ph (.lk k .Gn))) m q:=by
  refine h.lock.same U (λf=>?_) trivial;rw [O];by_cases e:f .EP=f .Gn
  ·exact .inl e
  ·right;refine⟨?_,?_,?_,?_,?_,?_,?_,?_⟩ <;> rintro rfl <;> exact e rfl
 refine h.go' (f₁:=upd f k v0) hi (by rw [ab];exact av w f h.F8) aC aI aF (ρ:=ρ) (.walk (by rw [ab];rfl) (λe=>by cases e) (by rw [ab];exact aH)) aA ?_ ?_ (WA _ _ aj) (λa b=>absurd b a) (λa b=>absurd b a) (λk' ah ap=>?_) (λe=>absurd e Y) (λe=>absurd e Y) rfl (.refl _) rfl λaM=>SY U (by rw [O];simp [wt,He])
 ·show(F.G7 w (upd f k v0)).heap[F.wg]? =_;rw [OA _ _ (Ne.symm h.JF)];exact h.wg
 ·show(F.G7 w (upd f k v0)).heap[F.mu]? =_;rw [OA _ _ (Ne.symm h.JH)];exact h.I7
 ·by_cases e:k'=k
  ·subst e;rw [← Z,upd_same,upd_same];exact au
  ·rw [upd_ne _ _ e];rw [upd_ne _ _ (by omega)] at ap ⊢;exact h.Ii k' ah ap
theorem TM{g g' o:Goroutine}(h:g'.status= .blocked):woken P g g' w o=o:=by
 unfold woken;rw [if_neg (by simp [h])]
theorem EM.Yc{N0 t0 N:Nat}(h:EM F N0 t0 N j φ S t){i:Nat}{s':St}(U:∀k,k<j->late (φ (N0+k))->N0+k≠i):EM F N0 t0 N j φ (upd S i s') t:=
 ⟨h.deaf,h.above,h.plain,h.said,h.F8,h.over,h.norel,h.LW,λk K O=>by rw [upd_ne _ _ (U k K O)];exact h.rel k K O⟩
theorem Inv.block(h:Inv P F B gs w t φ r bt S Sh j c v wt' sm m q f){i:Nat}{g:Goroutine}(hi:gs[i]? =some g){p:Ph}(K:φ i= .ph p)(am:bt i=true)(aa:(i==0)=Fam.Cr p){s₀:St}(ag:B9 (S i) s₀)(ab:Stop P F p g s₀)
  (ac:(p= .Fo/\sm=0)∨((∃k sv,p= .lk k (.Cl sv))/\q=0)):H6 P F B gs w sl t i (mu F gs.size φ m q r bt):=by
 have Y:i<gs.size:=(Array.getElem?_eq_some_iff.1 hi).1;have ar:=h.size;have an:stepG P (i==0) g w= .go {g with status:= .blocked} w #[]:=by
  rw [aa];rcases ac with⟨rfl,rfl⟩ | ⟨⟨k,sv,rfl⟩,rfl⟩
  ·exact ab.law.ER rfl w v wt' h.wg
  ·exact ab.law.Cl k sv rfl w m h.I7
 have Z:Pd p:=by
  rcases ac with⟨rfl,_⟩ | ⟨⟨k,sv,rfl⟩,_⟩
  ·exact .inl rfl
  ·exact .inr ⟨k,sv,rfl⟩
 have ao:=PZ Z;have ah:=runT_crowd_go (P:=P) (sl:=sl) (i:=i) hi an;have ap:(gs.map (woken P g {g with status:= .blocked} w)).setIfInBounds i {g with status:= .blocked}=gs.setIfInBounds i {g with status:= .blocked}:=by
  have:(woken P g {g with status:= .blocked} w)=id:=by funext o;exact TM rfl
  rw [this,Array.map_id]
 rw [ap,Mm] at ah;have O:(gs.setIfInBounds i {g with status:= .blocked}).size=gs.size:=by simp
 have ai:t++(#[]:Trace)=t:=by simp
 have aq:∀k,k<j->late (φ (B.N0+k))->B.N0+k≠i:=by
  intro k aj ak e;rw [e,K] at ak;rcases Z with rfl | ⟨k',sv,rfl⟩
  ·rcases h.Em Y with ai | ⟨_,d,hd,_⟩ | ⟨k',_,_,_,hw⟩
   ·have:=h.Ct.pos;omega
   ·rw [K] at hd;cases hd
   ·rw [K] at hw;exact hw
  ·exact ak
 refine⟨_,_,_,_,ah,.inl ⟨φ,r,upd bt i false,upd S i s₀,Sh,j,c,v,wt',sm,m,q,f,?_,?_⟩⟩
 ·rw [ai];refine⟨by rw [O];exact h.Ct,by rw [O];exact h.lock,by rw [O];exact h.Ey.Yc aq,λa o U=>?_,by rw [O];exact h.B3.ghost Y ag,h.HI,h.Ij,h.IC,h.LZ,h.JF,h.JH,h.HK,h.mn,h.wg,h.I7,h.F8,λa al hb=>?_,λk aj ae=>?_,?_,h.tape,h.os,h.output⟩
  ·by_cases e:a=i
   ·subst e;rw [Array.getElem?_setIfInBounds_self_of_lt Y] at U;obtain rfl:=Option.some.inj U;rw [upd_same,upd_same,K];have:loc (.ph p) s₀=s₀:=by simp [loc,Ht,ao]
    rw [this];exact .blk Z aa ab
   ·rw [Array.getElem?_setIfInBounds_ne (Ne.symm e)] at U;rw [upd_ne _ _ e,upd_ne _ _ e];exact h.Ku a o U
  ·by_cases e:a=i
   ·subst e;rcases ac with⟨rfl,rfl⟩ | ⟨⟨k,sv,rfl⟩,rfl⟩
    ·have:a=0:=by simpa [Fam.Cr] using aa
     subst this;exact .inl ⟨rfl,K,rfl⟩
    ·exact .inr ⟨⟨k,sv,K⟩,rfl⟩
   ·rw [upd_ne _ _ e] at hb;rw [O] at al;exact h.blk a al hb
  ·by_cases e:B.N0+k=i
   ·rw [e,K] at ae;rcases Z with rfl | ⟨k',sv,rfl⟩ <;> exact ae.elim
   ·rw [upd_ne _ _ e];exact h.Ii k aj ae
  ·by_cases e:0=i
   ·subst e;rw [upd_same];exact λb o U=>ag.ext b o (h.le b o U)
   ·rw [upd_ne _ _ e];exact h.le
 ·rw [O];have:=sumTo_upd bt false bit Y;rw [am] at this;exact .inr ⟨rfl,.inr ⟨rfl,.inr ⟨rfl,rfl,.inr ⟨rfl,by show(sumTo gs.size λa=>bit (upd bt i false a))<sumTo gs.size λa=>bit (bt a);simp only [bit] at this ⊢;simp only [if_true,Bool.false_eq_true,if_false] at this;omega⟩⟩⟩⟩
theorem LI.push{N:Nat}(h:LI N φ m q)(Z:0<N){p0:Ph}{j:Nat}(O:∀k p,φ 0≠ .ph (.lk k p))(U:∀k p,p0≠ .lk k p):LI (N+1) (upd (upd φ N (.ph (.lk j .FX))) 0 (.ph p0)) m q:=by
 have Y:LI (N+1) (upd φ N (.ph (.lk j .FX))) m q:=by
  have e:∀f,f LP.FX=0->Sg f (N+1) (upd φ N (.ph (.lk j .FX)))=Sg f N φ:=by
   intro f aa;unfold Sg;simp only [sumTo];have:=sumTo_upd_out φ (.ph (.lk j .FX)) (CV f) (i:=N) (j:=N) (Nat.le_refl _);rw [upd_same];show _+f .FX=_;omega
  refine⟨by rw [e pH rfl,e pN rfl,e pZ rfl,e pV rfl,e pT rfl,e pQ rfl,e pD rfl,e pX rfl];exact h.ln,λa ab=>?_⟩;by_cases K:a=N
  ·subst K;rw [upd_same];trivial
  ·rw [upd_ne _ _ K];exact h.loc a (by omega)
 exact Y.other (by omega) (by rw [upd_ne _ _ (by omega)];exact O) (λk p e=>U k p (Nx.ph.inj e))
theorem Inv.spawn(h:Inv P F B gs w t φ r bt S Sh j c v wt' sm m q f){g:Goroutine}(hi:gs[0]? =some g){K:Nat}(aa:φ 0= .ph (.FG K)){s₀:St}(az:B9 (S 0) s₀)(aE:Stop P F (.FG K) g s₀):
  H6 P F B gs w sl t 0 (mu F gs.size φ m q r bt):=by
 have Y:0<gs.size:=(Array.getElem?_eq_some_iff.1 hi).1;obtain⟨rfl,a9,rfl⟩:K=j/\j<F.n/\c=false:=by
  obtain⟨p,aA,_,hh⟩:=h.main;rw [aa] at aA;cases aA;rcases hh with⟨e,hm⟩ | ⟨_,hm⟩
  ·exact⟨hm.1,hm.2.1,e⟩
  ·exact hm.elim
 obtain⟨g',child,ba,bb,aF,aG,aH⟩:=aE.law.go _ rfl;have aI:=h.size;have be:=h.Ct.pos;have ao:=runT_crowd_spawn (P:=P) (sl:=sl) (i:=0) hi (show stepG P (0==0) g w=_ from aF w);rw [Mm] at ao;generalize aJ:({g:=0,fn:=g.frame.fn,pos:=g.frame.place,act:= .go gs.size}:MemOp)=x at ao;generalize aK:({g:=gs.size,fn:=child.frame.fn,pos:=g.frame.place,act:= .start}:MemOp)=y at ao;have ae:x.g=0/\x.act= .go gs.size:=by subst aJ;exact⟨rfl,rfl⟩
 have ag:y.g=gs.size/\y.act= .start:=by subst aK;exact⟨rfl,rfl⟩
 have aL:((#[]:Trace).push x).push y= #[x,y]:=rfl;have ac:((gs.setIfInBounds 0 g').push child).size=gs.size+1:=by simp
 have aM:Fam.Cr (F.El K)=true/\Fam.Cz (F.El K)=false/\FC (.ph (F.El K))=0/\(∀k p,F.El K≠ .lk k p):=by
  unfold Fam.El;split <;> exact⟨rfl,rfl,rfl,by simp⟩
 obtain⟨aN,x2,aO,aP⟩:=aM;let φ':Nat->Nx:=upd (upd φ gs.size (.ph (F.start K))) 0 (.ph (F.El K));have f0:φ' 0= .ph (F.El K):=upd_same _ _ _;have ah:φ' gs.size= .ph (F.start K):=by show upd _ _ _ _=_;rw [upd_ne _ _ (by omega),upd_same]
 have ai:∀a,a≠0->a≠gs.size->φ' a=φ a:=λa aQ ar=>by show upd _ _ _ _=_;rw [upd_ne _ _ aQ,upd_ne _ _ ar]
 have hu:∀op∈(#[x,y]:Array MemOp),op.act.touch? =none/\∀m,op.act≠ .mark m:=by
  intro op O;simp only [List.mem_toArray,List.mem_cons,List.not_mem_nil,or_false] at O;rcases O with rfl | rfl
  ·rw [ae.2];exact⟨rfl,by simp⟩
  ·rw [ag.2];exact⟨rfl,by simp⟩
 have aj:=h.Ct.spawn (by rw [I3];exact aa);rw [I3] at aj;simp only [Bool.toNat_false,Nat.add_zero] at aj;have au:∃ak,Cs F B.N0 (gs.size+1+ak.toNat) (K+1) ak (Cm ak (gs.size+1) φ') v wt' sm false:=by
  by_cases e:K+1=F.n
  ·refine⟨true,?_⟩;have av:F.Fi K= .GD:=by unfold Fam.Fi;rw [if_pos e]
   have e2:F.El K= .C7:=by unfold Fam.El;rw [if_pos e]
   have:=aj.Yv (by rw [upd_same,av]);have aR:Cm true (gs.size+1) φ'=upd (upd (upd (upd φ gs.size (.ph (F.start K))) 0 (.ph (F.Fi K))) (gs.size+1) (.ph .C7)) 0 (.ph (.Fy [] [])):=by
    funext a;unfold Cm;by_cases aw:a=gs.size+1
    ·subst aw;rw [if_pos ⟨rfl,rfl⟩,upd_ne _ _ (by omega),upd_same,f0,e2]
    ·rw [if_neg (by simp [aw])];by_cases ab:a=0
     ·subst ab;rw [if_pos ⟨rfl,rfl⟩,upd_same]
     ·rw [if_neg (by simp [ab]),upd_ne _ _ ab,upd_ne _ _ aw];show upd _ _ _ _=_;rw [upd_ne _ _ ab,upd_ne _ _ ab]
   rw [aR];exact this
  ·refine⟨false,?_⟩;have av:F.Fi K=F.El K:=by unfold Fam.Fi Fam.El;rw [if_neg e,if_neg e]
   rw [av] at aj;rw [I3];exact aj
 obtain⟨ak,au⟩:=au;have aB:BP t w gs.size (upd S 0 s₀) Sh:=h.B3.ghost Y az;have aS:BP (t++ #[x,y]) w gs.size (upd S 0 s₀) Sh:=by
  refine aB.ext (λsaid=>?_) (λop O a al=>by rw [(hu op O).1] at al;cases al) (λop O=>?_) rfl λ_ _=>rfl
  ·have e:t++ #[x,y]=(t++ #[x])++ #[y]:=by apply Array.ext';simp
   rw [e];exact noRace_append (g:=gs.size) (noRace_append (g:=0) (h.B3.clean said) (λop O=>by simp at O;subst O;exact ae.1) λz a _ op O b hb _=>by rw [(hu op (by simp at O ⊢;exact .inl O)).1] at hb;cases hb)
    (λop O=>by simp at O;subst O;exact ag.1) λz a _ op O b hb _=>by rw [(hu op (by simp at O ⊢;exact .inr O)).1] at hb;cases hb
  ·simp only [List.mem_toArray,List.mem_cons,List.not_mem_nil,or_false] at O;rcases O with rfl | rfl
   ·rw [ae.2];trivial
   ·rw [ag.2];trivial
 have aT:Deaf t 0=0:=by rw [h.Ey.deaf 0 Y,aa];rfl
 have aU:BP (t++ #[x,y]) w (gs.size+1) (upd (upd S 0 s₀) gs.size ⟨s₀.E,λ_=>none,false⟩) Sh:=by
  refine aS.push (i:=0) Y (E:=s₀.E) (λb o am=>by rw [upd_same];exact am) λb hb z a aV aW aX=>?_;have hold:touchAt t z=some a:=by
   obtain⟨op,am,ay⟩:=touch_of aV;rcases getElem?_append_cases am with⟨_,aY⟩ | ⟨_,aZ⟩
   ·rw [touchAt_of aY];exact ay
   ·rw [(hu op aZ).1] at ay;cases ay
  exact fork_knows ae ag aT (h.Ey.above _ (Nat.le_refl _)) (aB.kE 0 Y b (by rw [upd_same];exact hb) z a hold aW aX)
 have aC:∀k,k<K->upd (upd S 0 s₀) gs.size ⟨s₀.E,λ_=>none,false⟩ (B.N0+k)=S (B.N0+k):=λk aD=>by rw [upd_ne _ _ (by omega),upd_ne _ _ (by omega)]
 have a0:EM F B.N0 B.t0 (gs.size+1) (K+1) φ' (upd (upd S 0 s₀) gs.size ⟨s₀.E,λ_=>none,false⟩) (t++ #[x,y]):=by
  refine h.Ey.spawn Y aI (λa al=>?_) (by rw [ah];rfl) (by rw [aa];rfl) (λk aD ap=>?_) ae ag
  ·by_cases e:a=0
   ·subst e;rw [f0,aa,aO];rfl
   ·rw [ai a e (by omega)]
  ·by_cases e:k=K
   ·subst e;rw [show B.N0+k=gs.size by omega,ah] at ap;exact ap.elim
   ·rw [ai _ (by omega) (by omega)] at ap;exact⟨by omega,ap,by rw [aC k (by omega)]⟩
 obtain⟨a2,a3⟩:=aH;obtain⟨a4,a5⟩:=aG;have an:∀{α:Type} (f:Nat->α) (a b:α),upd (upd f 0 a) gs.size b 0=a:=λf a b=>by rw [upd_ne _ _ (by omega),upd_same]
 have a6:∀s:St,loc (.ph (F.El K)) s=s:=λs=>by simp [loc,Ht,x2]
 refine⟨_,_,_,_,ao,.inl ⟨φ',upd (upd r 0 a2) gs.size a4,upd (upd bt 0 true) gs.size true,upd (upd S 0 s₀) gs.size ⟨s₀.E,λ_=>none,false⟩,Sh,K+1,ak,v,wt',sm,m,q,f,?_,?_⟩⟩
 ·rw [aL];refine⟨by rw [ac];exact au,by rw [ac];exact h.lock.push Y (λk p e=>by rw [aa] at e;cases e) aP,by rw [ac];exact a0,λa o Z=>?_,by rw [ac];exact aU,h.HI,h.Ij,h.IC,h.LZ,h.JF,h.JH,h.HK,(by rw [f0];unfold Fam.El;split <;> simp),h.wg,h.I7,h.F8,λa al hb=>?_,λk aD aq=>?_,?_,h.tape,h.os,h.output⟩
  ·by_cases e:a=0
   ·subst e;rw [Array.getElem?_push_lt (by simpa using Y)] at Z;simp at Z;subst Z;rw [f0,an,an,an,a6];exact .walk aN.symm (λq=>by rw [x2] at q;cases q) a3
   ·by_cases U:a=gs.size
    ·subst U;have:child=o:=by
      rw [show gs.size=(gs.setIfInBounds 0 g').size by simp,Array.getElem?_push_size] at Z;exact Option.some.inj Z
     subst this;rw [ah,upd_same,upd_same,upd_same];have a7:(gs.size==0)=false:=by rw [beq_eq_false_iff_ne];omega
     rw [a7];exact .walk rfl (λq=>by cases q) a5
    ·rw [ai a e U,upd_ne _ _ U,upd_ne _ _ e,upd_ne _ _ U,upd_ne _ _ e,upd_ne _ _ U,upd_ne _ _ e];have:gs[a]? =some o:=by
      rw [Array.getElem?_push] at Z;simp [U] at Z;simpa [Array.getElem?_setIfInBounds_ne (Ne.symm e)] using Z
     exact h.Ku a o this
  ·rw [ac] at al;by_cases e:a=0
   ·subst e;rw [an] at hb;cases hb
   ·by_cases U:a=gs.size
    ·subst U;rw [upd_same] at hb;cases hb
    ·rw [upd_ne _ _ U,upd_ne _ _ e] at hb;rcases h.blk a (by omega) hb with⟨ab,_⟩ | ⟨⟨k,sv,ar⟩,a8⟩
     ·exact absurd ab e
     ·exact .inr ⟨⟨k,sv,by rw [ai a e U];exact ar⟩,a8⟩
  ·by_cases e:k=K
   ·subst e;rw [show B.N0+k=gs.size by omega,ah] at aq;exact aq.elim
   ·rw [ai _ (by omega) (by omega)] at aq;rw [aC k (by omega)];exact h.Ii k (by omega) aq
  ·rw [an];exact h.le.trans λb o am=>az.ext b o am
 ·rw [ac];refine ZI ?_;simp only [sumTo];rw [ah];have a1:=sumTo_upd (upd φ gs.size (.ph (F.start K))) (.ph (F.El K)) (wt F.n) Y;rw [upd_ne _ _ (by omega),aa] at a1;have bf:=sumTo_upd_out φ (.ph (F.start K)) (wt F.n) (i:=gs.size) (j:=gs.size) (Nat.le_refl _);have bg:wt F.n (.ph (F.start K))=23:=rfl;have bh:wt F.n (.ph (.FG K))=5*F.n+85+50*(F.n - K):=rfl;have bi:wt F.n (.ph (F.El K))+30<=5*F.n+85+50*(F.n - K):=by
   unfold Fam.El;split <;> simp only [wt] <;> omega
  show(sumTo gs.size λi=>wt F.n (upd (upd φ gs.size (.ph (F.start K))) 0 (.ph (F.El K)) i))+_<_;omega
end
end Pal
namespace Pal
open Go Go.Conc
open Go.ConcN (upd upd_same upd_ne sumTo sumTo_upd sumTo_upd_out sumTo_congr le_sumTo sumTo_le fork_knows RelBy)
theorem BP.final{t:Trace}{w:World}{N:Nat}{S:Nat->St}{Sh:Nat->Prop}(h:BP t w N S Sh)(ae:0<N){s':St}{fd:Nat}
  (Z:∀b o,s'.E b=some o->w.heap[b]? =some o/\¬Sh b/\∀x a,touchAt t x=some a->CB a.loc=some b->a.write=true->Knows t 0 x)
  (aa:∀b o,s'.H b=some o->w.heap[b]? =some o/\(¬Sh b∨b=fd)/\∀x a,touchAt t x=some a->CB a.loc=some b->Knows t 0 x)
  (hd:∀b,s'.E b≠none->s'.H b=none) (ag:s'.E fd=none):BP t w N (lone s') (λb=>Sh b/\b≠fd):=by
 have l0:lone s' 0=s':=rfl;have ln:∀i,i≠0->lone s' i= .quiet:=λi hi=>by simp [lone,hi]
 have Y:∀i b,i≠0->(lone s' i).E b=none:=λi b hi=>by rw [ln i hi];rfl
 have U:∀i b,i≠0->(lone s' i).H b=none:=λi b hi=>by rw [ln i hi];rfl
 refine⟨λi hi=>?_,λa b ah hb ac x O=>?_,λi hi b hb=>?_,λb hb=>h.F4 b hb.1,h.clean,h.low,λi hi b hb x a O ab=>?_,λi hi b hb x a O ab hw=>?_⟩
 ·by_cases e:i=0
  ·subst e;rw [l0];exact⟨λb o K=>(Z b o K).1,λb o K=>(aa b o K).1,hd⟩
  ·exact⟨λb o K=>(by rw [Y i b e] at K;cases K),λb o K=>(by rw [U i b e] at K;cases K),λb hb=>U i b e⟩
 ·by_cases e:b=0
  ·subst e;rw [U a x ac] at O;exact absurd rfl O
  ·exact⟨U b x e,Y b x e⟩
 ·by_cases e:i=0
  ·subst e;rw [l0];constructor
   ·cases O:s'.H b with
    | none=>rfl
    | some o=>rcases(aa b o O).2.1 with q | q;exact absurd hb.1 q;exact absurd q hb.2
   ·cases O:s'.E b with
    | none=>rfl
    | some o=>exact absurd hb.1 (Z b o O).2.1
  ·exact⟨U i b e,Y i b e⟩
 ·by_cases e:i=0
  ·subst e;obtain⟨o,K⟩:=HR (x:=s'.H b) hb;exact(aa b o K).2.2 x a O ab
  ·rw [U i b e] at hb;exact absurd rfl hb
 ·by_cases e:i=0
  ·subst e;obtain⟨o,K⟩:=HR (x:=s'.E b) hb;exact(Z b o K).2.2 x a O ab hw
  ·rw [Y i b e] at hb;exact absurd rfl hb
section
variable {P:Program}{F:Fam}{B:Base}{gs gs':Array Goroutine}{w w':World}{sl:Option (Nat×Nat)}{t:Trace}{φ:Nat->Nx}{r:Nat->Rk}{bt:Nat->Bool}{S:Nat->St}{Sh:Nat->Prop}{j:Nat}{c:Bool}{v wt' sm v₁ wt₁ sm₁:Nat}{m m₁:M4}{q q₁:Nat}{f f₁:Nat->Value}
theorem Inv.over(h:Inv P F B gs w t φ r bt S Sh j c v wt' sm m q f)(aY:∀k v E E',Le E E'->F.msg k v E->F.msg k v E'){g:Goroutine}(hi:gs[0]? =some g)(aw:φ 0= .ph .F5){s₀:St}(aJ:B9 (S 0) s₀)(ae:Stop P F .F5 g s₀)(aZ:Mu):
  H6 P F B gs w sl t 0 aZ:=by
 classical
 have ab:0<gs.size:=(Array.getElem?_eq_some_iff.1 hi).1;have bf:=h.size;have bg:=h.Ct.pos;obtain rfl:c=true:=by
  obtain⟨p,aK,_,hh⟩:=h.main;rw [aw] at aK;cases aK;rcases hh with⟨_,hm⟩ | ⟨e,_⟩
  ·exact hm.elim
  ·exact e
 have bh:j=F.n:=h.Ct.cj rfl;have ay:∀i,i≠0->i<gs.size->∃d,φ i= .gone d:=by
  intro i az ao;rcases h.Em ao with e | ⟨_,d,hd,_⟩ | ⟨k,Z,a0,_,_⟩
  ·exact absurd e az
  ·exact⟨d,hd⟩
  ·have:=h.Ct.WV rfl (.inr (.inr (.inl (by rw [show B.N0+F.n=gs.size by omega,Ju];exact aw)))) k Z;rw [← a0,Iv az (by omega)] at this;cases U:φ i with
   | gone d=>exact⟨d,rfl⟩
   | ph p=>rw [U] at this;exact this.elim
 obtain⟨g',a1,a2⟩:=ae.law.fin rfl;have aL:=runT_crowd_go (P:=P) (sl:=sl) (i:=0) hi (show stepG P (0==0) g w=_ from a1 w);have aM:Deaf t 0=0:=by rw [h.Ey.deaf 0 ab,aw];rfl
 have aA:MemOp.ofEvents 0 g.frame.fn g.frame.place #[Fam.Cu (.acquire F.sA)]= #[{g:=0,fn:=g.frame.fn,pos:=g.frame.place,act:= .mark (.acquire F.sA)}]:=by rw [ofEvents_eq];simp [Fam.Cu,MemAct.ofEvent]
 generalize hu:MemOp.ofEvents 0 g.frame.fn g.frame.place #[Fam.Cu (.acquire F.sA)]=u at aL;have ag:∀op∈u,op.act.touch? =none/\op.g=0/\op.act.low w.heap.size:=by
  intro op ah;rw [← hu,aA] at ah;simp at ah;subst ah;exact⟨rfl,rfl,h.B3.F4 F.wg h.HI⟩
 have ap:(t++u)[t.size]? =some {g:=0,fn:=g.frame.fn,pos:=g.frame.place,act:= .mark (.acquire F.sA)}:=by rw [← hu,aA];simp
 have a3:(t++u).heard t.size:=⟨0,by simp [Trace.g?,ap],by rw [deaf_old (Nat.le_refl _)];exact aM⟩;have a4:(t++u).g? t.size=some 0:=by simp [Trace.g?,ap]
 have a5:∀x,B.t0<=x->(t++u).act? x≠some (.mark (.release F.sA)):=Of h.Ey.norel λop ah e=>by rw [← hu,aA] at ah;simp at ah;subst ah;cases e
 have aB:∀k,k<F.n->∃ρ,ρ<t.size/\RelBy F.sA t (B.N0+k) ρ/\KE t (S (B.N0+k)).E ρ/\HappensBefore (t++u) ρ t.size:=by
  intro k Z;obtain⟨d,hd⟩:=ay (B.N0+k) (by omega) (by omega);obtain⟨ρ,a,b,e⟩:=h.Ey.rel k (by omega) (by rw [hd];trivial);have aq:ρ<t.size:=lt_of_act? b.act;refine⟨ρ,aq,b,e,.single (.inr ⟨.marked aq (.inr (by rw [act?_old aq];exact b.act)) (by rw [act?_of ap]) λz Y ac=>a5 z (by omega),(heard_old aq).2 b.heard,a3⟩)⟩
 have aN:∀{x ρ},Before t x ρ->HappensBefore (t++u) ρ t.size->Knows (t++u) 0 x:=λY ac=>⟨t.size,_,ap,rfl,.inr ((Y.app u).hb ac)⟩;have aO:∀{x k},k<F.n->t.g? x=some (B.N0+k)->t.counts x->Knows (t++u) 0 x:=by
  intro x k Z aa ai;obtain⟨ρ,Y,ac,_,an⟩:=aB k Z;have hle:x<=ρ:=Nat.le_of_not_lt λak=>ac.after x ak aa ai;refine aN (ρ:=ρ) ?_ an;rcases Nat.lt_or_ge x ρ with U | U
  ·exact .inr (.single (.inl ⟨U,_,aa,ac.g⟩))
  ·exact .inl (by omega)
 have hold:∀{y a},touchAt (t++u) y=some a->touchAt t y=some a:=by
  intro y a U;obtain⟨op,O,aC⟩:=touch_of U;rcases getElem?_append_cases O with⟨ak,aD⟩ | ⟨_,aE⟩
  ·rw [touchAt_of aD];exact aC
  ·rw [(ag op aE).1] at aC;cases aC
 have aj:BP t w gs.size (upd S 0 s₀) Sh:=h.B3.ghost ab aJ;have aF:BP (t++u) w gs.size (upd S 0 s₀) Sh:=aj.mute (g:=0) (λop O=>(ag op O).2.1) (λop O=>(ag op O).1) (λop O=>(ag op O).2.2) rfl;let K:Nat->Obj->Prop:=λb o=>s₀.E b=some o∨∃k,k<F.n/\(S (B.N0+k)).E b=some o;have aG:∀b o,K b o->w.heap[b]? =some o:=by
  rintro b o (Y | ⟨k,Z,Y⟩)
  ·exact(aj.fits 0 ab).e b o (by rw [upd_same];exact Y)
  ·exact(h.B3.fits (B.N0+k) (by omega)).e b o Y
 let E':LH:=λb=>if hb:∃o,K b o then some (Classical.choose hb) else none
 have aH:∀b o,E' b=some o->K b o:=by
  intro b o O;simp only [E'] at O;split at O
  ·rename_i hb;have:=Classical.choose_spec hb;rw [Option.some.inj O] at this;exact this
  ·cases O
 have aP:∀b o,K b o->E' b=some o:=by
  intro b o O;have hb:∃o,K b o:=⟨o,O⟩;have a6:E' b=some (Classical.choose hb):=by simp only [E'];rw [dif_pos hb]
  have e2:=aG b _ (Classical.choose_spec hb);rw [aG b o O] at e2;rw [a6,← Option.some.inj e2]
 have aQ:Le s₀.E E':=λb o O=>aP b o (.inl O);have a7:∀k,k<F.n->Le (S (B.N0+k)).E E':=λk Z b o O=>aP b o (.inr ⟨k,Z,O⟩);have aR:∀b o,K b o->¬Sh b:=by
  rintro b o (Y | ⟨k,Z,Y⟩) hb
  ·have:=(aj.sh 0 ab b hb).2;rw [upd_same,Y] at this;cases this
  ·have:=(h.B3.sh (B.N0+k) (by omega) b hb).2;rw [Y] at this;cases this
 have aI:E' F.fd=none:=by
  cases U:E' F.fd with
  | none=>rfl
  | some o=>exact absurd h.IC (aR _ _ (aH _ _ U))
 have aS:∀b,E' b≠none->s₀.H b=none:=by
  intro b hb;obtain⟨o,O⟩:=HR hb;rcases aH b o O with Y | ⟨k,Z,Y⟩
  ·have:=(aj.fits 0 ab).d b (by rw [upd_same,Y];simp)
   rwa [upd_same] at this
  ·cases U:s₀.H b with
   | none=>rfl
   | some o'=>
    have:=(aj.hh 0 (B.N0+k) ab (by omega) (by omega) b (by rw [upd_same,U];simp)).2;rw [upd_ne _ _ (by omega),Y] at this;cases this
 have a8:∀k,k<F.n->F.msg k (f k) E':=λk Z=>by
  obtain⟨d,hd⟩:=ay (B.N0+k) (by omega) (by omega);exact aY _ _ _ _ (a7 k Z) (h.Ii k (by omega) (by rw [hd];trivial))
 have a9:=a2 E' f aQ aI aS a8;have aT:((gs.map (woken P g g' w)).setIfInBounds 0 g').size=gs.size:=by simp
 have ba:BP (t++u) w gs.size (lone ⟨E',F.Jp s₀.H f,false⟩) (λb=>Sh b/\b≠F.fd):=by
  refine aF.final ab (λb o O=>?_) (λb o O=>?_) (λb hb=>?_) aI
  ·have Z:=aH b o O;refine⟨aG b o Z,aR b o Z,λx a U al hw=>?_⟩;rcases Z with Y | ⟨k,Z,Y⟩
   ·exact aF.kE 0 ab b (by rw [upd_same,Y];simp) x a U al hw
   ·obtain⟨ρ,_,_,bb,an⟩:=aB k Z;exact aN (bb b (by rw [Y];simp) x a (hold U) al hw) an
  ·simp only [Fam.Jp] at O;split at O
   ·rename_i e;subst e;cases O;refine⟨h.F8,.inr rfl,λx a U al=>?_⟩;rcases h.Ey.F8 x a (hold U) al with z | ⟨k,Z,aa,ai,_⟩
    ·exact(z 0 ab (.inl rfl)).app u
    ·exact aO (by omega) aa ai
   ·refine⟨(aj.fits 0 ab).h b o (by rw [upd_same];exact O),.inl λhb=>?_,λx a U al=>aF.kH 0 ab b (by rw [upd_same,O];simp) x a U al⟩;have:=(aj.sh 0 ab b hb).1;rw [upd_same,O] at this;cases this
  ·simp only [Fam.Jp];rw [if_neg (λe=>by subst e;exact hb aI)];exact aS b hb
 have be:∀i g,i≠0->gs[i]? =some g->∃q d,φ i= .gone d/\QuitsD P q d g:=by
  intro i g hi aa;obtain⟨d,hd⟩:=ay i hi (Array.getElem?_eq_some_iff.1 aa).1;have ae:=h.Ku i g aa;rw [hd] at ae;generalize U:Nx.gone d=x at ae;generalize loc x (S i)=s at ae;generalize r i=ρ at ae;generalize bt i=bi at ae;cases ae with
  | gone _ ar=>cases U;exact⟨_,_,hd,ar⟩
  | _=>cases U
 have ar:∀i,∃q,∀g,i≠0->gs[i]? =some g->QuitsD P q (Deaf t i) g:=by
  intro i;by_cases hi:i≠0/\i<gs.size
  ·obtain⟨q,d,Y,ac⟩:=be i _ hi.1 (Array.getElem?_eq_getElem hi.2);refine⟨q,λg _ aa=>?_⟩;rw [Array.getElem?_eq_getElem hi.2] at aa;obtain rfl:=Option.some.inj aa;rw [h.Ey.deaf i hi.2,Y];exact ac
  ·exact⟨0,λg Y ac=>absurd ⟨Y,(Array.getElem?_eq_some_iff.1 ac).1⟩ hi⟩
 have aU:∀i,i≠0->Deaf (t++u) i=Deaf t i:=λi hi=>Deaf_other t (Ne.symm hi) u λop O=>(ag op O).2.1;refine⟨_,_,_,_,aL,.inr ⟨λi=>Classical.choose (ar i),λb=>Sh b/\b≠F.fd,g',⟨E',F.Jp s₀.H f,false⟩,⟨by simp [ab],⟨λi x az U=>?_,λi ao=>?_⟩,by rw [aT];exact ba,λx au aa am ai=>?_,?_⟩,a9,?_,h.tape,h.os,h.output⟩⟩
 ·have am:i≠0:=by omega
  rw [Array.getElem?_setIfInBounds_ne (Ne.symm am),Array.getElem?_map] at U;obtain⟨o',aD,rfl⟩:=Option.map_eq_some_iff.1 U;have aV:=Classical.choose_spec (ar i) o' am aD;rw [woken_quitsD aV,aU i am];exact aV
 ·rw [aT] at ao;rw [aU i (by omega)];exact h.Ey.above i ao
 ·have:=On h.Ey.over (u:=u) (N0:=B.N0) (N:=gs.size) (λop O=> .inl (ag op O).2.1) x au aa am ai;rcases this with z | ⟨z1,bj⟩
  ·exact z
  ·have av:x<t.size:=by
    rcases Nat.lt_or_ge x t.size with z | z
    ·exact z
    ·obtain⟨op,O,aW⟩:=Option.map_eq_some_iff.1 aa;rcases getElem?_append_cases O with⟨ak,_⟩ | ⟨_,aE⟩
     ·exact ak
     ·rw [(ag op aE).2.1] at aW;exact absurd aW.symm am
   obtain⟨bl,z,bm,bn,bo⟩:=aO (k:=au - B.N0) (by omega) (by rw [← g?_old (u:=u) av,aa];congr 1;omega) ((counts_old av).1 ai);refine⟨t.size,a4,?_⟩;obtain⟨ρ,Y,ac,_,an⟩:=aB (au - B.N0) (by omega);have aX:t.g? x=some (B.N0+(au - B.N0)):=by rw [← g?_old (u:=u) av,aa];congr 1;omega
   have hle:x<=ρ:=Nat.le_of_not_lt λak=>ac.after x ak aX ((counts_old av).1 ai);have hb:Before t x ρ:=by
    rcases Nat.lt_or_ge x ρ with U | U
    ·exact .inr (.single (.inl ⟨U,_,aX,ac.g⟩))
    ·exact .inl (by omega)
   exact(hb.app u).hb an
 ·have:=Deaf_own t 0 g.frame.fn g.frame.place #[Fam.Cu (.acquire F.sA)];rw [hu] at this;rw [this,aM];rfl
 ·exact(h.le.trans λb o O=>aJ.ext b o O).trans aQ
end
end Pal
namespace Pal
open Go Go.Conc
open Go.ConcN (upd upd_same upd_ne sumTo sumTo_upd sumTo_upd_out sumTo_congr le_sumTo sumTo_le fork_knows RelBy)
theorem LN.busy{m:M4}{h rn rs v t s d x:Nat}(Z:LN m 0 h rn rs v t s d x)(ae:1<=s):1<=h+rn+rs+v+t+d+x:=by
 obtain⟨O,aa,ab⟩:=Z;cases hm:m.s with
 | true=>have:=(ab hm).2.2.2.1;rw [← O] at this;omega
 | false=>
  obtain⟨a1,ag,K,ah,ac⟩:=aa hm;cases Y:m.l with
  | true=>rw [Y] at O;simp at O;omega
  | false=>
   cases U:m.k with
   | true=>rw [U] at K;simp at K;omega
   | false=>
    rw [U] at K;simp at K;have:=ac Y U (by omega);omega
section
variable {P:Program}{F:Fam}{B:Base}{gs gs':Array Goroutine}{w w':World}{sl:Option (Nat×Nat)}{t:Trace}{φ:Nat->Nx}{r:Nat->Rk}{bt:Nat->Bool}{S:Nat->St}{Sh:Nat->Prop}{j:Nat}{c:Bool}{v wt' sm v₁ wt₁ sm₁:Nat}{m m₁:M4}{q q₁:Nat}{f f₁:Nat->Value}
theorem UM{N:Nat}{f:Nat->Nat}(h:1<=sumTo N f):∃i,i<N/\1<=f i:=by
 induction N with
 | zero=>simp [sumTo] at h
 | succ N K=>
  simp only [sumTo] at h;by_cases e:1<=f N
  ·exact⟨N,by omega,e⟩
  ·obtain⟨i,hi,O⟩:=K (by omega);exact⟨i,by omega,O⟩
theorem Inv.runs(h:Inv P F B gs w t φ r bt S Sh j c v wt' sm m q f):∃(i:Nat) (g:Goroutine),gs[i]? =some g/\g.status= .running:=by
 have aH:=h.Ct.pos;have aI:=h.size;have ah:0<gs.size:=by omega
 have ab:∀i (hi:i<gs.size) p,φ i= .ph p->bt i=true->∃(i:Nat) (g:Goroutine),gs[i]? =some g/\g.status= .running:=by
  intro i hi p U hb;refine⟨i,_,Array.getElem?_eq_getElem hi,?_⟩;have K:=h.Ku i _ (Array.getElem?_eq_getElem hi);rw [U,hb] at K;generalize loc (Nx.ph p) (S i)=s at K;generalize au:Nx.ph p=x at K;generalize av:true=b at K;generalize gs[i]=o at K ⊢;generalize r i=ρ at K;cases K with
  | walk _ _ ai=>exact ai.running
  | blk _ _ _=>cases av
  | gone _ _=>cases au
 obtain⟨p0,aa,aw,hh⟩:=h.main;cases aj:bt 0 with
 | true=>exact ab 0 ah p0 aa aj
 | false=>
  obtain⟨U,aJ⟩:φ 0= .ph .Fo/\sm=0:=by
   rcases h.blk 0 ah aj with⟨_,a,b⟩ | ⟨⟨k,sv,a⟩,_⟩
   ·exact⟨a,b⟩
   ·rw [aa] at a;cases a;cases aw
  rw [U] at aa;cases aa;obtain⟨rfl⟩:c=true:=by
   rcases hh with⟨_,hm⟩ | ⟨e,_⟩
   ·exact hm.elim
   ·exact e
  have ai:j=F.n:=h.Ct.cj rfl;have ak:=h.Ct.mode;rw [if_pos rfl,show B.N0+F.n=gs.size by omega,Ju,U] at ak;obtain⟨ay,_,_⟩:=ak;have ac:=h.Ct.cnt;have al:Cm true gs.size φ 0= .ph (.Fy [] []):=by simp [Cm];omega
  rw [al] at ac;simp only [pend,Nat.add_zero] at ac;have hex:∃i,i<gs.size+1/\1<=cU (Cm true gs.size φ i)+cL (Cm true gs.size φ i)+cS (Cm true gs.size φ i):=by
   apply Classical.byContradiction;intro az;have ae:∀i,i<gs.size+1->cU (Cm true gs.size φ i)=0/\cL (Cm true gs.size φ i)=0/\cS (Cm true gs.size φ i)=0:=λi hi=>by
    have:¬1<=cU (Cm true gs.size φ i)+cL (Cm true gs.size φ i)+cS (Cm true gs.size φ i):=λq=>az ⟨i,hi,q⟩;omega
   have zero:∀f:Nat->Nat,(∀i,i<gs.size+1->f i=0)->sumTo (gs.size+1) f=0:=λf aA=>by
    have:=sumTo_le (f:=f) (c:=0) (j:=gs.size+1) (λi hi=>by rw [aA i hi];exact Nat.le_refl _);omega
   have z1:=zero (λi=>cU (Cm true gs.size φ i)) λi hi=>(ae i hi).1;have aK:=zero (λi=>cL (Cm true gs.size φ i)) λi hi=>(ae i hi).2.1;have aL:=zero (λi=>cS (Cm true gs.size φ i)) λi hi=>(ae i hi).2.2;simp only [Bool.toNat_true] at ay ac;omega
  obtain⟨i,hi,O⟩:=hex;have am:i≠0:=by rintro rfl;rw [al] at O;simp [cU,cL,cS] at O
  have aB:i≠gs.size:=by rintro rfl;rw [Ju,U] at O;simp [cU,cL,cS] at O
  rw [Iv am aB] at O;have ag:i<gs.size:=by omega
  cases an:φ i with
  | gone d=>rw [an] at O;simp [cU,cL,cS] at O
  | ph pi=>
   cases ao:bt i with
   | true=>exact ab i ag pi an ao
   | false=>
    obtain⟨⟨k,sv,aC⟩,aD⟩:(∃k sv,φ i= .ph (.lk k (.Cl sv)))/\q=0:=by
     rcases h.blk i ag ao with⟨e,_⟩ | e
     ·exact absurd e am
     ·exact e
    subst aD;have aE:1<=Sg pQ gs.size φ:=by
     have:=le_sumTo (f:=λa=>CV pQ (φ a)) ag;have e:CV pQ (φ i)=1:=by rw [aC];rfl
     simp only [e] at this;exact this
    have hb:=h.lock.ln.busy aE;have aF:1<=Sg (λp=>(((((pH p+pN p)+pZ p)+pV p)+pT p)+pD p)+pX p) gs.size φ:=by
     rw [Jo,Jo,Jo,Jo,Jo,Jo];exact hb
    obtain⟨a,ap,Y⟩:=UM aF;cases Z:φ a with
    | gone d=>rw [Z] at Y;simp [CV] at Y
    | ph aG=>
     rw [Z] at Y;cases aG <;> (try (simp [CV] at Y;done))
     rename_i k' l;cases aq:bt a with
     | true=>exact ab a ap _ Z aq
     | false=>
      rcases h.blk a ap aq with⟨e,ar,_⟩ | ⟨⟨aM,aN,e⟩,_⟩
      ·subst e;rw [Z] at ar;cases ar
      ·rw [Z] at e;cases e;simp [CV,pH,pN,pZ,pV,pT,pD,pX] at Y
theorem Inv.step(h:Inv P F B gs w t φ r bt S Sh j c v wt' sm m q f)(ae:∀k v E E',Le E E'->F.msg k v E->F.msg k v E'):
  ∃gs' w' ai u,stepT P (crowd gs w sl)=(.next (crowd gs' w' ai),u)/\
  ((∃φ' r' ar S' aC ag aD v' aE sm' m' q' aF,Inv P F B gs' w' (t++u) φ' r' ar S' aC ag aD v' aE sm' m' q' aF/\Mu.lt (mu F gs'.size φ' m' q' r' ar) (mu F gs.size φ m q r bt))∨PH P F B gs' w' (t++u)):=by
 have aU:=h.size;have aG:∀x∈gs,awake x:=by
  intro x K;obtain⟨i,hi,rfl⟩:=Array.mem_iff_getElem.1 K;exact(h.Ku i _ (Array.getElem?_eq_getElem hi)).awake
 obtain⟨i,g,d,ai,hi,au,aH⟩:=crowd_pick (P:=P) (w:=w) (sl:=sl) aG h.runs
 suffices H6 P F B gs (w.at d) ai t i (mu F gs.size φ m q r bt) by
  obtain⟨gs',w',aI,u,aj,ak⟩:=this;exact⟨gs',w',aI,u,aH.trans aj,ak⟩
 have O:=h.at_ d;have av:i<gs.size:=(Array.getElem?_eq_some_iff.1 hi).1;have aa:=h.Ku i g hi;generalize K:φ i=x at aa;generalize aw:r i=ρ at aa;generalize hb:bt i=b at aa;generalize ay:loc x (S i)=s at aa;cases aa with
 | blk _ _ _=>cases au
 | gone hm az=>exact O.slip hi au K aw hm az
 | @walk p _ _ _ hm az al=>
  have aJ:JQ (Stop P F p) g s∨∃f,ρ= .node f/\(∀w,Fits s w->∃g' s' w' es,stepG P (i==0) g w= .go g' w' es/\Jr P (i==0) (JQ (Stop P F p)) (f w) g' s'/\Fits s' w'/\Fr s w s' w'/\(∀e∈es,Ev s w w' e)/\(s= .quiet->s'= .quiet/\w'=w/\es= #[])):=by
   cases ρ with
   | leaf=>exact .inl al
   | node f=>
    rcases al with q | ⟨_,q⟩
    ·exact .inl q
    ·exact .inr ⟨f,rfl,q⟩
  rcases aJ with⟨s₀,aA,U⟩ | ⟨f0,rfl,hgo⟩
  ·subst ay;have Y:Fam.Cz p=false->B9 (S i) s₀:=λe=>by simpa [loc,Ht,e] using aA
   by_cases c1:∃k l,p= .lk k l
   ·obtain⟨k,l,rfl⟩:=c1;by_cases c2:l= .EP
    ·subst c2;exact O.store hi K hm (Y rfl) U
    by_cases c3:(∃sv,l= .Cl sv)/\q=0
    ·obtain⟨⟨sv,rfl⟩,c3⟩:=c3;exact O.block hi K hb hm (Y rfl) U (.inr ⟨⟨k,sv,rfl⟩,c3⟩)
    exact O.BQ ae hi K c2 hm (Y rfl) U λsv e am=>c3 ⟨⟨sv,e⟩,am⟩
   by_cases c2:∃ag,p= .FG ag
   ·obtain⟨ag,rfl⟩:=c2;have ab:i=0:=by simpa [Fam.Cr] using hm
    subst ab;exact O.spawn hi K (Y rfl) U
   by_cases c3:p= .F5
   ·subst c3;have ab:i=0:=by simpa [Fam.Cr] using hm
    subst ab;exact O.over ae hi K (Y rfl) U _
   by_cases c4:p= .Fo/\sm=0
   ·obtain⟨rfl,c4⟩:=c4;exact O.block hi K hb hm (Y rfl) U (.inl ⟨rfl,c4⟩)
   have aK:∃an,an<gs.size+c.toNat/\Cm c gs.size φ an= .ph p:=by
    by_cases e:i=0
    ·subst e;cases c with
     | false=>exact⟨0,by omega,by rw [I3];exact K⟩
     | true=>exact⟨gs.size,by simp,by rw [Ju];exact K⟩
    ·exact⟨i,by omega,by rw [Iv e (by omega)];exact K⟩
   have aL:p= .Fo->sm=1:=by
    rintro rfl;have ab:i=0:=by simpa [Fam.Cr] using hm
    subst ab;obtain⟨p0,ac,_,hh⟩:=h.main;rw [K] at ac;cases ac;obtain rfl:c=true:=by
     rcases hh with⟨_,hm⟩ | ⟨e,_⟩
     ·exact hm.elim
     ·exact e
    have al:=h.Ct.cj rfl;have aB:=h.Ct.mode;rw [if_pos rfl,show B.N0+F.n=gs.size by omega,Ju,K] at aB;obtain⟨aV,_⟩:=aB;have:sm≠0:=λq=>c4 ⟨rfl,q⟩;omega
   obtain⟨an,aM,aN⟩:=aK;have ah:(∀k,p≠ .G4 k)/\p≠ .GD/\(∀ao vs,p≠ .Fy ao vs)/\p≠ .Hw:=by
    by_cases e:i=0
    ·subst e;have ap:=h.mn;rw [K] at ap;obtain⟨p0,ac,_,hh⟩:=h.main;rw [K] at ac;cases ac;refine⟨λk e=>?_,λe=>?_,λao vs e=>?_,λe=>?_⟩
     ·subst e;rcases hh with⟨_,Z⟩ | ⟨_,Z⟩ <;> exact Z.elim
     ·subst e;exact ap.1 rfl
     ·subst e;rcases hh with⟨e,Z⟩ | ⟨_,Z⟩
      ·have:=Z.2;rw [e] at this;cases this
      ·exact Z.elim
     ·subst e;exact ap.2 rfl
    ·rcases h.Em av with am | ⟨_,d,hd,_⟩ | ⟨k',aW,aX,_,hw⟩
     ·exact absurd am e
     ·rw [K] at hd;cases hd
     ·rw [K] at hw;refine⟨λk e=>?_,λe=>?_,λao vs e=>?_,λe=>?_⟩ <;> subst e
      ·exact absurd hw.2 Bool.false_ne_true
      all_goals exact hw.elim
   obtain⟨v',w',sm',es,aY,aO⟩:=h.Ct.enabled aM aN ah.1 (λk e=>c2 ⟨k,e⟩) ah.2.1 ah.2.2.1 ah.2.2.2 aL c3 λk l e=>c1 ⟨k,l,e⟩;exact O.act ae hi K hm aA U aO
  ·subst ay;have aP:Fits (loc (.ph p) (S i)) (w.at d):=by
    have:=O.B3.fits i av;unfold loc;split
    ·exact⟨λb o aq=>(by cases aq),λb o aq=>(by cases aq),λb hb=>rfl⟩
    ·exact this
   obtain⟨g',s',w',es,aj,ak,aQ,aR,aS,aT⟩:=hgo (w.at d) aP;exact O.own ae hi K hm aj ak aQ aR aS aT (by rw [aw];exact⟨f0,_,rfl,rfl⟩)
theorem Inv.run(Z:∀k v E E',Le E E'->F.msg k v E->F.msg k v E'):∀(K:Mu) (gs:Array Goroutine) (w:World) (sl:Option (Nat×Nat)) (t:Trace) (φ:Nat->Nx) (r:Nat->Rk) (bt:Nat->Bool) (S:Nat->St) (Sh:Nat->Prop) (j:Nat) (c:Bool) (v wt' sm:Nat) (m:M4) (q:Nat) (f:Nat->Value),
  mu F gs.size φ m q r bt=K->Inv P F B gs w t φ r bt S Sh j c v wt' sm m q f->∃n gs' w' O U,runNT P n (crowd gs w sl) t=(.next (crowd gs' w' O),U)/\PH P F B gs' w' U:=by
 intro K
 induction K using Mu.wf.induction with
 | _ K aa=>
  intro gs w sl t φ r bt S Sh j c v wt' sm m q f ab h;obtain⟨gs',w',O,u,Y,hh⟩:=h.step (sl:=sl) Z;rcases hh with⟨φ',r',ac,S',ae,ag,ah,v',ai,sm',m',q',aj,ak,al⟩ | am
  ·obtain⟨n,an,ao,ap,aq,ar,au⟩:=aa _ (ab▸al) gs' w' O (t++u) φ' r' ac S' ae ag ah v' ai sm' m' q' aj rfl ak;exact⟨n+1,an,ao,ap,aq,Ms Y ar,au⟩
  ·exact⟨1,gs',w',O,t++u,Ms Y rfl,am⟩
end
def Jk(H:LH)(a b c:Nat):LH:=λx=>if x=c then none else if x=b then none else if x=a then none else H x
theorem Wv{P:Program}(F:Fam){Q:GP}{g:Goroutine}{s:St}{f₀:Nat->Value}(aj:1<=F.n)(ar:F.n<134217728)(au:∀k v E E',Le E E'->F.msg k v E->F.msg k v E')
  (ak:F.mu≠F.wg) (al:F.fd≠F.wg) (am:F.fd≠F.mu) (aa:s.H F.wg=some (F.HH 0 0)) (ab:s.H F.mu=some (F.HJ 0 0)) (ae:s.H F.fd=some (F.Ih f₀))
  (av:Way P true (Stop P F (.F3 0)) g ⟨s.E,Jk s.H F.wg F.mu F.fd,false⟩) (aw:∀g s,F.fin g s->(Gx P).ok Q g s):(Gx P).ok Q g s:=by
 intro gs w sl t q Sh hC;have Y:0<gs.size:=(Array.getElem?_eq_some_iff.1 hC.main).1;let s1:St:={s with H:=λb=>if b=F.wg then none else s.H b}
 let s2:St:={s with H:=λb=>if b=F.mu then none else s1.H b}
 have an:lone s 0=s:=rfl;have c1:BP t w gs.size (upd (lone s) 0 s1) (λb=>Sh b∨b=F.wg):=by
  have:=hC.B3.share (i:=0) Y (b₀:=F.wg) (o₀:=F.HH 0 0) (by rw [an];exact aa);exact this
 have c2:BP t w gs.size (upd (upd (lone s) 0 s1) 0 s2) (λb=>(Sh b∨b=F.wg)∨b=F.mu):=by
  have:=c1.share (i:=0) Y (b₀:=F.mu) (o₀:=F.HJ 0 0) (by rw [upd_same];simp [s1,ak,ab]);refine this.congr λi hi=>?_;by_cases e:i=0
  ·subst e;simp only [upd_same];exact⟨rfl,rfl⟩
  ·have h:∀(f:Nat->St) (x:St),upd f 0 x i=f i:=λf x=>upd_ne f x e;constructor <;> simp only [h]
 have c3:BP t w gs.size (upd (upd (upd (lone s) 0 s1) 0 s2) 0 ⟨s.E,Jk s.H F.wg F.mu F.fd,false⟩) (λb=>((Sh b∨b=F.wg)∨b=F.mu)∨b=F.fd):=by
  have:=c2.share (i:=0) Y (b₀:=F.fd) (o₀:=F.Ih f₀) (by rw [upd_same];simp [s2,s1,al,am,ae]);refine this.congr λi hi=>?_;by_cases e:i=0
  ·subst e;simp only [upd_same];exact⟨rfl,rfl⟩
  ·have h:∀(f:Nat->St) (x:St),upd f 0 x i=f i:=λf x=>upd_ne f x e;constructor <;> simp only [h]
 have Z:∀b,s.H b≠none->∀x a,touchAt t x=some a->CB a.loc=some b->Knows t 0 x:=λb hb=>hC.B3.kH 0 Y b (by rw [an];exact hb);have ag:=hC.B3.fits 0 Y;obtain⟨ρ,ay⟩:=av;let φ:Nat->Nx:=λi=>if i=0 then .ph (.F3 0) else .gone (Deaf t i)
 have z:∀f:Nx->Nat,(∀d,f (.gone d)=0)->f (.ph (.F3 0))=0->(sumTo gs.size λi=>f (φ i))=0:=by
  intro f ao ap;have:=sumTo_le (f:=λi=>f (φ i)) (c:=0) (j:=gs.size) λi _=>by
   show f (φ i)<=0;by_cases e:i=0
   ·simp [φ,e,ap]
   ·simp [φ,e,ao]
  omega
 have O:∀f:LP->Nat,Sg f gs.size φ=0:=λf=>z (CV f) (λ_=>rfl) rfl;have az:∀i,(upd (upd (upd (lone s) 0 s1) 0 s2) 0 ⟨s.E,Jk s.H F.wg F.mu F.fd,false⟩) i=if i=0 then⟨s.E,Jk s.H F.wg F.mu F.fd,false⟩ else .quiet:=by
  intro i;by_cases e:i=0
  ·subst e;rw [upd_same];rfl
  ·rw [upd_ne _ _ e,upd_ne _ _ e,upd_ne _ _ e];simp [lone,e]
 have aA:F.HH (Fam.word 0 0) (0:Nat)=F.HH 0 0:=by simp [Fam.word]
 have aB:F.HJ M4.zero.num (0:Nat)=F.HJ 0 0:=by simp [M4.num,M4.zero]
 have aq:∀i,i<gs.size->(i=0∨gs.size<=i)->i=0:=λi hi ac=>by omega
 have aC:Inv P F ⟨gs.size,t.size,s.E,w⟩ gs w t φ (λi=>if i=0 then ρ else chain (q i)) (λ_=>true) (upd (upd (upd (lone s) 0 s1) 0 s2) 0 ⟨s.E,Jk s.H F.wg F.mu F.fd,false⟩) (λb=>((Sh b∨b=F.wg)∨b=F.mu)∨b=F.fd) 0 false 0 0 0 M4.zero 0 f₀:=by
  refine⟨?_,⟨?_,λi hi=>?_⟩,⟨λi hi=>?_,λi hi=>hC.lv.above i hi,λx a b K hb ah U i hi ac=>?_,λx a b K hb ah U=>?_,λx a K hb=> .inl λi hi ac=>?_,λx g aD aE aF=> .inl (hC.over x g aD aE aF),λx K e=>?_,Nat.le_refl _,λk U=>by omega⟩,λi g' ai=>?_,c3,.inl (.inl (.inr rfl)),.inl (.inr rfl),.inr rfl,ak,al,am,ar,by simp [φ],?_,?_,ag.h _ _ ae,λi hi hb=>(by cases hb),λk U=>(by omega),?_,rfl,.refl _,rfl⟩
  ·rw [I3];refine⟨Y,aj,by omega,by simp,Nat.zero_le _,by simp,⟨.F3 0,rfl,rfl,aj,rfl⟩,λi ao ap=>?_,λk U=>by omega,by simp,?_,by simp [φ,pend],?_,λk U=>by omega,.nil,λk U=>by cases U⟩
   ·have:i≠0:=by omega
    simp [φ,this,MX]
   ·have:=z cU (λ_=>rfl) rfl;simp only [Bool.toNat_false,Nat.add_zero];rw [this];simp [φ,pend]
   ·simp only [Bool.false_eq_true,if_false,Df];exact⟨z cL (λ_=>rfl) rfl,z cS (λ_=>rfl) rfl,trivial,trivial,trivial⟩
  ·rw [O,O,O,O,O,O,O,O];simp [LN,M4.zero]
  ·by_cases e:i=0
   ·simp [φ,e,Nw]
   ·simp [φ,e,Nw]
  ·by_cases e:i=0
   ·subst e;simp [φ,FC];exact hC.hears
   ·simp [φ,e,FC]
  ·obtain rfl:=aq i hi ac;rcases ah with rfl | rfl
   ·exact Z _ (by rw [aa];simp) x a K hb
   ·exact Z _ (by rw [ab];simp) x a K hb
  ·rcases ah with rfl | rfl
   ·exact Z _ (by rw [aa];simp) x a K hb
   ·exact Z _ (by rw [ab];simp) x a K hb
  ·obtain rfl:=aq i hi ac;exact Z _ (by rw [ae];simp) x a K hb
  ·have:=lt_of_act? e;have a0:t.size<=x:=K;omega
  ·rw [az];by_cases e:i=0
   ·subst e;rw [hC.main] at ai;obtain rfl:=Option.some.inj ai;simp only [if_true,φ];exact .walk rfl (λh=>by cases h) ay
   ·have hm:(i==0)=false:=by rw [beq_eq_false_iff_ne];exact e
    simp only [e,if_false,φ];exact .gone hm (hC.lv.old i g' (by omega) ai)
  ·show w.heap[F.wg]? =_;rw [aA];exact ag.h _ _ aa
  ·show w.heap[F.mu]? =_;rw [aB];exact ag.h _ _ ab
  ·rw [upd_same];exact Le.refl _
 obtain⟨n,gs',w',aG,aH,aI,q',aJ,g',s',aK,aL,hle,aM,aN,aO⟩:=Inv.run au _ _ _ sl _ _ _ _ _ _ _ _ _ _ _ _ _ _ rfl aC;obtain⟨n2,aP,w2,aQ,t2,aR,aS,g2,aT,k1,aU,aV,aW,aX,aY,aZ⟩:=aw g' s' aL gs' w' aG aH q' aJ aK;refine⟨n+n2,aP,w2,aQ,t2,aR,aS,g2,aT,?_,aU,aV,λb o h=>aW b o (hle b o h),aX.trans aM,aN.trans aY,aZ.trans aO⟩;rw [runNT_add,aI];exact k1
end Pal
namespace Pal
open Go Go.Conc
section
variable {P:Program}{F:Fam}{J:Judge P}{Q:GP}{n:Nat}{L L':Env}{ds:Ld_}{k:Li_}{cs:Lf_}{s s':St}{b:Frame}{main:Bool}
theorem BE(hb:b.roundOf=none)(T:Av_)(todo:Li_):fr b T ds todo=b.at ⟨T,ds⟩ todo:=by simp [fr,Frame.at,hb]
theorem KG(hb:b.roundOf=none)(T:Av_)(todo:Li_):Ed b T ds todo={b.at ⟨T,ds⟩ todo with mode:= .returning}:=by simp [Ed,Frame.at,hb]
theorem Eo(T:Av_)(ds:Ld_)(x:Operand):(⟨T,ds⟩:Act).eval x=Bs T x:=by cases x <;> rfl
theorem DD(T:Av_)(ds:Ld_)(d:Option Tmp)(v:Value):(⟨T,ds⟩:Act).put d v=⟨Cx T d v,ds⟩:=by cases d <;> rfl
def JO(J:Judge P)(Q:GP)(b:Frame)(n:Nat)(L:Env)(ds:Ld_)(cs:Lf_)(s:St):Prop:=
 ∀T,Has n L T->∀todo,J.ok Q (G (Ed b T ds todo) cs) s
theorem JL.out(K:b.roundOf=none)(h:JO J Q b n L ds cs s):JL J Q b n L ds [] cs s:=λT O=>
 Judge.CY rfl (λw=>by simp [G,stepG,stepG.exec,fr,Ed,K]) (h T O [])
theorem IM(K:b.roundOf=none)(h:JO J Q b n L ds cs s):JL J Q b n L ds (.code .ret::k) cs s:=λT O=>
 Judge.CY rfl (λw=>by simp [G,stepG,stepG.exec,fr,Ed,K]) (h T O (.code .ret::k))
theorem JO.leave{c:Frame}{v:Value}(O:b.kind= .normal)(K:Bx P b.fn L n s v)(h:J.ok Q (G (c.finish v) cs) s):JO J Q b n L [] (c::cs) s:=λT U todo=>by
 obtain⟨fn,Y,K⟩:=K
 exact Judge.leave O Y (K T U) h
theorem JO.leaveD{c:Frame}{fn:Func}(O:b.kind= .deferred)(U:P.funcs[b.fn]? =some fn)(K:fn.results= #[])(Y:c.mode= .returning∨c.mode= .panicking [goexitEntry])(h:J.ok Q (G c cs) s):JO J Q b n L [] (c::cs) s:=λT aa todo=>by
 refine Judge.CY rfl (λw=>?_) h
 have Z:=results_none K T P w
 have e2:=λ(x:Array Event)=>events_results_none (P:=P) (w:=w) K T x
 rcases Y with e | e <;> simp [G,stepG,unwind,Ed,U,Z,e2,doReturn,O,GStep.after,seen_none,e,goexitEntry]
theorem JO.enter{f:FuncId}{fn:Func}{c:Code}{vs:Lv_}(O:b.roundOf=none)(Y:P.funcs[f]? =some fn)(Z:(fn.name== "runtime.NumGoroutine")=false)(hb:fn.body=some c)(ae:vs.length<=fn.ntmps)
  (h:∀T,Has n L T->∀todo,JL J Q (baseD f) fn.ntmps (F2 0 vs) [] [.code c] (Ed b T ds todo::cs) s):JO J Q b n L (dcall f vs.toArray::ds) cs s:=λT aa todo=>by
 refine Judge.CY rfl (λw=>?_) (h T aa todo (vs.toArray++Array.replicate (fn.ntmps - vs.length) undef) ⟨by simp;omega,λt v ab=>?_⟩)
 ·rw [KG O,stepG_unwind_enter (a:=⟨T,dcall f vs.toArray::ds⟩) rfl Y Z hb,KG O]
  rw [BE (b:=baseD f) rfl];simp
 ·obtain⟨_,K⟩:=Jf ab;have ac:t<vs.length:=by
   rcases Nat.lt_or_ge t vs.length with U | U
   ·exact U
   ·simp at K;have:=(List.getElem?_eq_some_iff.1 K).1;omega
  rw [Array.getD_eq_getD_getElem?,Array.getElem?_append_left (by simpa using ac)];simp at K;simp [K]
theorem JL.defer{ops:Ao_}{i:Nat}{rest:List Nat}{d:Option Tmp}{f:FuncId}{args:Array Operand}{ats:Array TypeId}{ty:TypeId}{p:String}{af:Ae_}{g:On_}{vs:Lv_}
  (U:ops[i]? =some ⟨d,.defer ⟨.value (.func f),args,ats⟩,ty,p,af,g⟩) (Y:b.roundOf=none) (hw:AM L ops ⟨d,.defer ⟨.value (.func f),args,ats⟩,ty,p,af,g⟩=some true) (K:((b.kind != .early)&&Bg n d)=true)
  (Z:evs L args.toList=some vs) (h:JL J Q b n (Au L d undef) (dcall f vs.toArray::ds) (.inRegion ops rest::k) cs s):
  JL J Q b n L ds (.inRegion ops (i::rest)::k) cs s:=λT O=>by
 simp only [Bool.and_eq_true] at K
 have aa:args.map (Bs T)=vs.toArray:=by
  rw [← Gf O.FU Z];apply Array.ext';simp
 refine Judge.oper U (BX O hw) (by simpa using K.1) (.inl Y) ?_;have hd:execOp (Bs T) ⟨d,.defer ⟨.value (.func f),args,ats⟩,ty,p,af,g⟩= .pure (.defer (dcall f vs.toArray)):=by
  simp only [execOp,resolve,bind,Sem.bind,Deferred.ofValue,Bs,pure,dcall];rw [aa];simp
 rw [hd];exact h _ (O.put K.2 undef)
def KP:Ph->Bool
 | .G4 _ | .FG _ | .GD | .Fy _ _ | .Hw | .Fo | .F5 | .lk _ _=>false
 | _=>true
theorem Ir{p:Ph}{g:Goroutine}(K:KP p=true)(Y:g.status= .running)(Z:g.offers=none)(O:if Fam.Cz p=true then s= .quiet else s.q=false)(aa:p= .EZ->mayWake P g=true)
  (h:∀v wt sm v' wt' sm' es U,F.act p v wt sm=some ((v',wt',sm'),es,U)->∃g',(∀w,F.WG w v wt sm->stepG P (Fam.Cr p) g w= .go g' (F.put w v' wt' sm') es)/\g'.status= .running/\LX P (Stop P F) (Fam.Cr p) U g' (Fam.I6 p s)):Stop P F p g s:=
 GL.stop {
  run:=Y
  offers:=Z
  quiet:=λe=>by rw [if_pos e] at O;exact O
  live:=λe=>by rw [if_neg (by rw [e];simp)] at O;exact O
  act:=h
  Iy:=λe=>by rcases e with e | ⟨k,b,e⟩;exact aa e;subst e;cases K
  ER:=λe=>by subst e;cases K
  go:=λj e=>by subst e;cases K
  lk:=λk l e=>by subst e;cases K
  Cl:=λk sv e=>by subst e;cases K
  store:=λk e=>by subst e;cases K
  fin:=λe=>by subst e;cases K}
theorem KH{w:World}{v wt sm:Nat}(h:F.WG w v wt sm):F.put w v wt sm=w:=by
 unfold Fam.put;have:w.heap.setIfInBounds F.wg (F.HH (Fam.word v wt) sm)=w.heap:=by
  apply Array.ext_getElem?;intro i;by_cases e:F.wg=i
  ·subst e;unfold Fam.WG at h;have O:F.wg<w.heap.size:=by
    rcases Nat.lt_or_ge F.wg w.heap.size with K | K
    ·exact K
    ·simp [Array.getElem?_eq_none K] at h
   rw [Array.getElem?_setIfInBounds_self_of_lt O,h]
  ·rw [Array.getElem?_setIfInBounds_ne e]
 rw [this]
theorem Is{w:World}{v wt sm:Nat}(h:F.WG w v wt sm):w.cell? F.sA=some (.int .u64 (Fam.word v wt))/\w.cell? F.mA=some (.int .u32 sm)/\w.frozen? F.sA=false/\w.frozen? F.mA=false:=by
 unfold Fam.WG Fam.HH at h;refine⟨?_,?_,?_,?_⟩
 ·simp [World.cell?,Fam.sA,h]
 ·simp [World.cell?,Fam.mA,h]
 ·simp [World.frozen?,Fam.sA,h]
 ·simp [World.frozen?,Fam.mA,h]
theorem Mr{w:World}{v wt sm v' wt':Nat}(h:F.WG w v wt sm):w.setCell F.sA (.int .u64 (Fam.word v' wt'))=F.put w v' wt' sm:=by
 unfold Fam.put World.setCell;congr 1;apply Array.ext_getElem?;intro i;unfold Fam.WG Fam.HH at h;rw [Array.getElem?_modify];have O:F.wg<w.heap.size:=by
  rcases Nat.lt_or_ge F.wg w.heap.size with K | K
  ·exact K
  ·simp [Array.getElem?_eq_none K] at h
 by_cases e:F.wg=i
 ·subst e;rw [Array.getElem?_setIfInBounds_self_of_lt O,h];simp [Fam.sA,Fam.HH]
 ·rw [Array.getElem?_setIfInBounds_ne e];simp [Fam.sA,e]
theorem Qj{w:World}{v wt sm sm':Nat}(h:F.WG w v wt sm):w.setCell F.mA (.int .u32 sm')=F.put w v wt sm':=by
 unfold Fam.put World.setCell;congr 1;apply Array.ext_getElem?;intro i;unfold Fam.WG Fam.HH at h;rw [Array.getElem?_modify];have O:F.wg<w.heap.size:=by
  rcases Nat.lt_or_ge F.wg w.heap.size with K | K
  ·exact K
  ·simp [Array.getElem?_eq_none K] at h
 by_cases e:F.wg=i
 ·subst e;rw [Array.getElem?_setIfInBounds_self_of_lt O,h];simp [Fam.mA,Fam.HH]
 ·rw [Array.getElem?_setIfInBounds_ne e];simp [Fam.mA,e]
structure BV (P:Program) (f:FuncId) (e:Av_->Sem Value):Prop where
 h:∃fn,P.funcs[f]? =some fn/\(fn.name== "runtime.NumGoroutine")=false/\fn.body.isNone=true/\Extern.findNext fn=none/\Extern.find fn=some e
section
variable {ops:Ao_}{i:Nat}{rest:List Nat}{d:Option Tmp}{f:FuncId}{args:Array Operand}{ats:Array TypeId}{ty:TypeId}{pp:String}{af:Ae_}{g:On_}{vs:Lv_}{p q:Ph}
theorem JD{T:Av_}(K:Has n L T)(O:evs L args.toList=some vs):args.map (⟨T,ds⟩:Act).eval=vs.toArray:=by
 have:(⟨T,ds⟩:Act).eval=Bs T:=funext λx=>Eo T ds x;rw [this,← Gf K.FU O];apply Array.ext';simp
theorem Lp{m:Mark}(Z:KP p=true)(aa:if Fam.Cz p=true then s= .quiet else s.q=false)(ab:p≠ .EZ)(ac:∀v wt sm,F.act p v wt sm=some ((v,wt,sm),#[Fam.Cu m],.ph q))(ae:Fam.I6 p s=s)
  (ag:ops[i]? =some ⟨d,.call ⟨.value (.func f),args,ats⟩,ty,pp,af,g⟩) (O:b.roundOf=none) (hw:AM L ops ⟨d,.call ⟨.value (.func f),args,ats⟩,ty,pp,af,g⟩=some true) (K:((b.kind != .early)&&Bg n d)=true)
  (hm:∀x,m≠ .extern x) (he:BV P f (λ_=>do mark m;pure Extern.Race.none_))
  (h:JL (AR P (Fam.Cr p)) (Stop P F q) b n (Au L d (.tuple #[])) ds (.inRegion ops rest::k) cs s):
  JL (AR P (Fam.Cr p)) (Stop P F p) b n L ds (.inRegion ops (i::rest)::k) cs s:=λT U=>by
 simp only [Bool.and_eq_true] at K
 obtain⟨fn,ah,ai,hb,aj,he⟩:=he.h
 refine(AR P _).stop (Ir Z rfl rfl aa (λe=>absurd e ab) λv wt sm v' wt' sm' es al Y=>?_)
 rw [ac] at Y;cases Y
 refine⟨_,λw ak=>?_,rfl,by rw [ae];exact h _ (U.put K.2 _)⟩
 rw [BE O,BE O,stepG_mark0 (a:=⟨T,ds⟩) m hm ag (BX U hw) (by simpa using K.1) rfl ah ai hb aj he,KH ak,DD]
 rfl
theorem Og{mk:Addr->Mark}{ad:Addr}(Z:KP p=true)(aa:if Fam.Cz p=true then s= .quiet else s.q=false)(ab:p≠ .EZ)(ac:∀v wt sm,F.act p v wt sm=some ((v,wt,sm),#[Fam.Cu (mk ad)],.ph q))
  (ae:ops[i]? =some ⟨d,.call ⟨.value (.func f),args,ats⟩,ty,pp,af,g⟩) (U:b.roundOf=none) (hw:AM L ops ⟨d,.call ⟨.value (.func f),args,ats⟩,ty,pp,af,g⟩=some true) (K:((b.kind != .early)&&Bg n d)=true)
  (hm:∀ad x,mk ad≠ .extern x) (he:BV P f (Extern.Race.marked mk)) (ag:evs L args.toList=some vs) (ah:vs[0]? =some (.pointer (some ad)))
  (h:JL (AR P (Fam.Cr p)) (Stop P F q) b n (Au L d (.tuple #[])) ds (.inRegion ops rest::k) cs (Fam.I6 p s)):
  JL (AR P (Fam.Cr p)) (Stop P F p) b n L ds (.inRegion ops (i::rest)::k) cs s:=λT O=>by
 simp only [Bool.and_eq_true] at K
 obtain⟨fn,ai,aj,hb,ak,he⟩:=he.h
 refine(AR P _).stop (Ir Z rfl rfl aa (λe=>absurd e ab) λv wt sm v' wt' sm' es am Y=>?_)
 rw [ac] at Y;cases Y
 refine⟨_,λw al=>?_,rfl,h _ (O.put K.2 _)⟩
 rw [BE U,BE U,stepG_markAt (a:=⟨T,ds⟩) mk hm ae (BX O hw) (by simpa using K.1) rfl ai aj hb ak he (ad:=ad) (by rw [JD O ag];simpa using ah),KH al,DD]
 rfl
end
end
end Pal
namespace Pal
open Go Go.Conc
section
variable {E H:LH}{S:List Seg}{j l:Nat}{o o':Obj}
theorem Ka(ag:Aq E H S)(Y:S[j]? =some [(l,o)])(o':Obj):(Ak E H S).upd l o'=Ak E H (S.set j [(l,o')])/\Aq E H (S.set j [(l,o')]):=by
 obtain⟨K,Z⟩:=G0 ag Y;have U:=Nd.iff.1 Z;have aa:E l=none:=(U.2 (l,o) (by simp)).1;have ah:H l=none:=(U.2 (l,o) (by simp)).2;have ab:Nd E H (S.set j []).flatten:=J1.Nd.left Z;have ai:∀q∈(S.set j []).flatten,q.1≠l:=λq O e=>by
  have:=U.1;rw [List.map_append,List.nodup_append] at this;exact this.2.2 q.1 (List.mem_map_of_mem O) l (by simp) e
 have ac:Bf (S.set j []).flatten H l=none:=by
  have key:∀(B:List (Nat×Obj)),(∀q∈B,q.1≠l)->Bf B H l=none:=by
   intro B
   induction B with
   | nil=>intro _;exact ah
   | cons q B aj=>
    intro O;obtain⟨c,ak⟩:=q;have ae:l≠c:=λe=>O (c,ak) (by simp) e.symm;have K:=aj λq' al=>O q' (List.mem_cons_of_mem _ al);simp only [Bf]
    first
    | rw [if_neg ae];exact K
    | rw [if_neg (Ne.symm ae)];exact K
  exact key _ ai
 have f1:=J6 (E:=E) (H:=H) (B:=(S.set j []).flatten) (r:=l) aa ac o ab;have f2:=J6 (E:=E) (H:=H) (B:=(S.set j []).flatten) (r:=l) aa ac o' ab;obtain⟨am,g2⟩:=I0 (seg:= [(l,o)]) Y f2.1;refine⟨?_,g2⟩;rw [K,← am,← f1.2,← f2.2];unfold St.upd;congr 1;funext x;by_cases an:x=l <;> simp [an]
end
section
variable {P:Program}{J:Judge P}{Q:Gs_}{b:Frame}{n:Nat}{L:Env}{ds:Ld_}{k:Li_}{cs:Lf_}{E H:LH}{S:List Seg}{j l:Nat}
theorem Judge.ER{α:Type}{g:Goroutine}{g':α->Goroutine}{s:St}(x:Sem α)(aa:s.q=false)(ab:g.status= .running)
  (ac:∀w a w',x.run P w= .ok a w'->∃es,stepG P J.main g w= .go (g' a) w' es/\∀e∈es,e∈x.events P w #[])
  (h:lp P x s (λa s'=>J.ok Q (g' a) s') (λ_ _=>False)):J.ok Q g s:=by
 refine J.step ⟨ab,λw f=>?_,λe=>by subst e;cases aa⟩;obtain⟨s',O,U,Y,K⟩:=My _ h f;cases Z:x.run P w with
 | ok a w'=>
  rw [Z] at O U Y K;simp only [Ko] at O U Y;obtain⟨es,he,hm⟩:=ac w a w' Z;exact⟨g' a,s',w',es,he,K,O,U,λe ae=>Y e (hm e ae)⟩
 | halt a w'=>rw [Z] at K;exact K.elim
theorem Mp{r:Loop}{s:St}{K:Loop->St->Prop}{X:Halt->St->Prop}(h:s.get l=some (.loop r))(k:K r s):lp P (Instr.getLoop l) s K X:=by
 unfold Instr.getLoop getObj;simp only [bind,Sem.bind,lp];exact⟨_,h,rfl,k⟩
theorem T1{r:Loop}{T:Av_}(j:Nat)(K:Aq E H S)(O:S[j]? =some [(l,.loop r)])(U:(r.state== .busy)=false)(Y:r.pending=none)
  (h:Aq E H (S.set j [(l,.loop {r with state:= .exhausted})])->J.ok Q (G (fr b T ds k) cs) (Ak E H (S.set j [(l,.loop {r with state:= .exhausted})]))):
  J.ok Q (G (fr b T ds (.endRangeFunc l::k)) cs) (Ak E H S):=by
 obtain⟨Z,aa⟩:=Ka K O (.loop {r with state:= .exhausted});have ab:lp P (Instr.endLoop l) (Ak E H S) (λa s'=>a=none/\s'=Ak E H (S.set j [(l,.loop {r with state:= .exhausted})])) (λ_ _=>False):=by
  unfold Instr.endLoop;refine As _ _ (Mp (Dw (i:=0) K O rfl) ?_);rw [if_neg (by rw [U];simp)];have ac:(Ak E H S).H l=some (.loop r):=by
   have:=Dw (i:=0) K O rfl;have ae:E l=none:=M3 K O;unfold St.get at this;rw [show(Ak E H S).E l=none from ae] at this;exact this
  simp only [bind,Sem.bind,lp,setObj,pure];refine⟨⟨_,ac,rfl⟩,rfl,Y,?_⟩;exact Z
 refine Judge.ER (g':=λag=>G (fr b T ds ((ag.map Item.code).toList++k)) cs) (Instr.endLoop l) rfl rfl (λw a w' ah=>?_) (Ec _ ab (λa s' ⟨ai,aj⟩=>by subst ai aj;exact h aa) (λ_ _ h=>h));refine⟨seen P b.fn ((Instr.endLoop l).events P w #[])++ #[],?_,λe he=>?_⟩
 ·simp [G,stepG,stepG.exec,fr,ah,GStep.after]
 ·exact mem_seen (by simpa using he)
def To(l:Nat)(f:FuncId):Frame:={(default:Frame) with fn:=f,kind:= .normal,roundOf:=some l}
theorem EI.yield{r:Loop}{t:Tmp}{v:Value}{B:Seg}{R:Value->LH->Seg->Prop}{i:Nat}(K:B[i]? =some (l,.loop r))(O:r.params= #[t])
  (h:∀(Q:Gs_) (U:Frame) (cs:Lf_) (H:LH),Aq E H [B]->(∀w E' S' B',Le E E'->S'.flatten=B'->R w E' B'->Aq E' H S'->J.ok Q (G (U.finish w) cs) (Ak E' H S'))->
   J.ok Q (G (fr (To l r.fn) (r.tmps.setIfInBounds t v) [] [.code r.assign,.beginRound,.code r.body]) (U::cs)) (Ak E H [B])):
  EI J (.func (.yield l) #[] #[]) [v] E B R:=λH Y Q c cs Z=>by
 have aa:(mk E H B).get l=some (.loop r):=N3 Y K
 simp only [Deferred.ofValue,bind,Sem.bind,pure,invoke]
 unfold Instr.yield
 refine As _ _ (Mp aa ?_)
 have ab:¬((#[]:Av_)++ [v].toArray).size≠r.params.size:=by rw [O];simp
 rw [if_neg ab];have e2:((r.params.zip ((#[]:Av_)++ [v].toArray)).foldl (λtmps (t,a)=>tmps.setIfInBounds t a) r.tmps)=r.tmps.setIfInBounds t v:=by rw [O];simp [Array.zip,Array.zipWith,Array.zipWithMAux]
 simp only [lp,pure];have ac:mk E H B=Ak E H [B]:=by unfold Ak;simp
 rw [e2,ac];exact h Q c cs H (by unfold Aq;simpa using Y) λw E' S' B' hle K ae ag=>by
  subst K;exact Z w _ ⟨E',S'.flatten,hle,ae,ag,rfl⟩
theorem JL.beginRound{r:Loop}(j:Nat)(U:b.roundOf=some l)(Y:b.kind= .normal)(K:Aq E H S)(O:S[j]? =some [(l,.loop r)])(Z:r.state= .ready)
  (h:Aq E H (S.set j [(l,.loop {r with state:= .busy})])->JL J Q b n L ds k cs (Ak E H (S.set j [(l,.loop {r with state:= .busy})]))):
  JL J Q b n L ds (.beginRound::k) cs (Ak E H S):=λT aa=>by
 obtain⟨ab,ac⟩:=Ka K O (.loop {r with state:= .busy})
 have ae:lp P (Instr.beginRound l) (Ak E H S) (λ_ s'=>s'=Ak E H (S.set j [(l,.loop {r with state:= .busy})])) (λ_ _=>False):=by
  unfold Instr.beginRound;refine As _ _ (Mp (Dw (i:=0) K O rfl) ?_);have ag:(Ak E H S).H l=some (.loop r):=by
   have:=Dw (i:=0) K O rfl;have ah:E l=none:=M3 K O;unfold St.get at this;rw [show(Ak E H S).E l=none from ah] at this;exact this
  simp only [bind,Sem.bind,lp,setObj,pure,Z];exact⟨⟨_,ag,rfl⟩,rfl,ab⟩
 refine Judge.ER (g':=λ_=>G (fr b T ds k) cs) (Instr.beginRound l) rfl rfl (λw a w' ai=>?_) (Ec _ ae (λa s' aj=>by subst aj;exact h ac T aa) (λ_ _ h=>h));refine⟨seen P b.fn ((Instr.beginRound l).events P w #[])++ #[],?_,λe he=>?_⟩
 ·simp [G,stepG,stepG.exec,fr,stepG.apply,U,Y,ai,GStep.after,Frame.finish]
 ·exact mem_seen (by simpa using he)
theorem Jx{o:Obj}{seg:Seg}(K:Aq E H S)(O:S[j]? =some ((l,o)::seg)):(Ak E H S).H l=some o:=by
 have:=Dw (i:=0) K O rfl;have U:E l=none:=M3 K O;unfold St.get at this;rw [show(Ak E H S).E l=none from U] at this;exact this
theorem JL.endRound{r:Loop}{c:Frame}(j:Nat)(U:b.roundOf=some l)(Y:b.kind= .normal)(K:Aq E H S)(O:S[j]? =some [(l,.loop r)])
  (h:Aq E H (S.set j [(l,.loop {r with state:= .ready,pending:=none})])->J.ok Q (G (c.finish (.bool true)) cs) (Ak E H (S.set j [(l,.loop {r with state:= .ready,pending:=none})]))):
  JL J Q b n L [] [] (c::cs) (Ak E H S):=λT ah=>by
 obtain⟨Z,aa⟩:=Ka K O (.loop {r with state:= .ready,pending:=none})
 have ab:lp P (Instr.endRound l none) (Ak E H S) (λa s'=>a= .bool true/\s'=Ak E H (S.set j [(l,.loop {r with state:= .ready,pending:=none})])) (λ_ _=>False):=by
  unfold Instr.endRound;refine As _ _ (Mp (Dw (i:=0) K O rfl) ?_);simp only [bind,Sem.bind,lp,setObj,pure];exact⟨⟨_,Jx K O,rfl⟩,rfl,rfl,Z⟩
 refine Judge.ER (g':=λv=>G (c.finish v) cs) (Instr.endRound l none) rfl rfl (λw a w' ac=>?_) (Ec _ ab (λa s' ⟨ae,ag⟩=>by subst ae ag;exact h aa) (λ_ _ h=>h));refine⟨seen P b.fn ((Instr.endRound l none).events P w #[])++ #[],?_,λe he=>?_⟩
 ·simp [G,stepG,stepG.exec,fr,U,Y,ac,GStep.after,doReturn]
 ·exact mem_seen (by simpa using he)
theorem JL.rangeFunc{x:Operand}{params:Array Tmp}{as O:Code}{f:FuncId}{caps:Lv_}(ah:b.roundOf=none)(ai:b.kind≠ .early)(ab:ev L x=some (.func (.func f) #[] caps.toArray))(hb:De P f=true)(aj:Aq E H S)
  (h:∀K l T,Has n L T->Aq E H (S++ [[(K,.deferred (some []))]]++ [[(l,.loop ⟨.ready,none,b.fn,T,params,as,O,K⟩)]])->
   J.ok Q (G (Frame.enter P f (.func (.yield l) #[] #[]::caps).toArray .normal) (fr b T (⟨.collected K,#[]⟩::ds) (.inRangeFunc l::k)::cs)) (Ak E H (S++ [[(K,.deferred (some []))]]++ [[(l,.loop ⟨.ready,none,b.fn,T,params,as,O,K⟩)]]))):
  JL J Q b n L ds (.code (.rangeFunc x params as O)::k) cs (Ak E H S):=λT ac=>by
 have ak:lp P (Instr.enterLoop b.fn T params as O b.roundOf) (Ak E H S) (λq s'=>∃K,q.2= [⟨.collected K,#[]⟩]/\Aq E H (S++ [[(K,.deferred (some []))]]++ [[(q.1,.loop ⟨.ready,none,b.fn,T,params,as,O,K⟩)]])/\s'=Ak E H (S++ [[(K,.deferred (some []))]]++ [[(q.1,.loop ⟨.ready,none,b.fn,T,params,as,O,K⟩)]])) (λ_ _=>False):=by
  unfold Instr.enterLoop;rw [ah];simp only [newObj,bind,Sem.bind,lp,pure];refine⟨rfl,λK Y Z=>?_⟩;obtain⟨aa,al⟩:=J6 Y Z (.deferred (some [])) aj;obtain⟨am,p2⟩:=Fv aa;have an:(Ak E H S).upd K (.deferred (some []))=Ak E H (S++ [[(K,.deferred (some []))]]):=by rw [← am,← al];rfl
  rw [an];refine⟨rfl,λl ao ap=>?_⟩;obtain⟨aq,ar⟩:=J6 ao ap (.loop ⟨.ready,none,b.fn,T,params,as,O,K⟩) p2;obtain⟨p3,p4⟩:=Fv aq;exact⟨K,rfl,p4,by rw [← p3,← ar];rfl⟩
 refine Judge.ER (g':=λq=>G (Frame.enter P f (.func (.yield q.1) #[] #[]::caps).toArray .normal) (fr b T (q.2++ds) (.inRangeFunc q.1::k)::cs)) (Instr.enterLoop b.fn T params as O b.roundOf) rfl rfl (λw a w' au=>?_) (Ec _ ak (λa s' ⟨K,Y,Z,aa⟩=>by subst aa;simp only [Y];exact h K a.1 T ac Z) (λ_ _ h=>h));obtain⟨l,mk⟩:=a;have av:Bs T x= .func (.func f) #[] caps.toArray:=ac.ev ab;obtain⟨fn,U,aw,ae⟩:∃fn,P.funcs[f]? =some fn/\(fn.name== "runtime.NumGoroutine")=false/\fn.body.isNone=false:=by
  unfold De at hb;cases U:P.funcs[f]? with
  | none=>rw [U] at hb;cases hb
  | some fn=>
   rw [U] at hb;simp only [Bool.and_eq_true,Bool.not_eq_true'] at hb;exact⟨fn,rfl,hb.1,by cases ab:fn.body <;> simp_all⟩
 refine⟨seen P b.fn ((Instr.enterLoop b.fn T params as O b.roundOf).events P w #[])++ #[],?_,λe he=>?_⟩
 ·have ag:=QW (b:=b) (ds:=mk++ds) T (.inRangeFunc l::k);simp only [fr] at ag;have ay:¬fn.name= "runtime.NumGoroutine" :=by simpa using aw
  have az:¬fn.body=none:=by intro e;rw [e] at ae;cases ae
  have aA:Bs T (.const (.func (.yield l) #[] #[]))= .func (.yield l) #[] #[]:=rfl;simp [G,stepG,stepG.exec,fr,au,GStep.after,stepG.apply,resolve,ag,av,Deferred.ofValue,invoke,callFunc,U,ay,az,ai,aA,seen_none]
 ·exact mem_seen (by simpa using he)
theorem JO.collected{K:Nat}(j:Nat)(ah:b.roundOf=none)(O:Aq E H S)(U:S[j]? =some [(K,.deferred (some []))])
  (h:Aq E H (S.set j [(K,.deferred none)])->JO J Q b n L ds cs (Ak E H (S.set j [(K,.deferred none)]))):JO J Q b n L (⟨.collected K,#[]⟩::ds) cs (Ak E H S):=λT Y todo=>by
 obtain⟨Z,aa⟩:=Ka O U (.deferred none)
 have ab:lp P (Instr.takeDeferred K) (Ak E H S) (λa s'=>a= []/\s'=Ak E H (S.set j [(K,.deferred none)])) (λ_ _=>False):=by
  unfold Instr.takeDeferred getObj;simp only [bind,Sem.bind,lp,setObj,pure];exact⟨_,Dw (i:=0) O U rfl,rfl,⟨_,Jx O U,rfl⟩,rfl,rfl,Z⟩
 refine Judge.ER (g':=λl=>G (Ed b T (l++ds) todo) cs) (Instr.takeDeferred K) rfl rfl (λw a w' ac=>?_) (Ec _ ab (λa s' ⟨ae,ag⟩=>by subst ae ag;exact h aa T Y todo) (λ_ _ h=>h));refine⟨seen P b.fn ((Instr.takeDeferred K).events P w #[])++ #[],?_,λe he=>?_⟩
 ·simp [G,stepG,unwind,Ed,ac,GStep.after]
 ·exact mem_seen (by simpa using he)
def Kk(f:FuncId)(args caps:Av_):Deferred:={target:= .fn (.func f) caps,args:=args}
theorem JO.O4{f:FuncId}{fn:Func}{c:Code}{vs caps:Lv_}(ag:b.roundOf=none)(O:P.funcs[f]? =some fn)(Y:(fn.name== "runtime.NumGoroutine")=false)(hb:fn.body=some c)(Z:(vs++caps).length<=fn.ntmps){s:St}
  (h:∀T,Has n L T->∀todo,JL J Q (baseD f) fn.ntmps (F2 0 (vs++caps)) [] [.code c] (Ed b T ds todo::cs) s):JO J Q b n L (Kk f vs.toArray caps.toArray::ds) cs s:=λT aa todo=>by
 have ab:¬fn.name= "runtime.NumGoroutine" :=by simpa using Y
 refine Judge.CY rfl (λw=>?_) (h T aa todo ((vs++caps).toArray++Array.replicate (fn.ntmps - (vs++caps).length) undef) ⟨by simp;simp at Z;omega,λt v ac=>?_⟩)
 ·rw [BE (b:=baseD f) rfl];have:=enter_atD (P:=P) (vs++caps).toArray O hb;simp only [List.size_toArray] at this;rw [← this];simp [G,stepG,unwind,callDeferred,Ed,Kk,invoke,callFunc,O,ab,hb,GStep.after,seen_none]
 ·obtain⟨_,K⟩:=Jf ac;have ae:t<(vs++caps).length:=by
   rcases Nat.lt_or_ge t (vs++caps).length with U | U
   ·exact U
   ·simp only [Nat.sub_zero] at K;have:=(List.getElem?_eq_some_iff.1 K).1;omega
  rw [Array.getD_eq_getD_getElem?,Array.getElem?_append_left (by simpa using ae)];simp only [Nat.sub_zero] at K;rw [List.getElem?_toArray,K];rfl
theorem UU{ops:Ao_}{i:Nat}{rest:List Nat}{d:Option Tmp}{x:Operand}{f:FuncId}{caps:Lv_}{args:Array Operand}{ats:Array TypeId}{ty:TypeId}{p:String}{af:Ae_}{g:On_}{vs:Lv_}{s:St}
  (U:ops[i]? =some ⟨d,.defer ⟨.value x,args,ats⟩,ty,p,af,g⟩) (Y:b.roundOf=none) (hw:AM L ops ⟨d,.defer ⟨.value x,args,ats⟩,ty,p,af,g⟩=some true) (O:((b.kind != .early)&&Bg n d)=true)
  (Z:ev L x=some (.func (.func f) #[] caps.toArray)) (aa:evs L args.toList=some vs) (h:JL J Q b n (Au L d undef) (Kk f vs.toArray caps.toArray::ds) (.inRegion ops rest::k) cs s):
  JL J Q b n L ds (.inRegion ops (i::rest)::k) cs s:=λT K=>by
 simp only [Bool.and_eq_true] at O
 have ab:args.map (Bs T)=vs.toArray:=by
  rw [← Gf K.FU aa];apply Array.ext';simp
 refine Judge.oper U (BX K hw) (by simpa using O.1) (.inl Y) ?_;have hd:execOp (Bs T) ⟨d,.defer ⟨.value x,args,ats⟩,ty,p,af,g⟩= .pure (.defer (Kk f vs.toArray caps.toArray)):=by
  simp only [execOp,resolve,bind,Sem.bind,Deferred.ofValue,K.ev Z,pure,Kk];rw [ab];simp
 rw [hd];exact h _ (K.put O.2 undef)
end
end Pal
namespace Pal
open Go Go.Conc
section
variable {P:Program}{s:St}{ρ:Operand->Value}{x y z:Operand}{d:Option Tmp}{t u ty e:TypeId}{p:String}{af:Ae_}{g:On_}{a:Option Addr}{l c:Nat}
theorem Mw(K:P.underlying t=some (.slice e))(O:ρ x= .slice a l c)(U:ρ (.const (.slice none 0 0))= .slice none 0 0):Yl P ⟨d,.binOp .eql t x (.const (.slice none 0 0)) u,ty,p,af,g⟩ ρ s (.bool a.isNone):=by
 refine Ft (sm:=do eqGuard .eql t x (.const (.slice none 0 0)) (ρ x) (ρ (.const (.slice none 0 0)));binOp .eql t (ρ x) (ρ (.const (.slice none 0 0)))) rfl ?_
 rw [O,U];have Y:lp P (eqGuard .eql t x (.const (.slice none 0 0)) (.slice a l c) (.slice none 0 0)) s (λ_ s'=>s'=s) (λ_ _=>False):=by
  simp [eqGuard,lp,pure]
 refine As _ _ (Ec _ Y ?_ (λ_ _ h=>h));rintro _ _ rfl;have hb:binOp .eql t (.slice a l c) (.slice none 0 0)=(do pure (.bool (← Op.equal t (.slice a l c) (.slice none 0 0)))):=rfl
 rw [hb];refine As (x:=Op.equal t (.slice a l c) (.slice none 0 0)) _ ?_;unfold Op.equal Op.maxDepth Op.equalIn;refine As _ _ (Ce K ?_);cases a <;> exact⟨rfl,rfl⟩
end
section
variable {P:Program}{J:Judge P}{Q:Gs_}{b:Frame}{n:Nat}{L:Env}{ds:Ld_}{k:Li_}{cs:Lf_}{s:St}
end
section
variable {P:Program}{J:Judge P}{Q:Gs_}{b:Frame}{n:Nat}{ds:Ld_}{ops:Ao_}{k:Li_}{cs:Lf_}{m fuel:Nat}{listed:Array Bool}{L:Env}{E H:LH}{S:List Seg}
variable {d:Option Tmp}{x y:Operand}{t u ty e:TypeId}{p:String}{af:Ae_}{g:On_}{v:Value}{i:Nat}
end
end Pal
namespace Pal
open Go Go.Conc
def Iz(P:Program)(d:Nat):GP:=λg _=>∃q,QuitsD P q d g
def KU(P:Program):Frame:={(default:Frame) with fn:=P.funcs.size,defers:= [],mode:= .panicking [goexitEntry]}
section
variable {P:Program}{F:Fam}{J:Judge P}{Q:GP}{n:Nat}{L L':Env}{ds:Ld_}{k:Li_}{cs:Lf_}{s s':St}{b:Frame}{main:Bool}
theorem Lv.quits{d:Nat}:∀{m:Nat} {g:Goroutine},Lv P (Iz P d) m g->∃q,QuitsD P q d g
 | 0,_,h=>h
 | m+1,_,h=>by
  rcases h with h | ⟨K,g',O,h⟩
  ·exact h
  ·obtain⟨q,U⟩:=h.quits;exact⟨q+1,.ctl K O U⟩
theorem NY{d:Nat}{g:Goroutine}(h:(HV P).ok (Iz P d) g .quiet):∃q,QuitsD P q d g:=by
 obtain⟨m,hm⟩:=h rfl;exact hm.quits
theorem Ut:(HV P).ok (Iz P 0) (G (KU P) []) .quiet:=by
 refine Judge.CY (g':={frame:=KU P,callers:= [],status:= .finished,dying:=none}) rfl (λw=>?_) ((HV P).stop ⟨0,rfl,rfl⟩);have K:(default:Frame).todo= []:=rfl;have O:∀(m:FrameMode),Frame.catches P {fn:=P.funcs.size,tmps:=(default:Frame).tmps,todo:= [],defers:= [],mode:=m,kind:=(default:Frame).kind,roundOf:=(default:Frame).roundOf}=false:=λm=>by simp [Frame.catches]
 simp [G,stepG,unwind,KU,goexitEntry,K,O]
theorem QP{ops:Ao_}{i:Nat}{rest:List Nat}{d:Option Tmp}{f:FuncId}{args:Array Operand}{ats:Array TypeId}{ty:TypeId}{pp:String}{af:Ae_}{g:On_}{T:Av_}{e:Av_->Sem Value}
  (K:ops[i]? =some ⟨d,.call ⟨.value (.func f),args,ats⟩,ty,pp,af,g⟩) (he:BV P f e):mayWake P (G (fr b T ds (.inRegion ops (i::rest)::k)) cs)=true:=by
 obtain⟨fn,O,_,hb,_⟩:=he.h;have U:fn.body.isSome=false:=by cases h:fn.body <;> simp_all
 simp [mayWake,G,fr,K,Frame.eval,O,U]
theorem Wo{v wt:Nat}(K:1<=v)(O:v<2147483648)(U:wt<=1):IntKind.u64.wrap (Fam.word v wt+18446744069414584320)=Fam.word (v - 1) wt:=by
 simp only [Fam.word,Fam.KK,IntKind.wrap,IntKind.bits,IntKind.signed];simp;omega
theorem Vx{v:Nat}(h:v<2147483647):IntKind.u64.wrap (Fam.word v 0+4294967296)=Fam.word (v+1) 0:=by
 simp only [Fam.word,Fam.KK,IntKind.wrap,IntKind.bits,IntKind.signed];simp;omega
theorem word_inj{v v' wt:Nat}(h:Fam.word v wt=Fam.word v' wt):v=v':=by
 simp only [Fam.word,Fam.KK] at h;omega
section
variable {ops:Ao_}{i:Nat}{rest:List Nat}{d:Option Tmp}{f:FuncId}{x y z:Operand}{ats:Array TypeId}{ty:TypeId}{pp:String}{af:Ae_}{g:On_}{p q:Ph}
theorem W9(ab:ops[i]? =some ⟨d,.call ⟨.value (.func f),#[x,y],ats⟩,ty,pp,af,g⟩)(Z:b.roundOf=none)(hw:AM L ops ⟨d,.call ⟨.value (.func f),#[x,y],ats⟩,ty,pp,af,g⟩=some true)(O:((b.kind != .early)&&Bg n d)=true)
  (he:BV P f (Extern.Atomic.update (Op.intArith .add) .u64 true)) (ac:ev L x=some (.pointer (some F.sA))) (ae:ev L y=some (.int .u64 18446744069414584320))
  (ag:JL (AR P false) (Stop P F .GA) b n (Au L d (.int .u64 (Fam.word 0 1))) ds (.inRegion ops rest::k) cs .quiet)
  (ah:∀v wt:Nat,v<2147483647->wt<=1->¬(v=0/\wt=1)->JL (HV P) (Iz P 1) b n (Au L d (.int .u64 (Fam.word v wt))) ds (.inRegion ops rest::k) cs .quiet):
  JL (AR P false) (Stop P F .Ha) b n L ds (.inRegion ops (i::rest)::k) cs .quiet:=λT K=>by
 simp only [Bool.and_eq_true] at O
 obtain⟨fn,ai,aj,hb,ak,he⟩:=he.h
 refine(AR P _).stop (Ir rfl rfl rfl rfl (by simp) λv wt sm v' wt' sm' es al U=>?_)
 simp only [Fam.act] at U
 split at U
 ·rename_i Y
  cases U;refine⟨G (fr b (Cx T d (.int .u64 (Fam.word (v - 1) wt))) ds (.inRegion ops rest::k)) cs,λw aa=>?_,rfl,?_⟩
  ·obtain⟨c1,_,c3,_⟩:=Is aa;rw [BE Z,BE Z];show stepG P false _ w=_;rw [stepG_add_atomic (a:=⟨T,ds⟩) ab (BX K hw) (by simpa using O.1) rfl ai aj hb ak .u64 he (by rw [Eo];exact K.ev ac) (by rw [Eo];exact K.ev ae) c1 c3,Wo Y.1 Y.2.1 Y.2.2,Mr aa,DD]
   rfl
  ·split
   ·rename_i e;obtain⟨rfl,rfl⟩:=e;exact ag _ (K.put O.2 _)
   ·rename_i e;exact NY (ah (v - 1) wt (by omega) Y.2.2 (by omega) _ (K.put O.2 _))
 ·cases U
theorem WC{j:Nat}(ab:s.q=false)(ac:ops[i]? =some ⟨d,.call ⟨.value (.func f),#[x,y],ats⟩,ty,pp,af,g⟩)(Z:b.roundOf=none)(hw:AM L ops ⟨d,.call ⟨.value (.func f),#[x,y],ats⟩,ty,pp,af,g⟩=some true)(O:((b.kind != .early)&&Bg n d)=true)
  (he:BV P f (Extern.Atomic.update (Op.intArith .add) .u64 true)) (ae:ev L x=some (.pointer (some F.sA))) (ag:ev L y=some (.int .u64 4294967296))
  (ah:JL (AR P true) (Stop P F (.Il j)) b n (Au L d (.int .u64 (Fam.word 1 0))) ds (.inRegion ops rest::k) cs s)
  (ai:∀v:Nat,1<=v->v<2147483647->JL (AR P true) (Stop P F (.GI j)) b n (Au L d (.int .u64 (Fam.word (v+1) 0))) ds (.inRegion ops rest::k) cs s):
  JL (AR P true) (Stop P F (.Ib j)) b n L ds (.inRegion ops (i::rest)::k) cs s:=λT K=>by
 simp only [Bool.and_eq_true] at O
 obtain⟨fn,aj,ak,hb,al,he⟩:=he.h
 refine(AR P _).stop (Ir rfl rfl rfl ab (by simp) λv wt sm v' wt' sm' es am U=>?_)
 simp only [Fam.act] at U
 split at U
 ·rename_i Y
  obtain⟨Y,rfl⟩:=Y;cases U;refine⟨G (fr b (Cx T d (.int .u64 (Fam.word (v+1) 0))) ds (.inRegion ops rest::k)) cs,λw aa=>?_,rfl,?_⟩
  ·obtain⟨c1,_,c3,_⟩:=Is aa;rw [BE Z,BE Z];show stepG P true _ w=_;rw [stepG_add_atomic (a:=⟨T,ds⟩) ac (BX K hw) (by simpa using O.1) rfl aj ak hb al .u64 he (by rw [Eo];exact K.ev ae) (by rw [Eo];exact K.ev ag) c1 c3,Vx Y,Mr aa,DD]
   rfl
  ·split
   ·rename_i e;subst e;exact ah _ (K.put O.2 _)
   ·rename_i e;exact ai v (by omega) Y _ (K.put O.2 _)
 ·cases U
theorem XR(ac:KP p=true)(ae:if Fam.Cz p=true then s= .quiet else s.q=false)(ag:p≠ .EZ)(ah:Fam.I6 p s=s)(ai:∀v wt sm r,F.act p v wt sm=some r->r.1=(v,wt,sm)/\r.2.1= #[Fam.B6 F.sA])
  (aj:ops[i]? =some ⟨d,.call ⟨.value (.func f),#[x],ats⟩,ty,pp,af,g⟩) (U:b.roundOf=none) (hw:AM L ops ⟨d,.call ⟨.value (.func f),#[x],ats⟩,ty,pp,af,g⟩=some true) (K:((b.kind != .early)&&Bg n d)=true)
  (he:BV P f (Extern.Atomic.loadT (.int .u64))) (ak:ev L x=some (.pointer (some F.sA)))
  (h:∀v wt sm r,F.act p v wt sm=some r->∃q,r.2.2= .ph q/\JL (AR P (Fam.Cr p)) (Stop P F q) b n (Au L d (.int .u64 (Fam.word v wt))) ds (.inRegion ops rest::k) cs s):
  JL (AR P (Fam.Cr p)) (Stop P F p) b n L ds (.inRegion ops (i::rest)::k) cs s:=λT O=>by
 simp only [Bool.and_eq_true] at K
 obtain⟨fn,al,am,hb,an,he⟩:=he.h
 refine(AR P _).stop (Ir ac rfl rfl ae (λe=>absurd e ag) λv wt sm v' wt' sm' es ap Y=>?_)
 obtain⟨Z,e2⟩:=ai _ _ _ _ Y
 obtain⟨q,aa,ao⟩:=h _ _ _ _ Y
 simp only at Z e2 aa
 cases Z
 subst e2 aa
 refine⟨_,λw ab=>?_,rfl,by rw [ah];exact ao _ (O.put K.2 _)⟩
 obtain⟨c1,_,_,_⟩:=Is ab
 rw [BE U,BE U,stepG_load_atomic (a:=⟨T,ds⟩) aj (BX O hw) (by simpa using K.1) rfl al am hb an .u64 he (by rw [Eo];exact O.ev ak) c1,KH ab,DD]
 rfl
theorem Yu(aa:ops[i]? =some ⟨d,.call ⟨.value (.func f),#[x,y],ats⟩,ty,pp,af,g⟩)(Y:b.roundOf=none)(hw:AM L ops ⟨d,.call ⟨.value (.func f),#[x,y],ats⟩,ty,pp,af,g⟩=some true)(U:((b.kind != .early)&&Bg n d)=true)
  (he:BV P f Extern.Atomic.storeT) (ab:ev L x=some (.pointer (some F.sA))) (ac:ev L y=some (.int .u64 0))
  (h:JL (AR P false) (Stop P F .EZ) b n (Au L d (.tuple #[])) ds (.inRegion ops rest::k) cs .quiet):
  JL (AR P false) (Stop P F .G2) b n L ds (.inRegion ops (i::rest)::k) cs .quiet:=λT K=>by
 simp only [Bool.and_eq_true] at U
 obtain⟨fn,ae,ag,hb,ah,he⟩:=he.h
 refine(AR P _).stop (Ir rfl rfl rfl rfl (by simp) λv wt sm v' wt' sm' es ak O=>?_)
 simp only [Fam.act] at O
 split at O
 ·rename_i ai
  obtain⟨rfl,rfl⟩:=ai;cases O;refine⟨_,λw Z=>?_,rfl,h _ (K.put U.2 _)⟩;obtain⟨c1,_,c3,_⟩:=Is Z;have aj:(.int .u64 0:Value)= .int .u64 (Fam.word 0 0):=by simp [Fam.word]
  rw [BE Y,BE Y];show stepG P false _ w=_;rw [stepG_store_atomic (a:=⟨T,ds⟩) aa (BX K hw) (by simpa using U.1) rfl ae ag hb ah he (by rw [Eo];exact K.ev ab) (by rw [Eo];exact K.ev ac) c1 c3,aj,Mr Z,DD]
  rfl
 ·cases O
theorem XF{m:Nat}(aj:s.q=false)(aa:ops[i]? =some ⟨d,.call ⟨.value (.func f),#[x,y,z],ats⟩,ty,pp,af,g⟩)(Z:b.roundOf=none)(hw:AM L ops ⟨d,.call ⟨.value (.func f),#[x,y,z],ats⟩,ty,pp,af,g⟩=some true)(U:((b.kind != .early)&&Bg n d)=true)
  (he:BV P f (Extern.Atomic.casT (.int .u64))) (ab:ev L x=some (.pointer (some F.sA))) (ac:ev L y=some (.int .u64 (Fam.word m 0))) (ae:ev L z=some (.int .u64 (Fam.word m 1)))
  (ak:JL (AR P true) (Stop P F .Ig) b n (Au L d (.bool true)) ds (.inRegion ops rest::k) cs s)
  (al:JL (AR P true) (Stop P F (.FV (m - 1))) b n (Au L d (.bool false)) ds (.inRegion ops rest::k) cs s):
  JL (AR P true) (Stop P F (.Hb m)) b n L ds (.inRegion ops (i::rest)::k) cs s:=λT K=>by
 simp only [Bool.and_eq_true] at U
 obtain⟨fn,ag,ah,hb,ai,he⟩:=he.h
 refine(AR P _).stop (Ir rfl rfl rfl aj (by simp) λv wt sm v' wt' sm' es an O=>?_)
 simp only [Fam.act] at O
 split at O
 ·rename_i am
  obtain⟨_,_,rfl⟩:=am;split at O
  ·rename_i e;subst e;cases O;refine⟨_,λw Y=>?_,rfl,ak _ (K.put U.2 _)⟩;obtain⟨c1,_,c3,_⟩:=Is Y;rw [BE Z,BE Z];show stepG P true _ w=_;rw [stepG_cas_hit (a:=⟨T,ds⟩) aa (BX K hw) (by simpa using U.1) rfl ag ah hb ai .u64 he (by rw [Eo];exact K.ev ab) (by rw [Eo];exact K.ev ac) (by rw [Eo];exact K.ev ae) c1 c3,Mr Y,DD]
   rfl
  ·rename_i e;cases O;refine⟨_,λw Y=>?_,rfl,al _ (K.put U.2 _)⟩;obtain⟨c1,_,c3,_⟩:=Is Y;rw [BE Z,BE Z];show stepG P true _ w=_;rw [stepG_cas_miss (a:=⟨T,ds⟩) aa (BX K hw) (by simpa using U.1) rfl ag ah hb ai .u64 he (by rw [Eo];exact K.ev ab) (by rw [Eo];exact K.ev ac) (by rw [Eo];exact K.ev ae) c1 c3 (λq=>e (word_inj q)),KH Y,DD]
   rfl
 ·cases O
theorem V2{args:Array Operand}{vs:Lv_}(Y:ops[i]? =some ⟨d,.call ⟨.value (.func f),args,ats⟩,ty,pp,af,g⟩)(Z:b.roundOf=none)(hw:AM L ops ⟨d,.call ⟨.value (.func f),args,ats⟩,ty,pp,af,g⟩=some true)(O:((b.kind != .early)&&Bg n d)=true)
  (he:BV P f Extern.Sync.semrelease) (ab:evs L args.toList=some vs) (ac:vs[0]? =some (.pointer (some F.mA)))
  (h:JL (HV P) (Iz P 1) b n (Au L d (.tuple #[])) ds (.inRegion ops rest::k) cs .quiet):
  JL (AR P false) (Stop P F .EZ) b n L ds (.inRegion ops (i::rest)::k) cs .quiet:=λT U=>by
 simp only [Bool.and_eq_true] at O
 have ae:=QP (P:=P) (b:=b) (ds:=ds) (k:=k) (cs:=cs) (rest:=rest) (T:=T) Y he
 obtain⟨fn,ag,ah,hb,ai,he⟩:=he.h
 refine(AR P _).stop (Ir rfl rfl rfl rfl (λ_=>ae) λv wt sm v' wt' sm' es al K=>?_)
 simp only [Fam.act] at K
 split at K
 ·rename_i aj
  subst aj;cases K;refine⟨_,λw aa=>?_,rfl,NY (h _ (U.put O.2 _))⟩;obtain⟨_,c2,_,c4⟩:=Is aa;rw [BE Z,BE Z];show stepG P false _ w=_;rw [stepG_semrelease (a:=⟨T,ds⟩) Y (BX U hw) (by simpa using O.1) rfl ag ah hb ai he (ad:=F.mA) (by rw [JD U ab];simpa using ac) c2 c4,DD];have ak:IntKind.u32.wrap (((0:Nat):Int)+1)=((1:Nat):Int):=by decide
  rw [ak,Qj aa]
 ·cases K
theorem Uj{args:Array Operand}{vs:Lv_}(ah:s.q=false)(aa:ops[i]? =some ⟨d,.call ⟨.value (.func f),args,ats⟩,ty,pp,af,g⟩)(Y:b.roundOf=none)(hw:AM L ops ⟨d,.call ⟨.value (.func f),args,ats⟩,ty,pp,af,g⟩=some true)(Z:((b.kind != .early)&&Bg n d)=true)
  (he:BV P f Extern.Sync.semacquire) (ai:evs L args.toList=some vs) (aj:vs[0]? =some (.pointer (some F.mA)))
  (h:JL (AR P true) (Stop P F .G3) b n (Au L d (.tuple #[])) ds (.inRegion ops rest::k) cs s):
  JL (AR P true) (Stop P F .Fo) b n L ds (.inRegion ops (i::rest)::k) cs s:=λT K=>by
 simp only [Bool.and_eq_true] at Z
 obtain⟨fn,ab,ac,hb,ae,he⟩:=he.h
 have ag:(args.map (⟨T,ds⟩:Act).eval)[0]? =some (.pointer (some F.mA)):=by rw [JD K ai];simpa using aj
 refine(AR P _).stop (GL.stop {
  run:=rfl,offers:=rfl,quiet:=(by simp [Fam.Cz]),live:=λ_=>ah,act:=?_,Iy:=(by simp),ER:=?_,go:=(by simp),lk:=(by simp),Cl:=(by simp),store:=(by simp),fin:=(by simp)})
 ·intro v wt sm v' wt' sm' es am O;simp only [Fam.act] at O;split at O
  ·rename_i ak;subst ak;cases O;refine⟨_,λw U=>?_,rfl,h _ (K.put Z.2 _)⟩;obtain⟨_,c2,_,c4⟩:=Is U;rw [BE Y,BE Y];show stepG P true _ w=_;rw [stepG_semacquire (a:=⟨T,ds⟩) aa (BX K hw) (by simpa using Z.1) rfl ab ac hb ae he (ad:=F.mA) ag c2 (by decide) c4,DD];have al:(((1:Nat):Int) - 1)=((0:Nat):Int):=by decide
   rw [al,Qj U]
  ·cases O
 ·intro _ w v wt U;obtain⟨_,c2,_,c4⟩:=Is U;rw [BE Y];exact stepG_semacquire_wait (a:=⟨T,ds⟩) aa (BX K hw) rfl ab ac hb ae he (ad:=F.mA) ag c2
theorem Rx{args:Array Operand}{vs:Lv_}(Y:s.q=false)(Z:ops[i]? =some ⟨d,.call ⟨.value (.func f),args,ats⟩,ty,pp,af,g⟩)(U:b.roundOf=none)(hw:AM L ops ⟨d,.call ⟨.value (.func f),args,ats⟩,ty,pp,af,g⟩=some true)(K:((b.kind != .early)&&Bg n d)=true)
  (he:BV P f (Extern.Race.marked .acquire)) (aa:evs L args.toList=some vs) (ab:vs[0]? =some (.pointer (some F.sA)))
  (h:∀E' f,Le s.E E'->E' F.fd=none->(∀b,E' b≠none->s.H b=none)->(∀k,k<F.n->F.msg k (f k) E')->∀T,Has n (Au L d (.tuple #[])) T->F.fin (G (fr b T ds (.inRegion ops rest::k)) cs) ⟨E',F.Jp s.H f,false⟩):
  JL (AR P true) (Stop P F .F5) b n L ds (.inRegion ops (i::rest)::k) cs s:=λT O=>by
 simp only [Bool.and_eq_true] at K
 obtain⟨fn,ac,ae,hb,ag,he⟩:=he.h
 refine(AR P _).stop (GL.stop {
  run:=rfl,offers:=rfl,quiet:=(by simp [Fam.Cz]),live:=λ_=>Y,act:=(by simp [Fam.act]),Iy:=(by simp),ER:=(by simp),go:=(by simp),lk:=(by simp),Cl:=(by simp),store:=(by simp),fin:=λ_=>?_})
 refine⟨_,λw=>?_,λE' f a1 ah ai aj=>h E' f a1 ah ai aj _ (O.put K.2 _)⟩
 rw [BE U,BE U,stepG_markAt (a:=⟨T,ds⟩) .acquire (by simp) Z (BX O hw) (by simpa using K.1) rfl ac ae hb ag he (ad:=F.sA) (by rw [JD O aa];simpa using ab),DD]
 rfl
end
end
end Pal
namespace Pal
open Go Go.Conc
section
variable {P:Program}{F:Fam}{J:Judge P}{Q:GP}{n:Nat}{L L':Env}{ds:Ld_}{k:Li_}{cs:Lf_}{s s':St}{b:Frame}{main:Bool}
variable {ops:Ao_}{i:Nat}{rest:List Nat}{d:Option Tmp}{f:FuncId}{x y z:Operand}{ats:Array TypeId}{ty t e:TypeId}{pp:String}{af:Ae_}{g:On_}{p q:Ph}
theorem KA(T:Av_)(ds:Ld_):(⟨T,ds⟩:Act).eval=Bs T:=funext λx=>Eo T ds x
theorem V5{X:GP}{fn:Func}{c:Code}{vs:Lv_}{caps:Av_}{args:Av_}(O:P.funcs[f]? =some fn)(Z:(fn.name== "runtime.NumGoroutine")=false)(hb:fn.body=some c)(aa:args++caps=vs.toArray)(ag:vs.length<=fn.ntmps)
  (h:JL (AR P false) X (baseD f) fn.ntmps (F2 0 vs) [] [.code c] [KU P] s):Way P false X (born P {target:= .fn (.func f) caps,args:=args}) s:=by
 have ab:¬fn.name= "runtime.NumGoroutine" :=by simpa using Z
 refine Judge.CY (J:=AR P false) rfl (λw=>?_) (h (vs.toArray++Array.replicate (fn.ntmps - vs.length) undef) ⟨by simp;omega,λt v ac=>?_⟩)
 ·show stepG P false _ w=_;have U:=enter_atD (P:=P) vs.toArray O hb;rw [BE (b:=baseD f) rfl];simp only [List.size_toArray] at U;simp [G,born,stepG,unwind,callDeferred,invoke,callFunc,O,ab,hb,GStep.after,seen_none,aa,KU,U]
 ·obtain⟨_,K⟩:=Jf ac;have ae:t<vs.length:=by
   rcases Nat.lt_or_ge t vs.length with Y | Y
   ·exact Y
   ·simp at K;have:=(List.getElem?_eq_some_iff.1 K).1;omega
  rw [Array.getD_eq_getD_getElem?,Array.getElem?_append_left (by simpa using ae)];simp at K;simp [K]
theorem Ym{T:Av_}{args:Array Operand}{K:Go.Fn}{fi O:Av_}{as:Lv_}(U:Has n L T)(Y:ev L x=some (.func K fi O))(Z:evs L args.toList=some as):
  execOp (Bs T) ⟨d,.go ⟨.value x,args,ats⟩,ty,pp,af,g⟩= .pure (.spawn {target:= .fn K O,args:=fi++as.toArray}):=by
 have aa:args.map (Bs T)=as.toArray:=by
  rw [← Gf U.FU Z];apply Array.ext';simp
 simp only [execOp,resolve,bind,Sem.bind,Deferred.ofValue,U.ev Y,pure,aa]
theorem X7{j:Nat}{args:Array Operand}{fi U:Av_}{as:Lv_}{Y:FuncId}(ab:s.q=false)(ac:ops[i]? =some ⟨d,.go ⟨.value x,args,ats⟩,ty,pp,af,g⟩)(Z:b.roundOf=none)(hw:AM L ops ⟨d,.go ⟨.value x,args,ats⟩,ty,pp,af,g⟩=some true)(K:((b.kind != .early)&&Bg n d)=true)
  (ae:ev L x=some (.func (.func Y) fi U)) (ag:evs L args.toList=some as)
  (ah:Way P false (Stop P F (F.start j)) (born P {target:= .fn (.func Y) U,args:=fi++as.toArray}) ⟨s.E,λ_=>none,false⟩)
  (ai:JL (AR P true) (Stop P F (F.El j)) b n (Au L d undef) ds (.inRegion ops rest::k) cs s):
  JL (AR P true) (Stop P F (.FG j)) b n L ds (.inRegion ops (i::rest)::k) cs s:=λT O=>by
 simp only [Bool.and_eq_true] at K
 have aa:=Ym (d:=d) (ats:=ats) (ty:=ty) (pp:=pp) (af:=af) (g:=g) O ae ag
 refine(AR P _).stop (GL.stop {
  run:=rfl,offers:=rfl,quiet:=(by simp [Fam.Cz]),live:=λ_=>ab,act:=(by simp [Fam.act]),Iy:=(by simp),ER:=(by simp),go:=λaj e=>?_,lk:=(by simp),Cl:=(by simp),store:=(by simp),fin:=(by simp)})
 cases e
 refine⟨G (fr b (Cx T d undef) ds (.inRegion ops rest::k)) cs,_,rfl,rfl,λw=>?_,ah,ai _ (O.put K.2 _)⟩
 rw [BE Z,BE Z,stepG_spawn (a:=⟨T,ds⟩) (w':=w) ac (BX O hw) (by simpa using K.1) (by rw [KA,aa];rfl) rfl,listed_none (by rw [KA,aa];simp [Sem.events_pure']),DD]
theorem JO.Rm{j:Nat}(Y:s.q=false)(K:b.roundOf=none)(he:BV P f (λ_=>do mark .enable;pure Extern.Race.none_))
  (h:JO (AR P true) (Stop P F (.FG j)) b n L ds cs s):JO (AR P true) (Stop P F (.GI j)) b n L (dcall f #[]::ds) cs s:=λT Z todo=>by
 obtain⟨fn,aa,ab,hb,ac,he⟩:=he.h
 refine(AR P _).stop (Ir rfl rfl rfl Y (by simp) λv wt sm v' wt' sm' es ag O=>?_)
 simp only [Fam.act] at O
 cases O
 refine⟨G (Ed b T ds todo) cs,λw ae=>?_,rfl,h T Z todo⟩
 rw [KG K,KG K,KH ae]
 exact stepG_unwind_entry (a:=⟨T,dcall f #[]::ds⟩) (v:= .tuple #[]) (evs:= #[Fam.Cu .enable]) rfl aa ab hb ac he (by simp [Extern.Race.none_]) (by simp;rfl) (by
  intro x U
  simp at U
  subst U
  exact⟨rfl,λg h=>by cases h⟩)
theorem JO.MR(K:b.roundOf=none)(he:BV P f (λ_=>do mark .enable;pure Extern.Race.none_))
  (h:JO (HV P) (Iz P 0) b n L ds cs .quiet):JO (HV P) (Iz P 1) b n L (dcall f #[]::ds) cs .quiet:=λT U todo=>by
 obtain⟨fn,Y,Z,hb,aa,he⟩:=he.h
 refine(HV P).stop ?_
 obtain⟨q,O⟩:=NY (h T U todo)
 rw [KG K] at O
 rw [KG K]
 exact⟨q+1,QuitsD.unwind_mark (a:=⟨T,dcall f #[]::ds⟩) .enable rfl (by simp) rfl Y Z hb aa he O⟩
end
end Pal
namespace Pal
open Go Go.Conc
def Tt:BinOp->Int->Int->Option Bool
 | .lss,m,m'=>some (decide (m<m'))
 | .leq,m,m'=>some (decide (m<=m'))
 | .gtr,m,m'=>some (decide (m'<m))
 | .geq,m,m'=>some (decide (m'<=m))
 | .eql,m,m'=>some (decide (m=m'))
 | .neq,m,m'=>some (decide (m≠m'))
 | _,_,_=>none
def Kr(L:Env):Op->Option Value
 | .move x=>ev L x
 | .assign x=>ev L x
 | .pick z x y=>match ev L z with
  | some (.bool true)=>ev L x
  | some (.bool false)=>ev L y
  | _=>none
 | .extract x i=>match ev L x with
  | some (.tuple vs)=>vs[i]?
  | _=>none
 | .nilCheck x=>match ev L x with
  | some (.pointer (some a))=>some (.pointer (some a))
  | _=>none
 | .binOp op _ x y _=>match ev L x with
  | some (.int kd m)=>match ev L y with
   | some (.int kd' m')=>if kd=kd' then(match Tt op m m' with | some t=>some (.bool t) | none=>none) else none
   | _=>none
  | _=>none
 | _=>none
theorem WZ{P:Program}{s:St}{ρ:Operand->Value}{d:Option Tmp}{x y:Operand}{t u ty:TypeId}{p:String}{af:Ae_}{g:On_}{kd:IntKind}{m m':Int}(K:ρ x= .int kd m)(O:ρ y= .int kd m'):Yl P ⟨d,.binOp .neq t x y u,ty,p,af,g⟩ ρ s (.bool (decide (m≠m'))):=by
 have h:=Yl.neq (P:=P) (s:=s) (d:=d) (t:=t) (u:=u) (ty:=ty) (p:=p) (af:=af) (g:=g) K O;simpa using h
theorem MM{P:Program}{L:Env}{ρ:Operand->Value}{s:St}{o:Oper}{v:Value}(K:EG L ρ)(h:Kr L o.op=some v):Yl P o ρ s v:=by
 obtain⟨d,op,ty,p,af,g⟩:=o;simp only at h;unfold Kr at h;split at h
 ·exact Yl.move (K _ _ h)
 ·exact Yl.assign (K _ _ h)
 ·split at h
  ·rename_i e;exact Lm (K _ _ e) (K _ _ h)
  ·rename_i e;exact Vi (K _ _ e) (K _ _ h)
  ·cases h
 ·split at h
  ·rename_i e;exact Yl.extract (K _ _ e) h
  ·cases h
 ·split at h
  ·rename_i e;cases h;exact Yl.nilCheck (K _ _ e)
  ·cases h
 ·split at h
  ·rename_i O;split at h
   ·rename_i U;split at h
    ·rename_i e;subst e;split at h
     ·rename_i e;cases h;unfold Tt at e;split at e
      ·cases e;exact Yl.lss (K _ _ O) (K _ _ U)
      ·cases e;exact Yl.leq (K _ _ O) (K _ _ U)
      ·cases e;exact Yl.gtr (K _ _ O) (K _ _ U)
      ·cases e;exact Yl.geq (K _ _ O) (K _ _ U)
      ·cases e;exact Yl.eql (K _ _ O) (K _ _ U)
      ·cases e;exact WZ (K _ _ O) (K _ _ U)
      ·cases e
     ·cases h
    ·cases h
   ·cases h
  ·cases h
 ·cases h
def I5:List Oper->Nat->Option Oper
 | [],_=>none
 | o::_,0=>some o
 | _::os,i+1=>I5 os i
theorem KJ:∀(os:List Oper) (i:Nat),I5 os i=os[i]?
 | [],i=>by simp [I5]
 | _::_,0=>rfl
 | _::os,i+1=>by simp [I5,KJ os i]
def Pw(b:Frame)(n:Nat)(L:Env):Li_->Option (Li_×Env)
 | .code (.seq x y)::k=>some (.code x:: .code y::k,L)
 | .code (.block i c)::k=>some (.code c:: .inBlock i::k,L)
 | .code (.scope c)::k=>some (.code c:: .inScope c::k,L)
 | .code .skip::k=>some (k,L)
 | .code (.exit i)::k=>match exitTo i k with
  | some k'=>some (k',L)
  | none=>none
 | .code (.cond c x y)::k=>match ev L c with
  | some (.bool true)=>some (.code x::k,L)
  | some (.bool false)=>some (.code y::k,L)
  | _=>none
 | .code (.region _ ops false)::k=>some (.inRegion ops (List.range ops.size)::k,L)
 | .inBlock _::k=>some (k,L)
 | .inScope _::k=>some (k,L)
 | .inRegion _ []::k=>some (k,L)
 | .inRegion ops (i::rest)::k=>match I5 ops.toList i with
  | some ⟨d,op,ty,p,af,g⟩=>match AM L ops ⟨d,op,ty,p,af,g⟩ with
   | some true=>match BF b n ⟨d,op,ty,p,af,g⟩ with
    | true=>match Kr L op with
     | some v=>match d with
      | some d=>some (.inRegion ops rest::k,(d,v)::L)
      | none=>some (.inRegion ops rest::k,L)
     | none=>none
    | false=>none
   | some false=>match Bg n d with
    | true=>match d with
     | some d=>some (.inRegion ops rest::k,(d,undef)::L)
     | none=>some (.inRegion ops rest::k,L)
    | false=>none
   | none=>none
  | none=>none
 | _=>none
def M7(b:Frame)(n:Nat):Nat->Li_->Env->Option (Li_×Env)
 | 0,k,L=>some (k,L)
 | m+1,k,L=>match Pw b n L k with
  | some (k',L')=>M7 b n m k' L'
  | none=>none
section
variable {P:Program}{J:Judge P}{Q:Gs_}{b:Frame}{n:Nat}{L L':Env}{ds:Ld_}{k k':Li_}{cs:Lf_}{s:St}
theorem Ys(h:Pw b n L k=some (k',L'))(K:JL J Q b n L' ds k' cs s):JL J Q b n L ds k cs s:=by
 unfold Pw at h;split at h
 ·cases h;exact JL.seq K
 ·cases h;exact JL.block K
 ·cases h;exact JL.scope K
 ·cases h;exact JL.skip K
 ·split at h
  ·rename_i e;cases h;exact JL.exit e K
  ·cases h
 ·split at h
  ·rename_i e;cases h;exact UY e K
  ·rename_i e;cases h;exact UX e K
  ·cases h
 ·cases h;exact JL.region K
 ·cases h;exact Mo K
 ·cases h;exact T3 K
 ·cases h;exact JL.done K
 ·split at h
  ·rename_i d op ty p af g O;rw [KJ,Array.getElem?_toList] at O;split at h
   ·rename_i hw;split at h
    ·rename_i U;split at h
     ·rename_i v Z;cases d with
      | none=>cases h;exact A0 O hw U (λρ Y=>MM Y Z) K
      | some d=>cases h;exact A0 O hw U (λρ Y=>MM Y Z) K
     ·cases h
    ·cases h
   ·rename_i hw;split at h
    ·rename_i U;cases d with
     | none=>cases h;exact H5 O hw U K
     | some d=>cases h;exact H5 O hw U K
    ·cases h
   ·cases h
  ·cases h
 ·cases h
theorem JL.go(m:Nat)(h:M7 b n m k L=some (k',L'))(K:JL J Q b n L' ds k' cs s):JL J Q b n L ds k cs s:=by
 induction m generalizing k L with
 | zero=>cases h;exact K
 | succ m O=>
  unfold M7 at h;split at h
  ·rename_i e;exact Ys e (O h)
  ·cases h
end
abbrev Aj(a o:Nat):Value:= .pointer (some ⟨a,o,none⟩)
abbrev sV{α:Type}(a:Option Addr)(l:List α)(c:Nat):Value:= .slice a l.length c
abbrev fV(n:Nat):Value:= .func (.func n) #[] #[]
abbrev nS:Value:= .slice none 0 0
abbrev AP(r:Nat):Option Addr:=some ⟨r,0,none⟩
end Pal
namespace Pal
open Go Go.Conc Go.Conc.Lib
open Go.ConcR.Gen
theorem FZ{P:Program}{t:TypeId}{n:Nat}(h:∀w,Sem.run P (Go.sizeOf t) w= .ok n w):Bl P t=some n:=by
 have K:=h default;unfold Bl;simp only [Go.sizeOf,typeInfo,bind,Sem.bind,program,Sem.run] at K;cases hi:P.info? t with
 | none=>rw [hi] at K;simp [stuck,Sem.run,Sem.bind] at K
 | some i=>
  rw [hi] at K;simp [pure,Sem.bind,Sem.run] at K;simp [K]
section
variable {P:Program}{L:WgLink}(H:WgLib P L)
include H
theorem Mn:BV P L.disable (λ_=>do mark .disable;pure Extern.Race.none_):=⟨⟨_,H.f_disable,x_disable_n L,x_disable_b L,x_disable_x L,x_disable_f L⟩⟩
theorem IL:BV P L.enable (λ_=>do mark .enable;pure Extern.Race.none_):=⟨⟨_,H.f_enable,x_enable_n L,x_enable_b L,x_enable_x L,x_enable_f L⟩⟩
theorem P0:BV P L.relMerge (Extern.Race.marked .releaseMerge):=⟨⟨_,H.f_relMerge,x_relMerge_n L,x_relMerge_b L,x_relMerge_x L,x_relMerge_f L⟩⟩
theorem NX:BV P L.acquire (Extern.Race.marked .acquire):=⟨⟨_,H.f_acquire,x_acquire_n L,x_acquire_b L,x_acquire_x L,x_acquire_f L⟩⟩
theorem Vn:BV P L.raceRead (Extern.Race.marked .read):=⟨⟨_,H.f_raceRead,x_raceRead_n L,x_raceRead_b L,x_raceRead_x L,x_raceRead_f L⟩⟩
theorem Ve:BV P L.raceWrite (Extern.Race.marked .write):=⟨⟨_,H.f_raceWrite,x_raceWrite_n L,x_raceWrite_b L,x_raceWrite_x L,x_raceWrite_f L⟩⟩
theorem RU:BV P L.addU64 (Extern.Atomic.update (Op.intArith .add) .u64 true):=⟨⟨_,H.f_addU64,x_addU64_n L,x_addU64_b L,x_addU64_x L,x_addU64_f L⟩⟩
theorem V9:BV P L.loadU64 (Extern.Atomic.loadT (.int .u64)):=⟨⟨_,H.f_loadU64,x_loadU64_n L,x_loadU64_b L,x_loadU64_x L,x_loadU64_f L⟩⟩
theorem UA:BV P L.storeU64 Extern.Atomic.storeT:=⟨⟨_,H.f_storeU64,x_storeU64_n L,x_storeU64_b L,x_storeU64_x L,x_storeU64_f L⟩⟩
theorem Wy:BV P L.casU64 (Extern.Atomic.casT (.int .u64)):=⟨⟨_,H.f_casU64,x_casU64_n L,x_casU64_b L,x_casU64_x L,x_casU64_f L⟩⟩
theorem Vf:BV P L.semrelease Extern.Sync.semrelease:=⟨⟨_,H.f_semrelease,x_semrelease_n L,x_semrelease_b L,x_semrelease_x L,x_semrelease_f L⟩⟩
theorem T2:BV P L.semacquire Extern.Sync.semacquire:=⟨⟨_,H.f_semacquire,x_semacquire_n L,x_semacquire_b L,x_semacquire_x L,x_semacquire_f L⟩⟩
theorem Qg:BV P L.inBubble (λ_=>pure (.bool false)):=⟨⟨_,H.f_inBubble,x_inBubble_n L,x_inBubble_b L,x_inBubble_x L,x_inBubble_f L⟩⟩
end
section
variable {P:Program}{F:Fam}{J:Judge P}{Q:GP}{n:Nat}{L L':Env}{ds:Ld_}{k:Li_}{cs:Lf_}{s s':St}{b:Frame}{main:Bool}
variable {ops:Ao_}{i:Nat}{rest:List Nat}{d:Option Tmp}{f:FuncId}{x y z:Operand}{ats:Array TypeId}{ty t u e tw:TypeId}{pp:String}{af:Ae_}{g:On_}{p q:Ph}
theorem Yl.to{o:Oper}{ρ:Operand->Value}{v v':Value}(h:Yl P o ρ s v)(e:v=v'):Yl P o ρ s v':=e▸h
theorem Lq{ad:Addr}(ai:KP p=true)(aj:if Fam.Cz p=true then s= .quiet else s.q=false)(ak:p≠ .EZ)(al:∀v wt sm,F.act p v wt sm=some ((v,wt,sm),#[],.ph q))(am:Fam.I6 p s=s)
  (an:ops[i]? =some ⟨d,.convert t u x,ty,pp,af,g⟩) (U:b.roundOf=none) (hw:AM L ops ⟨d,.convert t u x,ty,pp,af,g⟩=some true) (K:((b.kind != .early)&&Bg n d)=true)
  (Y:P.underlying t=some (.pointer tw)) (hu:P.underlying u=some .unsafePointer) (Z:(P.info? tw).map (λi=>decide (i.size=0))=some false) (ao:ev L x=some (.pointer (some ad))) (hb:ad=F.sA∨ad=F.mA)
  (h:JL (AR P (Fam.Cr p)) (Stop P F q) b n (Au L d (.pointer (some ad))) ds (.inRegion ops rest::k) cs s):
  JL (AR P (Fam.Cr p)) (Stop P F p) b n L ds (.inRegion ops (i::rest)::k) cs s:=λT O=>by
 simp only [Bool.and_eq_true] at K
 refine(AR P _).stop (Ir ai rfl rfl aj (λe=>absurd e ak) λv wt sm v' wt' sm' es aq aa=>?_)
 rw [al] at aa;cases aa
 refine⟨_,λw ab=>?_,rfl,by rw [am];exact h _ (O.put K.2 _)⟩
 obtain⟨ac,ae⟩:∃ac,w.cell? ad=some ac:=by
  obtain⟨c1,c2,_,_⟩:=Is ab;rcases hb with e | e <;> rw [e]
  ·exact⟨_,c1⟩
  ·exact⟨_,c2⟩
 have ag:=run_convert_to_unsafe (P:=P) (w:=w) Y hu Z ae;have ap:=events_convert_to_unsafe (P:=P) (w:=w) Y hu Z ae;have ah:execOp (⟨T,ds⟩:Act).eval ⟨d,.convert t u x,ty,pp,af,g⟩=(do pure (Next.value (← Go.convert t u (.pointer (some ad))))):=by
  rw [KA];simp only [execOp,O.ev ao]
 rw [BE U,BE U,stepG_value (a:=⟨T,ds⟩) (v:= .pointer (some ad)) (w':=w) an (BX O hw) (by simpa using K.1) (by rw [ah];simp [ag,Result.andThen]),KH ab,DD];have e2:listed P b.fn ⟨T,ds⟩ ⟨d,.convert t u x,ty,pp,af,g⟩ w= #[]:=by
  unfold listed;rw [ah];simp [ag,ap,Result.evThen,seen_none]
 rw [e2]
end
end Pal
namespace Pal
open Go Go.Conc Go.Conc.Lib
open Go.ConcR.Gen
section
variable {P:Program}{F:Fam}{J:Judge P}{Q:GP}{n:Nat}{L L':Env}{ds:Ld_}{k:Li_}{cs:Lf_}{s s':St}{b:Frame}{main:Bool}
variable {ops:Ao_}{i:Nat}{rest:List Nat}{d:Option Tmp}{f:FuncId}{x y z:Operand}{args:Array Operand}{ats:Array TypeId}{ty t u e tw:TypeId}{pp:String}{af:Ae_}{g:On_}{p q:Ph}{vs:Lv_}
def ZV(P:Program)(b:Frame)(n:Nat)(L:Env)(d:Option Tmp)(ds:Ld_)(todo:Li_)(cs:Lf_)(U:Frame):Prop:=
 ∀(K:Judge P) (O:GP) (v:Value) (s':St),JL K O b n (Au L d v) ds todo cs s'->K.ok O (G (U.finish v) cs) s'
theorem G1{fn:Func}{c:Code}(Y:ops[i]? =some ⟨d,.call ⟨.value (.func f),args,ats⟩,ty,pp,af,g⟩)(hw:AM L ops ⟨d,.call ⟨.value (.func f),args,ats⟩,ty,pp,af,g⟩=some true)(O:((b.kind != .early)&&Bg n d)=true)
  (Z:P.funcs[f]? =some fn) (ac:(fn.name== "runtime.NumGoroutine")=false) (hb:fn.body=some c) (ae:evs L args.toList=some vs) (am:vs.length<=fn.ntmps)
  (h:∀aa:Frame,ZV P b n L d ds (.inRegion ops rest::k) cs aa->JL J Q (base f) fn.ntmps (F2 0 vs) [] [.code c] (aa::cs) s):
  JL J Q b n L ds (.inRegion ops (i::rest)::k) cs s:=λT U=>by
 simp only [Bool.and_eq_true] at O
 have ag:args.map (Bs T)=vs.toArray:=by
  rw [← Gf U.FU ae];apply Array.ext';simp
 refine Judge.oper Y (BX U hw) (by simpa using O.1) (.inr λc ah=>by cases ah) ?_;have ai:De P f=true:=by unfold De;rw [Z];simp [ac,hb]
 have hd:lp P (execOp (Bs T) ⟨d,.call ⟨.value (.func f),args,ats⟩,ty,pp,af,g⟩) s (upon J Q b T ds ops i rest k cs d) (K0 J Q b T ds ops i rest k cs):=by
  simp only [execOp,resolve,bind,Sem.bind,Deferred.ofValue,Bs,pure,invoke];have e: #[]++args.map (Bs T)++ #[]=vs.toArray:=by rw [ag];simp
  rw [e];refine Io ai ?_;have he:Frame.enter P f vs.toArray .normal=fr (base f) (vs.toArray++Array.replicate (fn.ntmps - vs.length) undef) [] [.code c]:=by
   simp [Frame.enter,fr,Z,hb,base];rfl
  show J.ok Q (G (Frame.enter P f vs.toArray .normal) _) s;rw [he];refine h _ (λan ao v s' aj=>?_) _ ⟨by simp;omega,λt v ak=>?_⟩
  ·rw [Ge (o:=⟨d,.call ⟨.value (.func f),args,ats⟩,ty,pp,af,g⟩) _ _ _ _ _ Y];exact aj _ (U.put O.2 v)
  ·obtain⟨_,K⟩:=Jf ak;have al:t<vs.length:=by
    rcases Nat.lt_or_ge t vs.length with ab | ab
    ·exact ab
    ·simp at K;have:=(List.getElem?_eq_some_iff.1 K).1;omega
   rw [Array.getD_eq_getD_getElem?,Array.getElem?_append_left (by simpa using al)];simp at K;simp [K]
 exact hd
theorem Yl.ext{e:Av_->Sem Value}{v:Value}{ρ:Operand->Value}(he:BV P f e)(O:args.map ρ=vs.toArray)(h:e vs.toArray= .pure v):Yl P ⟨d,.call ⟨.value (.func f),args,ats⟩,ty,pp,af,g⟩ ρ s v∨ρ (.func f)≠ .func (.func f) #[] #[]:=by
 by_cases K:ρ (.func f)= .func (.func f) #[] #[]
 ·left;obtain⟨fn,U,Y,Z,aa,ab⟩:=he.h;unfold Yl;simp only [execOp,resolve,bind,Sem.bind,Deferred.ofValue,K,pure,invoke];have ac: #[]++args.map ρ++ #[]=vs.toArray:=by rw [O];simp
  rw [ac];have ae:fn.body=none:=by simpa using Z
  simp only [callFunc,bind,Sem.bind,program,lp,U,Y,ae,Option.isNone_none,Bool.false_eq_true,if_false,if_true,mark,aa,ab,h,pure];exact⟨.inr ⟨f,rfl⟩,trivial,trivial⟩
 ·exact .inr K
theorem JL.ext{e:Av_->Sem Value}{v:Value}(O:ops[i]? =some ⟨d,.call ⟨.value (.func f),args,ats⟩,ty,pp,af,g⟩)(hw:AM L ops ⟨d,.call ⟨.value (.func f),args,ats⟩,ty,pp,af,g⟩=some true)(U:BF b n ⟨d,.call ⟨.value (.func f),args,ats⟩,ty,pp,af,g⟩=true)
  (he:BV P f e) (Y:evs L args.toList=some vs) (Z:e vs.toArray= .pure v) (h:JL J Q b n (Au L d v) ds (.inRegion ops rest::k) cs s):JL J Q b n L ds (.inRegion ops (i::rest)::k) cs s:=
 A0 O hw U (λρ K=>by
  have aa:args.map ρ=vs.toArray:=by
   rw [← Gf K Y]
   apply Array.ext';simp
  rcases Yl.ext (s:=s) (d:=d) (ats:=ats) (ty:=ty) (pp:=pp) (af:=af) (g:=g) he aa Z with q | q
  ·exact q
  ·exact absurd (K (.func f) _ rfl) q) h
end
section
variable {P:Program}{L:WgLink}(H:WgLib P L){F:Fam}{n:Nat}{M:Env}{ds:Ld_}{k:Li_}{cs:Lf_}{s:St}{b:Frame}
variable {ops:Ao_}{i:Nat}{rest:List Nat}{d:Option Tmp}{x y z:Operand}{ats:Array TypeId}{ty:TypeId}{pp:String}{af:Ae_}{g:On_}{p q:Ph}
include H
theorem VV(K:ops[i]? =some ⟨d,.call ⟨.value (.func L.uAdd),#[x,y],ats⟩,ty,pp,af,g⟩)(hw:AM M ops ⟨d,.call ⟨.value (.func L.uAdd),#[x,y],ats⟩,ty,pp,af,g⟩=some true)(O:((b.kind != .early)&&Bg n d)=true)
  (U:ev M x=some (.pointer (some F.sA))) (Y:ev M y=some (.int .u64 18446744069414584320))
  (Z:JL (AR P false) (Stop P F .GA) b n (Au M d (.int .u64 (Fam.word 0 1))) ds (.inRegion ops rest::k) cs .quiet)
  (aa:∀v wt:Nat,v<2147483647->wt<=1->¬(v=0/\wt=1)->JL (HV P) (Iz P 1) b n (Au M d (.int .u64 (Fam.word v wt))) ds (.inRegion ops rest::k) cs .quiet):
  JL (AR P false) (Stop P F .Ha) b n M ds (.inRegion ops (i::rest)::k) cs .quiet:=by
 refine G1 (vs:= [.pointer (some F.sA),.int .u64 18446744069414584320]) K hw O H.f_uAdd (nm_uAdd L) rfl (by simp [evs,U,Y]) (Nat.le_of_ble_eq_true rfl) λag back=>JL.go 8 rfl (A0 rfl rfl rfl (λρ h=>Yl.fieldAddr H.underlying_tAU rfl (FZ H.sizeOf_tU64) (h _ _ rfl)) ?_);refine JL.go 1 rfl (W9 rfl rfl rfl rfl (RU H) rfl rfl ?_ λv wt ab ac ae=>?_)
 ·refine A0 rfl rfl rfl (λρ h=>Yl.assign (h _ _ rfl)) (JL.done ?_);exact JL.ret rfl rfl (Bx.one H.f_uAdd rfl rfl) (back _ _ _ _ Z)
 ·refine A0 rfl rfl rfl (λρ h=>Yl.assign (h _ _ rfl)) (JL.done ?_);exact JL.ret rfl rfl (Bx.one H.f_uAdd rfl rfl) (back _ _ _ _ (aa v wt ab ac ae))
theorem Wm{j:Nat}(K:s.q=false)(O:ops[i]? =some ⟨d,.call ⟨.value (.func L.uAdd),#[x,y],ats⟩,ty,pp,af,g⟩)(hw:AM M ops ⟨d,.call ⟨.value (.func L.uAdd),#[x,y],ats⟩,ty,pp,af,g⟩=some true)(U:((b.kind != .early)&&Bg n d)=true)
  (Y:ev M x=some (.pointer (some F.sA))) (Z:ev M y=some (.int .u64 4294967296))
  (aa:JL (AR P true) (Stop P F (.Il j)) b n (Au M d (.int .u64 (Fam.word 1 0))) ds (.inRegion ops rest::k) cs s)
  (ab:∀v:Nat,1<=v->v<2147483647->JL (AR P true) (Stop P F (.GI j)) b n (Au M d (.int .u64 (Fam.word (v+1) 0))) ds (.inRegion ops rest::k) cs s):
  JL (AR P true) (Stop P F (.Ib j)) b n M ds (.inRegion ops (i::rest)::k) cs s:=by
 refine G1 (vs:= [.pointer (some F.sA),.int .u64 4294967296]) O hw U H.f_uAdd (nm_uAdd L) rfl (by simp [evs,Y,Z]) (Nat.le_of_ble_eq_true rfl) λag back=>JL.go 8 rfl (A0 rfl rfl rfl (λρ h=>Yl.fieldAddr H.underlying_tAU rfl (FZ H.sizeOf_tU64) (h _ _ rfl)) ?_);refine JL.go 1 rfl (WC K rfl rfl rfl rfl (RU H) rfl rfl ?_ λv ac ae=>?_)
 ·refine A0 rfl rfl rfl (λρ h=>Yl.assign (h _ _ rfl)) (JL.done ?_);exact JL.ret rfl rfl (Bx.one H.f_uAdd rfl rfl) (back _ _ _ _ aa)
 ·refine A0 rfl rfl rfl (λρ h=>Yl.assign (h _ _ rfl)) (JL.done ?_);exact JL.ret rfl rfl (Bx.one H.f_uAdd rfl rfl) (back _ _ _ _ (ab v ac ae))
theorem JL.uLoad(K:KP p=true)(O:if Fam.Cz p=true then s= .quiet else s.q=false)(U:p≠ .EZ)(Y:Fam.I6 p s=s)(Z:∀v wt sm r,F.act p v wt sm=some r->r.1=(v,wt,sm)/\r.2.1= #[Fam.B6 F.sA])(aa:ops[i]? =some ⟨d,.call ⟨.value (.func L.uLoad),#[x],ats⟩,ty,pp,af,g⟩)(hw:AM M ops ⟨d,.call ⟨.value (.func L.uLoad),#[x],ats⟩,ty,pp,af,g⟩=some true)(ab:((b.kind != .early)&&Bg n d)=true)
  (ac:ev M x=some (.pointer (some F.sA)))
  (h:∀v wt sm r,F.act p v wt sm=some r->∃q,r.2.2= .ph q/\JL (AR P (Fam.Cr p)) (Stop P F q) b n (Au M d (.int .u64 (Fam.word v wt))) ds (.inRegion ops rest::k) cs s):
  JL (AR P (Fam.Cr p)) (Stop P F p) b n M ds (.inRegion ops (i::rest)::k) cs s:=by
 refine G1 (vs:= [.pointer (some F.sA)]) aa hw ab H.f_uLoad (nm_uLoad L) rfl (by simp [evs,ac]) (Nat.le_of_ble_eq_true rfl) λai back=>JL.go 8 rfl (A0 rfl rfl rfl (λρ h=>Yl.fieldAddr H.underlying_tAU rfl (FZ H.sizeOf_tU64) (h _ _ rfl)) ?_);refine XR K O U Y Z rfl rfl rfl rfl (V9 H) rfl λv wt sm r ae=>?_;obtain⟨q,ag,ah⟩:=h v wt sm r ae;refine⟨q,ag,?_⟩
 ·refine A0 rfl rfl rfl (λρ h=>Yl.assign (h _ _ rfl)) (JL.done ?_);exact JL.ret rfl rfl (Bx.one H.f_uLoad rfl rfl) (back _ _ _ _ ah)
theorem JL.uStore(K:ops[i]? =some ⟨d,.call ⟨.value (.func L.uStore),#[x,y],ats⟩,ty,pp,af,g⟩)(hw:AM M ops ⟨d,.call ⟨.value (.func L.uStore),#[x,y],ats⟩,ty,pp,af,g⟩=some true)(O:((b.kind != .early)&&Bg n d)=true)
  (U:ev M x=some (.pointer (some F.sA))) (Y:ev M y=some (.int .u64 0))
  (h:JL (AR P false) (Stop P F .EZ) b n (Au M d (.tuple #[])) ds (.inRegion ops rest::k) cs .quiet):
  JL (AR P false) (Stop P F .G2) b n M ds (.inRegion ops (i::rest)::k) cs .quiet:=by
 refine G1 (vs:= [.pointer (some F.sA),.int .u64 0]) K hw O H.f_uStore (nm_uStore L) rfl (by simp [evs,U,Y]) (Nat.le_of_ble_eq_true rfl) λZ back=>JL.go 3 rfl (A0 rfl rfl rfl (λρ h=>Yl.fieldAddr H.underlying_tAU rfl (FZ H.sizeOf_tU64) (h _ _ rfl)) ?_);refine JL.go 1 rfl (Yu rfl rfl rfl rfl (UA H) rfl rfl ?_);exact JL.done (JL.fin rfl rfl (Bx.none H.f_uStore rfl) (back _ _ _ _ h))
theorem JL.uCas{m:Nat}(K:s.q=false)(O:ops[i]? =some ⟨d,.call ⟨.value (.func L.uCas),#[x,y,z],ats⟩,ty,pp,af,g⟩)(hw:AM M ops ⟨d,.call ⟨.value (.func L.uCas),#[x,y,z],ats⟩,ty,pp,af,g⟩=some true)(U:((b.kind != .early)&&Bg n d)=true)
  (Y:ev M x=some (.pointer (some F.sA))) (Z:ev M y=some (.int .u64 (Fam.word m 0))) (aa:ev M z=some (.int .u64 (Fam.word m 1)))
  (ab:JL (AR P true) (Stop P F .Ig) b n (Au M d (.bool true)) ds (.inRegion ops rest::k) cs s)
  (ac:JL (AR P true) (Stop P F (.FV (m - 1))) b n (Au M d (.bool false)) ds (.inRegion ops rest::k) cs s):
  JL (AR P true) (Stop P F (.Hb m)) b n M ds (.inRegion ops (i::rest)::k) cs s:=by
 refine G1 (vs:= [.pointer (some F.sA),.int .u64 (Fam.word m 0),.int .u64 (Fam.word m 1)]) O hw U H.f_uCas (nm_uCas L) rfl (by simp [evs,Y,Z,aa]) (Nat.le_of_ble_eq_true rfl) λae back=>JL.go 8 rfl (A0 rfl rfl rfl (λρ h=>Yl.fieldAddr H.underlying_tAU rfl (FZ H.sizeOf_tU64) (h _ _ rfl)) ?_);refine JL.go 2 rfl (XF (m:=m) K rfl rfl rfl rfl (Wy H) rfl rfl rfl ?_ ?_)
 ·refine A0 rfl rfl rfl (λρ h=>Yl.assign (h _ _ rfl)) (JL.done ?_);exact JL.ret rfl rfl (Bx.one H.f_uCas rfl rfl) (back _ _ _ _ ab)
 ·refine A0 rfl rfl rfl (λρ h=>Yl.assign (h _ _ rfl)) (JL.done ?_);exact JL.ret rfl rfl (Bx.one H.f_uCas rfl rfl) (back _ _ _ _ ac)
end
end Pal
namespace Pal
open Go Go.Conc Go.Conc.Lib
open Go.ConcR.Gen
theorem KS{v wt:Nat}(K:v<2147483648)(O:wt<=1):IntKind.u64.wrap (BitVec.ofInt IntKind.u64.bits (Fam.word v wt)&&& BitVec.ofInt IntKind.u64.bits 2147483648).toNat=0:=by
 have:=Go.ConcN.st_flag v wt K O;simpa [bits,Fam.word,Fam.KK] using this
theorem KW{v wt:Nat}(K:v<2147483648)(O:wt<=1):IntKind.u64.wrap (BitVec.ofInt IntKind.u64.bits (Fam.word v wt)&&& BitVec.ofInt IntKind.u64.bits 2147483647).toNat=(wt:Int):=by
 have:=Go.ConcN.st_waiters v wt K O;simpa [bits,Fam.word,Fam.KK] using this
theorem KD{v wt:Nat}(K:wt<=1):(Fam.word v wt).fdiv (2 ^ (min (32:Int).toNat IntKind.u64.bits))=(v:Int):=by
 have e:(2:Int) ^ (min (32:Int).toNat IntKind.u64.bits)=4294967296:=by decide
 rw [e,Int.fdiv_eq_ediv_of_nonneg _ (by decide)];simp only [Fam.word,Fam.KK];omega
theorem wrap_i32{v:Nat}(K:v<2147483648):IntKind.i32.wrap (v:Int)=v:=by
 simp only [IntKind.wrap,IntKind.bits,IntKind.signed];simp;split <;> omega
theorem wrap_u32{v:Nat}(K:v<=1):IntKind.u32.wrap (v:Int)=v:=by
 simp only [IntKind.wrap,IntKind.bits,IntKind.signed];simp;omega
theorem Vg{F:Fam}:∀v wt sm r,F.act .GA v wt sm=some r->r.1=(v,wt,sm)/\r.2.1= #[Fam.B6 F.sA]:=by
 intro v wt sm r h;simp only [Fam.act] at h;split at h
 ·rename_i K;obtain⟨rfl,rfl⟩:=K;cases h;exact⟨rfl,rfl⟩
 ·cases h
theorem Vy{F:Fam}{v wt sm:Nat}{r}(h:F.act .GA v wt sm=some r):v=0/\wt=1/\r.2.2= .ph .G2:=by
 simp only [Fam.act] at h;split at h
 ·rename_i K;cases h;exact⟨K.1,K.2,rfl⟩
 ·cases h
section
variable {P:Program}{L:WgLink}(H:WgLib P L){F:Fam}{n:Nat}{M:Env}{ds:Ld_}{k:Li_}{cs:Lf_}{s:St}{b:Frame}
variable {ops:Ao_}{i:Nat}{rest:List Nat}{d:Option Tmp}{x y z:Operand}{ats:Array TypeId}{ty:TypeId}{pp:String}{af:Ae_}{g:On_}{p q:Ph}
include H
theorem UW(U:s.q=false)(Y:ops[i]? =some ⟨d,.call ⟨.value (.func L.add),#[x,y],ats⟩,ty,pp,af,g⟩)(hw:AM M ops ⟨d,.call ⟨.value (.func L.add),#[x,y],ats⟩,ty,pp,af,g⟩=some true)(Z:((b.kind != .early)&&Bg n d)=true)
  (aa:ev M x=some (.pointer (some F.sA))) (ab:ev M y=some (.int .i64 (-1)))
  (h:JL (HV P) (Iz P 0) b n (Au M d (.tuple #[])) ds (.inRegion ops rest::k) cs .quiet):
  JL (AR P false) (Stop P F .HG) b n M ds (.inRegion ops (i::rest)::k) cs s:=by
 refine G1 (vs:= [.pointer (some F.sA),.int .i64 (-1)]) Y hw Z H.f_add (nm_add L) rfl (by simp [evs,aa,ab]) (Nat.le_of_ble_eq_true rfl) λae back=>JL.go 11 rfl (Lq (p:= .HG) (q:= .Gj) (ad:=F.sA) rfl U (by simp) (λ_ _ _=>rfl) rfl rfl rfl rfl rfl H.underlying_tWgP H.underlying_tUP H.room_tWg rfl (.inl rfl) ?_)
 refine Og (p:= .Gj) (q:= .IA) (mk:= .releaseMerge) (ad:=F.sA) (vs:= [.pointer (some F.sA)]) rfl U (by simp) (λ_ _ _=>rfl) rfl rfl rfl rfl (by simp) (P0 H) rfl rfl (JL.go 3 rfl ?_);refine Lp (p:= .IA) (q:= .Ha) rfl rfl (by simp) (λ_ _ _=>rfl) rfl rfl rfl rfl rfl (by simp) (Mn H) (JL.go 2 rfl ?_);refine JL.defer (vs:= []) rfl rfl rfl rfl rfl (JL.go 8 rfl ?_);refine JL.ext (vs:= []) rfl rfl rfl (Qg H) rfl rfl (JL.go 7 rfl ?_);refine A0 rfl rfl rfl (λρ h=>Yl.fieldAddr H.underlying_tWg rfl (FZ H.sizeOf_tAU) (h _ _ rfl)) (JL.go 1 rfl ?_);refine A0 rfl rfl rfl (λρ h=>EU H.underlying_t3 H.underlying_tU64 (h _ _ rfl)) ?_
 refine A0 (v:= .int .u64 18446744069414584320) rfl rfl rfl (λρ h=>(Yl.shl (h _ _ rfl) (h _ _ rfl) (by decide)).to (congrArg _ (by decide))) (VV H rfl rfl rfl rfl rfl ?_ λv wt ag K ah=>?_)
 ·refine A0 rfl rfl rfl (λρ h=>Yl.assign (h _ _ rfl)) (JL.go 5 rfl ?_);refine A0 (v:= .int .u64 0) rfl rfl rfl (λρ h=>(Yl.and (h _ _ rfl) (h _ _ rfl)).to (congrArg _ (KS (v:=0) (wt:=1) (by decide) (by decide)))) (A0 rfl rfl rfl (λρ h=>Yl.neq (h _ _ rfl) (h _ _ rfl)) ?_);refine JL.go 10 rfl (A0 (v:= .int .u64 (0:Nat)) rfl rfl rfl (λρ h=>(Yl.shr (h _ _ rfl) (h _ _ rfl) (by decide)).to (congrArg _ (KD (v:=0) (wt:=1) (by decide)))) ?_);refine A0 (v:= .int .i32 (0:Nat)) rfl rfl rfl (λρ h=>(EU H.underlying_tU64 H.underlying_t21 (h _ _ rfl)).to (congrArg _ (wrap_i32 (by decide)))) ?_
  refine JL.go 5 rfl (A0 (v:= .int .u64 (1:Nat)) rfl rfl rfl (λρ h=>(Yl.and (h _ _ rfl) (h _ _ rfl)).to (congrArg _ (KW (v:=0) (wt:=1) (by decide) (by decide)))) ?_);refine A0 (v:= .int .u32 (1:Nat)) rfl rfl rfl (λρ h=>(EU H.underlying_tU64 H.underlying_tU32 (h _ _ rfl)).to (congrArg _ (wrap_u32 (by decide)))) ?_
  refine JL.go 30 rfl (A0 rfl rfl rfl (λρ h=>Yl.neq (h _ _ rfl) (h _ _ rfl)) ?_);refine JL.go 30 rfl (A0 rfl rfl rfl (λρ h=>Yl.fieldAddr H.underlying_tWg rfl (FZ H.sizeOf_tAU) (h _ _ rfl)) ?_);refine JL.uLoad H (p:= .GA) rfl rfl (by simp) rfl Vg rfl rfl rfl rfl λv wt sm r ac=>?_;obtain⟨rfl,rfl,e⟩:=Vy ac;refine⟨.G2,e,?_⟩;refine JL.go 1 rfl (A0 (v:= .bool false) rfl rfl rfl (λρ h=>(Yl.neq (h _ _ rfl) (h _ _ rfl)).to (by simp)) ?_);refine JL.go 7 rfl (A0 rfl rfl rfl (λρ h=>Yl.fieldAddr H.underlying_tWg rfl (FZ H.sizeOf_tAU) (h _ _ rfl)) ?_);refine JL.uStore H rfl rfl rfl rfl rfl (JL.go 9 rfl ?_);refine Ip (JL.go 4 rfl ?_);refine A0 rfl rfl rfl (λρ h=>Yl.neq (h _ _ rfl) (h _ _ rfl)) (JL.go 8 rfl ?_);refine A0 rfl rfl rfl (λρ h=>Yl.fieldAddr H.underlying_tWg rfl (FZ H.sizeOf_tU32) (h _ _ rfl)) (V2 (vs:= [.pointer (some F.mA),.bool false,.int .i64 0]) rfl rfl rfl rfl (Vf H) rfl rfl ?_);refine JL.go 4 rfl (A0 (v:= .int .u32 ((0:Nat):Int)) rfl rfl rfl (λρ h=>(Yl.sub (h _ _ rfl) (h _ _ rfl)).to (congrArg _ (by decide))) ?_);refine JL.go 2 rfl (JL.again ?_);refine JL.go 4 rfl (A0 rfl rfl rfl (λρ h=>Yl.neq (h _ _ rfl) (h _ _ rfl)) ?_);refine JL.go 3 rfl (JL.out rfl (JO.MR rfl (IL H) (JO.leave rfl (Bx.none H.f_add rfl) (back _ _ _ _ h))))
 ·refine A0 rfl rfl rfl (λρ h=>Yl.assign (h _ _ rfl)) (JL.go 5 rfl ?_);refine A0 (v:= .int .u64 0) rfl rfl rfl (λρ h=>(Yl.and (h _ _ rfl) (h _ _ rfl)).to (congrArg _ (KS (v:=v) (wt:=wt) (by omega) K))) (A0 rfl rfl rfl (λρ h=>Yl.neq (h _ _ rfl) (h _ _ rfl)) ?_);refine JL.go 10 rfl (A0 (v:= .int .u64 (v:Nat)) rfl rfl rfl (λρ h=>(Yl.shr (h _ _ rfl) (h _ _ rfl) (by decide)).to (congrArg _ (KD (v:=v) (wt:=wt) K))) ?_);refine A0 (v:= .int .i32 (v:Nat)) rfl rfl rfl (λρ h=>(EU H.underlying_tU64 H.underlying_t21 (h _ _ rfl)).to (congrArg _ (wrap_i32 (by omega)))) ?_
  refine JL.go 5 rfl (A0 (v:= .int .u64 (wt:Nat)) rfl rfl rfl (λρ h=>(Yl.and (h _ _ rfl) (h _ _ rfl)).to (congrArg _ (KW (v:=v) (wt:=wt) (by omega) K))) ?_);refine A0 (v:= .int .u32 (wt:Nat)) rfl rfl rfl (λρ h=>(EU H.underlying_tU64 H.underlying_tU32 (h _ _ rfl)).to (congrArg _ (wrap_u32 K))) ?_
  refine JL.go 22 rfl (A0 (v:= .bool false) rfl rfl rfl (λρ h=>(Yl.lss (h _ _ rfl) (h _ _ rfl)).to (by simp)) ?_);refine JL.go 6 rfl ?_;by_cases O:wt=0
  ·refine A0 rfl rfl rfl (λρ h=>Yl.move (h _ _ rfl)) (A0 (v:= .bool false) rfl rfl rfl (λρ h=>(Yl.neq (h _ _ rfl) (h _ _ rfl)).to (by simp [O])) ?_);refine JL.go 16 rfl ?_;by_cases ai:0<v
   ·refine A0 rfl rfl rfl (λρ h=>Yl.move (h _ _ rfl)) (A0 (v:= .bool true) rfl rfl rfl (λρ h=>(Yl.gtr (h _ _ rfl) (h _ _ rfl)).to (by simp <;> omega)) ?_);refine JL.go 6 rfl (IM rfl (JO.MR rfl (IL H) (JO.leave rfl (Bx.none H.f_add rfl) (back _ _ _ _ h))))
   ·refine A0 rfl rfl rfl (λρ h=>Yl.move (h _ _ rfl)) (A0 (v:= .bool false) rfl rfl rfl (λρ h=>(Yl.gtr (h _ _ rfl) (h _ _ rfl)).to (by simp <;> omega)) ?_);refine JL.go 2 rfl (A0 (v:= .bool true) rfl rfl rfl (λρ h=>(Yl.eql (h _ _ rfl) (h _ _ rfl)).to (by simp [O])) ?_);refine JL.go 3 rfl (IM rfl (JO.MR rfl (IL H) (JO.leave rfl (Bx.none H.f_add rfl) (back _ _ _ _ h))))
  ·refine A0 rfl rfl rfl (λρ h=>Yl.move (h _ _ rfl)) (A0 (v:= .bool true) rfl rfl rfl (λρ h=>(Yl.neq (h _ _ rfl) (h _ _ rfl)).to (by simp [O])) ?_);refine JL.go 17 rfl (A0 (v:= .bool true) rfl rfl rfl (λρ h=>(Yl.gtr (h _ _ rfl) (h _ _ rfl)).to (by simp <;> omega)) ?_);refine JL.go 6 rfl (IM rfl (JO.MR rfl (IL H) (JO.leave rfl (Bx.none H.f_add rfl) (back _ _ _ _ h))))
theorem U1{j:Nat}(K:s.q=false)(O:ops[i]? =some ⟨d,.call ⟨.value (.func L.add),#[x,y],ats⟩,ty,pp,af,g⟩)(hw:AM M ops ⟨d,.call ⟨.value (.func L.add),#[x,y],ats⟩,ty,pp,af,g⟩=some true)(U:((b.kind != .early)&&Bg n d)=true)
  (Y:ev M x=some (.pointer (some F.sA))) (Z:ev M y=some (.int .i64 1))
  (h:JL (AR P true) (Stop P F (.FG j)) b n (Au M d (.tuple #[])) ds (.inRegion ops rest::k) cs s):
  JL (AR P true) (Stop P F (.F3 j)) b n M ds (.inRegion ops (i::rest)::k) cs s:=by
 refine G1 (vs:= [.pointer (some F.sA),.int .i64 1]) O hw U H.f_add (nm_add L) rfl (by simp [evs,Y,Z]) (Nat.le_of_ble_eq_true rfl) λaa back=>JL.go 12 rfl (Lp (p:= .F3 j) (q:= .Ib j) rfl K (by simp) (λ_ _ _=>rfl) rfl rfl rfl rfl rfl (by simp) (Mn H) ?_);refine JL.go 2 rfl (JL.defer (vs:= []) rfl rfl rfl rfl rfl ?_);refine JL.go 8 rfl (JL.ext (vs:= []) rfl rfl rfl (Qg H) rfl rfl ?_);refine JL.go 7 rfl (A0 rfl rfl rfl (λρ h=>Yl.fieldAddr H.underlying_tWg rfl (FZ H.sizeOf_tAU) (h _ _ rfl)) ?_);refine JL.go 1 rfl (A0 rfl rfl rfl (λρ h=>EU H.underlying_t3 H.underlying_tU64 (h _ _ rfl)) ?_)
 refine A0 (v:= .int .u64 4294967296) rfl rfl rfl (λρ h=>(Yl.shl (h _ _ rfl) (h _ _ rfl) (by decide)).to (congrArg _ (by decide))) (Wm H K rfl rfl rfl rfl rfl ?_ λv ab ac=>?_)
 ·refine A0 rfl rfl rfl (λρ h=>Yl.assign (h _ _ rfl)) (JL.go 5 rfl ?_);refine A0 (v:= .int .u64 0) rfl rfl rfl (λρ h=>(Yl.and (h _ _ rfl) (h _ _ rfl)).to (congrArg _ (KS (v:=1) (wt:=0) (by decide) (by decide)))) (A0 rfl rfl rfl (λρ h=>Yl.neq (h _ _ rfl) (h _ _ rfl)) ?_);refine JL.go 10 rfl (A0 (v:= .int .u64 (1:Nat)) rfl rfl rfl (λρ h=>(Yl.shr (h _ _ rfl) (h _ _ rfl) (by decide)).to (congrArg _ (KD (v:=1) (wt:=0) (by decide)))) ?_);refine A0 (v:= .int .i32 (1:Nat)) rfl rfl rfl (λρ h=>(EU H.underlying_tU64 H.underlying_t21 (h _ _ rfl)).to (congrArg _ (wrap_i32 (by decide)))) ?_
  refine JL.go 5 rfl (A0 (v:= .int .u64 (0:Nat)) rfl rfl rfl (λρ h=>(Yl.and (h _ _ rfl) (h _ _ rfl)).to (congrArg _ (KW (v:=1) (wt:=0) (by decide) (by decide)))) ?_);refine A0 (v:= .int .u32 (0:Nat)) rfl rfl rfl (λρ h=>(EU H.underlying_tU64 H.underlying_tU32 (h _ _ rfl)).to (congrArg _ (wrap_u32 (by decide)))) ?_
  refine JL.go 12 rfl (A0 (v:= .int .i32 1) rfl rfl rfl (λρ h=>(EU H.underlying_t3 H.underlying_t21 (h _ _ rfl)).to (congrArg _ (by decide))) ?_)
  refine A0 (v:= .bool true) rfl rfl rfl (λρ h=>(Yl.eql (h _ _ rfl) (h _ _ rfl)).to (by simp)) (JL.go 6 rfl ?_);refine A0 rfl rfl rfl (λρ h=>Yl.fieldAddr H.underlying_tWg rfl (FZ H.sizeOf_tU32) (h _ _ rfl)) (Lq (p:= .Il j) (q:= .Hy j) (ad:=F.mA) rfl K (by simp) (λ_ _ _=>rfl) rfl rfl rfl rfl rfl H.underlying_tPU32 H.underlying_tUP H.room_tU32 rfl (.inr rfl) ?_)
  refine Og (p:= .Hy j) (q:= .GI j) (mk:= .read) (ad:=F.mA) (vs:= [.pointer (some F.mA)]) rfl K (by simp) (λ_ _ _=>rfl) rfl rfl rfl rfl (by simp) (Vn H) rfl rfl (JL.go 5 rfl ?_);refine A0 (v:= .bool false) rfl rfl rfl (λρ h=>(Yl.lss (h _ _ rfl) (h _ _ rfl)).to (by simp)) (JL.go 7 rfl ?_);refine A0 (v:= .bool false) rfl rfl rfl (λρ h=>(Yl.neq (h _ _ rfl) (h _ _ rfl)).to (by simp)) (JL.go 17 rfl ?_);refine A0 (v:= .bool true) rfl rfl rfl (λρ h=>(Yl.gtr (h _ _ rfl) (h _ _ rfl)).to (by simp)) (JL.go 6 rfl ?_);exact IM rfl (JO.Rm K rfl (IL H) (JO.leave rfl (Bx.none H.f_add rfl) (back _ _ _ _ h)))
 ·refine A0 rfl rfl rfl (λρ h=>Yl.assign (h _ _ rfl)) (JL.go 5 rfl ?_);refine A0 (v:= .int .u64 0) rfl rfl rfl (λρ h=>(Yl.and (h _ _ rfl) (h _ _ rfl)).to (congrArg _ (KS (v:=(v+1)) (wt:=0) (by omega) (by decide)))) (A0 rfl rfl rfl (λρ h=>Yl.neq (h _ _ rfl) (h _ _ rfl)) ?_);refine JL.go 10 rfl (A0 (v:= .int .u64 ((v+1):Nat)) rfl rfl rfl (λρ h=>(Yl.shr (h _ _ rfl) (h _ _ rfl) (by decide)).to (congrArg _ (KD (v:=(v+1)) (wt:=0) (by decide)))) ?_);refine A0 (v:= .int .i32 ((v+1):Nat)) rfl rfl rfl (λρ h=>(EU H.underlying_tU64 H.underlying_t21 (h _ _ rfl)).to (congrArg _ (wrap_i32 (by omega)))) ?_
  refine JL.go 5 rfl (A0 (v:= .int .u64 (0:Nat)) rfl rfl rfl (λρ h=>(Yl.and (h _ _ rfl) (h _ _ rfl)).to (congrArg _ (KW (v:=(v+1)) (wt:=0) (by omega) (by decide)))) ?_);refine A0 (v:= .int .u32 (0:Nat)) rfl rfl rfl (λρ h=>(EU H.underlying_tU64 H.underlying_tU32 (h _ _ rfl)).to (congrArg _ (wrap_u32 (by decide)))) ?_
  refine JL.go 12 rfl (A0 (v:= .int .i32 1) rfl rfl rfl (λρ h=>(EU H.underlying_t3 H.underlying_t21 (h _ _ rfl)).to (congrArg _ (by decide))) ?_)
  refine A0 (v:= .bool false) rfl rfl rfl (λρ h=>(Yl.eql (h _ _ rfl) (h _ _ rfl)).to (by simp <;> omega)) (JL.go 8 rfl ?_);refine A0 (v:= .bool false) rfl rfl rfl (λρ h=>(Yl.lss (h _ _ rfl) (h _ _ rfl)).to (by simp <;> omega)) (JL.go 7 rfl ?_);refine A0 (v:= .bool false) rfl rfl rfl (λρ h=>(Yl.neq (h _ _ rfl) (h _ _ rfl)).to (by simp)) (JL.go 17 rfl ?_);refine A0 (v:= .bool true) rfl rfl rfl (λρ h=>(Yl.gtr (h _ _ rfl) (h _ _ rfl)).to (by simp <;> omega)) (JL.go 6 rfl ?_);exact IM rfl (JO.Rm K rfl (IL H) (JO.leave rfl (Bx.none H.f_add rfl) (back _ _ _ _ h)))
omit H in
theorem UB{m:Nat}:∀v wt sm r,F.act (.FV m) v wt sm=some r->r.1=(v,wt,sm)/\r.2.1= #[Fam.B6 F.sA]:=by
 intro v wt sm r h;simp only [Fam.act] at h;split at h
 ·rename_i K;obtain⟨_,rfl⟩:=K;cases h;exact⟨rfl,rfl⟩
 ·cases h
omit H in
theorem Vm{m v wt sm:Nat}{r}(h:F.act (.FV m) v wt sm=some r):v<=m/\wt=0/\r.2.2=if v=0 then .ph .FY else .ph (.Hb v):=by
 simp only [Fam.act] at h;split at h
 ·rename_i K;cases h;exact⟨K.1,K.2,rfl⟩
 ·cases h
omit H in
theorem Ul:∀v wt sm r,F.act .G3 v wt sm=some r->r.1=(v,wt,sm)/\r.2.1= #[Fam.B6 F.sA]:=by
 intro v wt sm r h;simp only [Fam.act] at h;split at h
 ·rename_i K;obtain⟨rfl,rfl⟩:=K;cases h;exact⟨rfl,rfl⟩
 ·cases h
omit H in
theorem UD{v wt sm:Nat}{r}(h:F.act .G3 v wt sm=some r):v=0/\wt=0/\r.2.2= .ph .FY:=by
 simp only [Fam.act] at h;split at h
 ·rename_i K;cases h;exact⟨K.1,K.2,rfl⟩
 ·cases h
omit H in
theorem U7{v:Nat}(K:v<2147483648):IntKind.u64.wrap (Fam.word v 0+1)=Fam.word v 1:=by
 simp only [Fam.word,Fam.KK,IntKind.wrap,IntKind.bits,IntKind.signed];simp;omega
theorem JL.wait(ag:F.n<2147483648)(K:s.q=false)(ah:ops[i]? =some ⟨d,.call ⟨.value (.func L.wait),#[x],ats⟩,ty,pp,af,g⟩)(hw:AM M ops ⟨d,.call ⟨.value (.func L.wait),#[x],ats⟩,ty,pp,af,g⟩=some true)(ai:((b.kind != .early)&&Bg n d)=true)
  (aj:ev M x=some (.pointer (some F.sA)))
  {Q:GP} (ac:∀g s,(Gx P).ok Q g s->F.fin g s)
  (h:∀E' f,Le s.E E'->E' F.fd=none->(∀b,E' b≠none->s.H b=none)->(∀k,k<F.n->F.msg k (f k) E')->JL (Gx P) Q b n (Au M d (.tuple #[])) ds (.inRegion ops rest::k) cs ⟨E',F.Jp s.H f,false⟩):
  JL (AR P true) (Stop P F .C7) b n M ds (.inRegion ops (i::rest)::k) cs s:=by
 refine G1 (vs:= [.pointer (some F.sA)]) ah hw ai H.f_wait (nm_wait L) rfl (by simp [evs,aj]) (Nat.le_of_ble_eq_true rfl) λam back=>JL.go 3 rfl (Lp (p:= .C7) (q:= .FV F.n) rfl K (by simp) (λ_ _ _=>rfl) rfl rfl rfl rfl rfl (by simp) (Mn H) ?_);refine JL.go 2 rfl (Ip ?_);refine EK (L':= [(0,.pointer (some F.sA))]) ⟨rfl,trivial⟩ ?_;generalize F.n=m at ag ⊢
 induction m using Nat.strongRecOn with
 | _ m ak=>?_
 refine JL.go 5 rfl (A0 rfl rfl rfl (λρ h=>Yl.fieldAddr H.underlying_tWg rfl (FZ H.sizeOf_tAU) (h _ _ rfl)) ?_);refine JL.uLoad H (p:= .FV m) rfl K (by simp) rfl UB rfl rfl rfl rfl λv wt sm r U=>?_;obtain⟨an,rfl,e⟩:=Vm U;have O:v<2147483648:=by omega
 by_cases ae:v=0
 ·subst ae;refine⟨.FY,e,?_⟩;refine JL.go 5 rfl (A0 (v:= .int .u64 (0:Nat)) rfl rfl rfl (λρ h=>(Yl.shr (h _ _ rfl) (h _ _ rfl) (by decide)).to (congrArg _ (KD (v:=0) (wt:=0) (by decide)))) ?_);refine A0 (v:= .int .i32 (0:Nat)) rfl rfl rfl (λρ h=>(EU H.underlying_tU64 H.underlying_t21 (h _ _ rfl)).to (congrArg _ (wrap_i32 (by decide)))) ?_
  refine JL.go 5 rfl (A0 (v:= .int .u64 ((0:Nat):Int)) rfl rfl rfl (λρ h=>(Yl.and (h _ _ rfl) (h _ _ rfl)).to (congrArg _ (KW (v:=0) (wt:=0) (by decide) (by decide)))) ?_);refine A0 (v:= .int .u32 ((0:Nat):Int)) rfl rfl rfl (λρ h=>(EU H.underlying_tU64 H.underlying_tU32 (h _ _ rfl)).to (congrArg _ (wrap_u32 (by decide)))) ?_
  refine JL.go 6 rfl (A0 (v:= .bool true) rfl rfl rfl (λρ h=>(Yl.eql (h _ _ rfl) (h _ _ rfl)).to (by simp)) ?_);refine JL.go 6 rfl (Lp (p:= .FY) (q:= .Ie) rfl K (by simp) (λ_ _ _=>rfl) rfl rfl rfl rfl rfl (by simp) (IL H) ?_);refine JL.go 3 rfl (Lq (p:= .Ie) (q:= .F5) (ad:=F.sA) rfl K (by simp) (λ_ _ _=>rfl) rfl rfl rfl rfl rfl H.underlying_tWgP H.underlying_tUP H.room_tWg rfl (.inl rfl) ?_)
  refine Rx (vs:= [.pointer (some F.sA)]) K rfl rfl rfl rfl (NX H) rfl rfl λE' Y z1 Z aa ab T al=>ac _ _ ?_;revert T;refine(?_:JL (Gx P) Q _ _ _ _ _ _ _);refine JL.go 5 rfl (A0 (v:= .bool true) rfl rfl rfl (λρ h=>(Yl.eql (h _ _ rfl) (h _ _ rfl)).to (by simp)) ?_);refine JL.go 2 rfl (A0 (v:= .int .u64 0) rfl rfl rfl (λρ h=>(Yl.and (h _ _ rfl) (h _ _ rfl)).to (congrArg _ (KS (v:=0) (wt:=0) (by decide) (by decide)))) ?_);refine A0 (v:= .bool false) rfl rfl rfl (λρ h=>(Yl.neq (h _ _ rfl) (h _ _ rfl)).to (by simp)) (JL.go 8 rfl ?_);exact JL.ret rfl rfl (Bx.none H.f_wait rfl) (back _ _ _ _ (h E' Y z1 Z aa ab))
 ·refine⟨.Hb v,by rw [e,if_neg ae],?_⟩;refine JL.go 5 rfl (A0 (v:= .int .u64 (v:Nat)) rfl rfl rfl (λρ h=>(Yl.shr (h _ _ rfl) (h _ _ rfl) (by decide)).to (congrArg _ (KD (v:=v) (wt:=0) (by decide)))) ?_);refine A0 (v:= .int .i32 (v:Nat)) rfl rfl rfl (λρ h=>(EU H.underlying_tU64 H.underlying_t21 (h _ _ rfl)).to (congrArg _ (wrap_i32 O))) ?_
  refine JL.go 5 rfl (A0 (v:= .int .u64 ((0:Nat):Int)) rfl rfl rfl (λρ h=>(Yl.and (h _ _ rfl) (h _ _ rfl)).to (congrArg _ (KW (v:=v) (wt:=0) O (by decide)))) ?_);refine A0 (v:= .int .u32 ((0:Nat):Int)) rfl rfl rfl (λρ h=>(EU H.underlying_tU64 H.underlying_tU32 (h _ _ rfl)).to (congrArg _ (wrap_u32 (by decide)))) ?_
  refine JL.go 6 rfl (A0 (v:= .bool false) rfl rfl rfl (λρ h=>(Yl.eql (h _ _ rfl) (h _ _ rfl)).to (by simp <;> omega)) ?_);refine JL.go 7 rfl (A0 rfl rfl rfl (λρ h=>Yl.fieldAddr H.underlying_tWg rfl (FZ H.sizeOf_tAU) (h _ _ rfl)) ?_);refine JL.go 2 rfl (A0 (v:= .int .u64 (Fam.word v 1)) rfl rfl rfl (λρ h=>(Yl.add (h _ _ rfl) (h _ _ rfl)).to (congrArg _ (U7 O))) ?_);refine JL.uCas H (m:=v) K rfl rfl rfl rfl rfl rfl ?_ ?_
  ·refine JL.done (JL.go 6 rfl ?_);refine A0 (v:= .bool true) rfl rfl rfl (λρ h=>(Yl.eql (h _ _ rfl) (h _ _ rfl)).to (by simp)) (JL.go 6 rfl ?_);refine A0 rfl rfl rfl (λρ h=>Yl.fieldAddr H.underlying_tWg rfl (FZ H.sizeOf_tU32) (h _ _ rfl)) (Lq (p:= .Ig) (q:= .HF) (ad:=F.mA) rfl K (by simp) (λ_ _ _=>rfl) rfl rfl rfl rfl rfl H.underlying_tPU32 H.underlying_tUP H.room_tU32 rfl (.inr rfl) ?_)
   refine Og (p:= .HF) (q:= .Fo) (mk:= .write) (ad:=F.mA) (vs:= [.pointer (some F.mA)]) rfl K (by simp) (λ_ _ _=>rfl) rfl rfl rfl rfl (by simp) (Ve H) rfl rfl (JL.go 9 rfl ?_);refine A0 (v:= .int .u64 0) rfl rfl rfl (λρ h=>(Yl.and (h _ _ rfl) (h _ _ rfl)).to (congrArg _ (KS (v:=v) (wt:=0) O (by decide)))) (A0 (v:= .bool false) rfl rfl rfl (λρ h=>(Yl.neq (h _ _ rfl) (h _ _ rfl)).to (by simp)) ?_);refine JL.go 10 rfl (A0 rfl rfl rfl (λρ h=>Yl.fieldAddr H.underlying_tWg rfl (FZ H.sizeOf_tU32) (h _ _ rfl)) ?_);refine JL.go 1 rfl (Uj (vs:= [.pointer (some F.mA),.bool false]) K rfl rfl rfl rfl (T2 H) rfl rfl ?_);refine JL.go 5 rfl (A0 rfl rfl rfl (λρ h=>Yl.fieldAddr H.underlying_tWg rfl (FZ H.sizeOf_tAU) (h _ _ rfl)) ?_);refine JL.uLoad H (p:= .G3) rfl K (by simp) rfl Ul rfl rfl rfl rfl λv wt sm r U=>?_;obtain⟨rfl,rfl,e⟩:=UD U;refine⟨.FY,e,?_⟩;refine A0 (v:= .bool false) rfl rfl rfl (λρ h=>(Yl.neq (h _ _ rfl) (h _ _ rfl)).to (by simp [Fam.word])) (JL.go 6 rfl ?_);refine Lp (p:= .FY) (q:= .Ie) rfl K (by simp) (λ_ _ _=>rfl) rfl rfl rfl rfl rfl (by simp) (IL H) (JL.go 3 rfl ?_);refine Lq (p:= .Ie) (q:= .F5) (ad:=F.sA) rfl K (by simp) (λ_ _ _=>rfl) rfl rfl rfl rfl rfl H.underlying_tWgP H.underlying_tUP H.room_tWg rfl (.inl rfl) ?_
   refine Rx (vs:= [.pointer (some F.sA)]) K rfl rfl rfl rfl (NX H) rfl rfl λE' Y z1 Z aa ab T al=>ac _ _ ?_;revert T;refine(?_:JL (Gx P) Q _ _ _ _ _ _ _);exact JL.go 8 rfl (JL.ret rfl rfl (Bx.none H.f_wait rfl) (back _ _ _ _ (h E' Y z1 Z aa ab)))
  ·refine JL.done (JL.go 3 rfl ?_);refine JL.again (EK (L':= [(0,.pointer (some F.sA))]) ⟨rfl,trivial⟩ ?_);exact ak (v - 1) (by omega) (by omega)
theorem JO.ZN(K:b.roundOf=none)(O:s.q=false)(h:JO (HV P) (Iz P 0) b n M ds cs .quiet):
  JO (AR P false) (Stop P F .HG) b n M (dcall L.done #[.pointer (some F.sA)]::ds) cs s:=by
 refine JO.enter (vs:= [.pointer (some F.sA)]) K H.f_done (nm_done L) rfl (Nat.le_of_ble_eq_true rfl) λT U todo=>JL.go 2 rfl (UW H O rfl rfl rfl rfl rfl ?_);exact JL.done (JL.out rfl (JO.leaveD rfl H.f_done rfl (.inl rfl) (h T U todo)))
end
end Pal
namespace Pal
open Go Go.Conc
section
variable {P:Program}{J:Judge P}{Q:Gs_}{g:Goroutine}{cs:Lf_}{c:Frame}{E H:LH}{S S':List Seg}
theorem MN(K:S.flatten.Perm S'.flatten)(O:Aq E H S)(h:Aq E H S'->J.ok Q g (Ak E H S')):J.ok Q g (Ak E H S):=by
 have U:Ak E H S=Ak E H S':=EV O K;rw [U];exact h (Nd.perm O K)
theorem OE(K:S'.flatten=S.flatten)(O:Aq E H S)(h:Aq E H S'->J.ok Q g (Ak E H S')):J.ok Q g (Ak E H S):=MN (by rw [K]) O h
theorem VM{f:FuncId}{vs:Lv_}{seg:Seg}{R:Value->LH->Seg->Prop}(j:Nat)(ac:AL J f vs E seg R)(K:Aq E H S)(O:S[j]? =some seg)
  (ae:∀v E' seg',Le E E'->R v E' seg'->Aq E' H (S.set j seg')->J.ok Q (G (c.finish v) cs) (Ak E' H (S.set j seg'))):
  J.ok Q (G (Frame.enter P f vs.toArray .normal) (c::cs)) (Ak E H S):=by
 have U:S.flatten.Perm (seg++(S.set j []).flatten):=(DZ (seg':=seg) O).1.trans List.perm_append_comm;have Y:Nd E H (seg++(S.set j []).flatten):=Nd.perm K U;have ag:Ak E H S=mk E (Bf (S.set j []).flatten H) seg:=by
  rw [show Ak E H S=mk E H S.flatten from rfl,EV K U];unfold mk;rw [FQ]
 have Z:=Ez.K4 (ac (Bf (S.set j []).flatten H) (Nd.front Y)) (by rintro v s' ⟨E',B',_,_,_,rfl⟩;rfl);rw [← ag] at Z;refine Z Q c cs ?_;rintro v aq ⟨⟨E',B',hle,ah,ai,rfl⟩,w,aj⟩;have e2:mk E' (Bf (S.set j []).flatten H) B'=mk E' H (B'++(S.set j []).flatten):=by unfold mk;rw [FQ]
 have ak:Nd E H (S.set j []).flatten:=by
  have:=Y;rw [Nd.iff] at this ⊢;rw [List.map_append,List.nodup_append] at this;exact⟨this.1.2.1,λq al=>this.2 q (List.mem_append_right _ al)⟩
 have am:Nd E' H (S.set j []).flatten:=ak.grow λx an=>by
  have ao:=aj.d x an;have ap:Bf B' (Bf (S.set j []).flatten H) x=none:=ao;exact(HP ap).1
 have aa:Nd E' H (B'++(S.set j []).flatten):=Nd.glue ai am;rw [e2];have ab:(B'++(S.set j []).flatten).Perm (S.set j B').flatten:=List.perm_append_comm.trans (DZ O).2.symm;rw [EV aa ab];exact ae v E' B' hle ah (Nd.perm aa ab)
end
section
variable {P:Program}{J:Judge P}{Q:Gs_}{b:Frame}{n:Nat}{L:Env}{ds:Ld_}{k:Li_}{cs:Lf_}{E H:LH}{S:List Seg}{ops:Ao_}{i:Nat}{rest:List Nat}{d:Option Tmp}{t ty e:TypeId}{p:String}{af:Ae_}{g:On_}
end
theorem Uu{E H:LH}{a b c:Nat}{K O U:Obj}(aa:Aq E H [[(a,K)],[(b,O)],[(c,U)]]):(⟨E,Jk (Ak E H [[(a,K)],[(b,O)],[(c,U)]]).H b a c,false⟩:St)=Ak E H []:=by
 have h:=Nd.iff.1 aa;have ab:H a=none:=(h.2 (a,K) (by simp)).2;have ac:H b=none:=(h.2 (b,O) (by simp)).2;have ae:H c=none:=(h.2 (c,U) (by simp)).2;unfold Ak mk;congr 1;funext x;simp only [Jk,Ak,mk,List.flatten_cons,List.flatten_nil,List.append_nil,List.cons_append,List.nil_append,Bf];by_cases Y:x=a
 ·subst Y;simp [ab]
 ·by_cases e2:x=b
  ·subst e2;simp [ac]
  ·by_cases Z:x=c
   ·subst Z;simp [ae]
   ·simp [Y,e2,Z]
end Pal
namespace Pal
open Go Go.Conc
theorem Gv{P:Program}{J:Judge P}{Q:Gs_}{b:Frame}{n:Nat}{L:Env}{ds:Ld_}{cs:Lf_}{E H:LH}{S:List Seg}{todo:Li_}{A B:Seg}(j K:Nat)(O:S[j]? =some A)(Z:(S.set j [])[K]? =some B)(aa:Aq E H S)
  (h:Aq E H (((S.set j []).set K []).set j (A++B))->JL J Q b n L ds todo cs (Ak E H (((S.set j []).set K []).set j (A++B)))):JL J Q b n L ds todo cs (Ak E H S):=by
 refine JS.perm ?_ aa h;have U:j<S.length:=(List.getElem?_eq_some_iff.1 O).1;have ab:=(DZ (seg':=A) O).1;have ac:=(DZ (seg':=B) Z).1;have ae:((S.set j []).set K [])[j]? =some []:=by
  by_cases e:K=j
  ·subst e;rw [List.getElem?_set_self (by simpa using U)]
  ·rw [List.getElem?_set_ne e,List.getElem?_set_self U]
 have Y:=(DZ (seg':=A++B) ae).2;have ag:(((S.set j []).set K []).set j [])=(S.set j []).set K []:=by
  by_cases e:K=j
  ·subst e;simp
  ·rw [List.set_comm _ _ e];simp
 rw [ag] at Y;refine ab.trans (List.Perm.trans ?_ Y.symm);refine(List.Perm.append_right A ac).trans ?_;rw [List.append_assoc];exact List.Perm.append_left _ List.perm_append_comm
end Pal
namespace Pal
open Go Go.Conc
def WL{α:Type}(e:TypeId)(pp:Rp α)(E:LH)(bk c n:Nat)(f:Av_)(xs:List α):Prop:=
 OL e pp E (some ⟨bk,0,none⟩) c [(bk,.cells f e (0,0))] xs/\xs.length=n
theorem WL.Ag{α:Type}{e:TypeId}{pp:Rp α}{E E':LH}{bk c n:Nat}{f:Av_}{xs:List α}(h:WL e pp E bk c n f xs)(hle:Le E E'):WL e pp E' bk c n f xs:=⟨h.1.Ag hle,h.2⟩
theorem WL.at{α:Type}{e:TypeId}{pp:Rp α}{E:LH}{bk c n:Nat}{f:Av_}{xs:List α}{m:Int}{x:α}(h:WL e pp E bk c n f xs)(hm:ix xs m=some x):
  ∃ws,pp.r E ws x/\(∀j w,ws[j]? =some w->f[m.toNat*pp.n+j]? =some w):=by
 obtain⟨ws,K,O,_,_⟩:=OL.again h.1 hm rfl;exact⟨ws,K,O⟩
theorem WL.put{α:Type}{e:TypeId}{pp:Rp α}{E:LH}{bk c n:Nat}{f:Av_}{xs O:List α}{m:Int}{x0 x':α}{ws':Lv_}(h:WL e pp E bk c n f xs)(U:O.length=n)(hm:ix O m=some x0)(Y:pp.r E ws' x'):
  WL e pp E bk c n (Bb f (m.toNat*pp.n) ws') (xs.set m.toNat x')/\m.toNat*pp.n+pp.n<=f.size:=by
 obtain⟨K,rfl,Z⟩:=FR hm;have aa:K<xs.length:=by rw [h.2,← U];exact(List.getElem?_eq_some_iff.1 Z).1
 have ab:ix xs (K:Int)=some xs[K]:=by simp [ix,aa]
 obtain⟨ws,ag,ah,ac,ae⟩:=OL.again h.1 ab rfl;exact⟨⟨ae x' ws' Y,by rw [List.length_set];exact h.2⟩,ac⟩
theorem OL.cases{α:Type}{e:TypeId}{pp:Rp α}{E:LH}{a:Option Addr}{c:Nat}{seg:Seg}{xs:List α}(h:OL e pp E a c seg xs):
  (a=none/\c=0/\seg= []/\xs= [])∨∃bk f,a=some ⟨bk,0,none⟩/\seg= [(bk,.cells f e (0,0))]/\WL e pp E bk c xs.length f xs:=by
 have Y:=h;obtain⟨wss,Z,ab,ac⟩:=h;rcases Z with⟨K,O,U,aa,ae⟩ | ⟨bk,f,K,O,U⟩
 ·exact .inl ⟨K,U,aa,List.length_eq_zero_iff.1 O⟩
 ·subst K O;exact .inr ⟨bk,f,rfl,rfl,Y,rfl⟩
theorem WL.of{α:Type}{e:TypeId}{pp:Rp α}{E:LH}{a:Option Addr}{c:Nat}{seg:Seg}{xs:List α}{m:Int}{x:α}(h:OL e pp E a c seg xs)(hm:ix xs m=some x):
  ∃bk f,(a=some ⟨bk,0,none⟩/\seg= [(bk,.cells f e (0,0))])/\WL e pp E bk c xs.length f xs:=by
 rcases OL.cases h with⟨_,_,_,rfl⟩ | ⟨bk,f,K,O,U⟩
 ·obtain⟨k,_,h⟩:=FR hm;simp at h
 ·exact⟨bk,f,⟨K,O⟩,U⟩
theorem Fg{P:Program}{s:St}{ρ:Operand->Value}{x y:Operand}{d:Option Tmp}{t ty e:TypeId}{p:String}{af:Ae_}{g:On_}{kd:IntKind}{α:Type}{xs:List α}{xv:α}{m:Int}{bk c K n:Nat}(O:xs.length=n)(hm:ix xs m=some xv)(U:P.underlying t=some (.slice e))(Y:Bl P e=some K)(Z:ρ x= .slice (some ⟨bk,0,none⟩) n c)(aa:ρ y= .int kd m):
  Yl P ⟨d,.indexAddr t x y,ty,p,af,g⟩ ρ s (.pointer (some ⟨bk,m.toNat*K,none⟩)):=by
 subst O;exact Wd hm U Y Z aa
theorem RI{P:Program}{s:St}{ρ:Operand->Value}{x:Operand}{d:Option Tmp}{t ty e:TypeId}{p:String}{af:Ae_}{g:On_}{α:Type}{xs:List α}{a:Option Addr}{n c:Nat}{ats:Array TypeId}(K:xs.length=n)(O:ats[0]? =some t)(U:P.underlying t=some (.slice e))(Y:ρ x= .slice a n c):
  Yl P ⟨d,.call ⟨.builtin .len,#[x],ats⟩,ty,p,af,g⟩ ρ s (.int .i64 (xs.length:Int)):=by
 subst K;exact Yl.len O U Y
section
variable {P:Program}{J:Judge P}{Q:Gs_}{b:Frame}{n:Nat}{ds:Ld_}{ops:Ao_}{k:Li_}{cs:Lf_}{m fuel:Nat}{D:Nat->Bool}{listed:Array Bool}{L:Env}{s:St}{E E' H:LH}{S:List Seg}
variable {d:Option Tmp}{x y:Operand}{t u ty e:TypeId}{p:String}{af:Ae_}{g:On_}{v:Value}{i:Nat}{kd:IntKind}
theorem U0{f:FuncId}{args:Array Operand}{ats:Array TypeId}{vs:Lv_}{R:Value->St->Prop}(U:s.q=false)(Y:Region.ready .any ops listed= [i])
  (Z:ops[i]? =some ⟨d,.call ⟨.value x,args,ats⟩,ty,p,af,g⟩) (aa:ev L x=some (.func (.func f) #[] #[])) (ab:Bg n d=true) (hw:AM L ops ⟨d,.call ⟨.value x,args,ats⟩,ty,p,af,g⟩=some true) (hb:De P f=true) (ac:evs L args.toList=some vs)
  (ae:Ez J f vs.toArray s R) (h:∀v K,R v K->K.q=false/\(∀x o,(Br D s).E x=some o->(Br D K).E x=some o)/\AN J Q b n ds ops k cs m D fuel (A6 listed i) (Au L d v) K):
  AN J Q b n ds ops k cs m D (fuel+1) listed L s:=by
 refine AN.one U Y Z (by simp [DG,ab]) hw λρ O=>?_;have ag:args.map ρ=vs.toArray:=by
  rw [← Gf O ac];apply Array.ext';simp
 have ah:ρ x= .func (.func f) #[] #[]:=O _ _ aa;simp only [execOp,resolve,bind,Sem.bind,Deferred.ofValue,ah,pure,invoke];have e: #[]++args.map ρ++ #[]=vs.toArray:=by rw [ag];simp
 rw [e];refine Io hb ?_;rw [KB];exact⟨R,ae,h⟩
theorem Jh{bks:List Nat}{f:FuncId}{args:Array Operand}{ats:Array TypeId}{vs:Lv_}{R:Value->LH->Seg->Prop}(ae:HB S bks)(ag:AL J f vs E [] R)(ah:Region.ready .any ops listed= [i])
  (ai:ops[i]? =some ⟨d,.call ⟨.value x,args,ats⟩,ty,p,af,g⟩) (K:ev L x=some (.func (.func f) #[] #[])) (aj:Bg n d=true) (hw:AM L ops ⟨d,.call ⟨.value x,args,ats⟩,ty,p,af,g⟩=some true) (hb:De P f=true) (ak:evs L args.toList=some vs) (Z:Aq E H S)
  (al:∀v E' seg',Le E E'->R v E' seg'->Aq E' H (S++ [seg'])->AN J Q b n ds ops k cs m (AT bks) fuel (A6 listed i) (Au L d v) (Ak E' H (S++ [seg']))):
  AN J Q b n ds ops k cs m (AT bks) (fuel+1) listed L (Ak E H S):=by
 have am:=Ez.K4 (ag (Bf S.flatten H) trivial) (by rintro v s' ⟨E',B',_,_,_,rfl⟩;rfl);refine U0 rfl ah ai K aj hw hb ak am ?_;rintro v aw ⟨⟨E',B',hle,an,ao,rfl⟩,w,ap⟩;have e2:mk E' (Bf S.flatten H) B'=mk E' H (B'++S.flatten):=by unfold mk;rw [FQ]
 have aq:Nd E' H S.flatten:=Nd.grow Z λx K=>by
  have ar:=ap.d x K;have U:Bf B' (Bf S.flatten H) x=none:=ar;exact(HP U).1
 have aa:Nd E' H (B'++S.flatten):=Nd.glue ao aq;have ab:(B'++S.flatten).Perm (S++ [B']).flatten:=by rw [GY];exact List.perm_append_comm
 have ac:Aq E' H (S++ [B']):=Nd.perm aa ab;rw [e2,EV aa ab];refine⟨rfl,λx o K=>?_,al v E' B' hle an ac⟩;by_cases hd:AT bks x=true
 ·obtain⟨j,o',Y⟩:=ae.mem x (by simpa [AT] using hd);have U:(Ak E H S).get x=some o':=Dw (i:=0) Z Y rfl;have au:j<S.length:=(List.getElem?_eq_some_iff.1 Y).1;have av:(Ak E' H (S++ [B'])).get x=some o':=Dw (i:=0) ac (by rw [List.getElem?_append_left au];exact Y) rfl;have O:(if AT bks x then(Ak E H S).get x else E x)=some o:=K
  show(if AT bks x then(Ak E' H (S++ [B'])).get x else E' x)=some o
  rw [if_pos hd] at O ⊢;rw [av,← U];exact O
 ·have O:(if AT bks x then(Ak E H S).get x else E x)=some o:=K
  show(if AT bks x then(Ak E' H (S++ [B'])).get x else E' x)=some o
  rw [if_neg hd] at O ⊢;exact hle _ _ O
end
section
variable {P:Program}{J:Judge P}{Q:Gs_}{b:Frame}{n:Nat}{ds:Ld_}{ops:Ao_}{k:Li_}{cs:Lf_}{L:Env}{s:St}{E E' H:LH}{S:List Seg}
variable {d:Option Tmp}{x y:Operand}{t u ty e:TypeId}{p:String}{af:Ae_}{g:On_}{v:Value}{i:Nat}{rest:List Nat}{kd:IntKind}
theorem J7{f:FuncId}{args:Array Operand}{ats:Array TypeId}{vs:Lv_}{R:Value->LH->Seg->Prop}
  (O:AL J f vs E [] R) (U:ops[i]? =some ⟨d,.call ⟨.value x,args,ats⟩,ty,p,af,g⟩) (Y:ev L x=some (.func (.func f) #[] ([]:Lv_).toArray)) (hw:AM L ops ⟨d,.call ⟨.value x,args,ats⟩,ty,p,af,g⟩=some true) (Z:((b.kind != .early)&&Bg n d)=true) (hb:De P f=true)
  (aa:evs L args.toList=some vs) (ab:Aq E H S) (ac:∀v E' seg',Le E E'->R v E' seg'->Aq E' H (S++ [seg'])->JL J Q b n (Au L d v) ds (.inRegion ops rest::k) cs (Ak E' H (S++ [seg']))):
  JL J Q b n L ds (.inRegion ops (i::rest)::k) cs (Ak E H S):=by
 have ae:EI J (.func (.func f) #[] ([]:Lv_).toArray) vs E [] R:=EI.ofFn hb (by rw [List.append_nil];exact O);have ag:Aq E H (S++ [[]]):=by unfold Aq at*;rw [GY,List.append_nil];exact ab
 have ah:Ak E H S=Ak E H (S++ [[]]):=by unfold Ak;rw [GY,List.append_nil]
 rw [ah];refine IT (seg:= []) S.length ae U hw Z Y aa ag (by simp) λv E' seg' hle ai K=>?_;have aj:(S++ [([]:Seg)]).set S.length seg'=S++ [seg']:=IY _ _ _ _;rw [aj] at K ⊢;exact ac v E' seg' hle ai K
end
def K5(a b:Int):Option Int:=if b=0 then none else Av (a.tdiv b)
def PC(l:List Nat)(i:Int):Option Nat:=if 0<=i then l[i.toNat]? else none
section
variable {P:Program}{s:St}{ρ:Operand->Value}{x y z:Operand}{d:Option Tmp}{t u ty e:TypeId}{p:String}{af:Ae_}{g:On_}{v:Value}{kd kd':IntKind}{m m':Int}{a b:Nat}
theorem MO{r:Int}(K:ρ x=iV m)(O:ρ y=iV m')(h:K5 m m'=some r):Yl P ⟨d,.binOp .quo t x y u,ty,p,af,g⟩ ρ s (iV r):=by
 unfold K5 at h;split at h
 ·cases h
 ·rename_i U;obtain⟨rfl,hb⟩:=KC h;have:=Yl.quo (P:=P) (s:=s) (d:=d) (t:=t) (u:=u) (ty:=ty) (p:=p) (af:=af) (g:=g) K O U
  rwa [Jg hb] at this
theorem Z2{a:Nat}:IntKind.u8.wrap (a:Int)=((a % 256:Nat):Int):=by
 simp only [IntKind.wrap,IntKind.bits,IntKind.signed];simp
theorem WT(K:P.underlying t=some (.int .u64))(hu:P.underlying u=some (.int .u8))(O:ρ x= .int .u64 (a:Int)):Yl P ⟨d,.convert t u x,ty,p,af,g⟩ ρ s (.int .u8 ((a % 256:Nat):Int)):=by
 have h:=EU (P:=P) (s:=s) (d:=d) (ty:=ty) (p:=p) (af:=af) (g:=g) K hu O
 rw [Z2] at h;exact h
theorem WX{r:Int}(K:P.underlying t=some (.int .u8))(hu:P.underlying u=some (.int .i64))(O:ρ x= .int .u8 (a:Int))(h:Av ((a:Nat):Int)=some r):Yl P ⟨d,.convert t u x,ty,p,af,g⟩ ρ s (iV r):=by
 obtain⟨rfl,hb⟩:=KC h;have h:=EU (P:=P) (s:=s) (d:=d) (ty:=ty) (p:=p) (af:=af) (g:=g) K hu O
 rwa [Jg hb] at h
theorem UG{l:List Nat}{bs:ByteArray}{r:Nat}(O:(bs.data.toList.map UInt8.toNat==l)=true)(U:P.underlying t=some .string)(Y:ρ y= .int kd m)(Z:ρ (.const (.string bs))= .string bs)(h:PC l m=some r):Yl P ⟨d,.index t (.const (.string bs)) y,ty,p,af,g⟩ ρ s (.int .u8 (r:Int)):=by
 unfold PC at h;split at h
 ·rename_i aa;have ab:=eq_of_beq O;rw [← ab,List.getElem?_map] at h;obtain⟨K,hb,rfl⟩:=Option.map_eq_some_iff.1 h;have ac:bs[m.toNat]? =some K:=by
   have ae:bs.data[m.toNat]? =some K:=by rw [← Array.getElem?_toList];exact hb
   obtain⟨ag,ah⟩:=Array.getElem?_eq_some_iff.1 ae;rw [getElem?_pos bs m.toNat ag];exact congrArg some ah
  simp [Yl,execOp,lp,pure,bind,Sem.bind,Z,Y,Instr.index,underlying,program,U,aa,ac,asIntOf]
 ·cases h
end
end Pal
namespace Pal
open Go Go.Conc
section
variable {P:Program}(J:Judge P)(Q:Gs_)(b:Frame)(ds:Ld_)(ops:Ao_)(k:Li_)(cs:Lf_)(X D:Nat->Bool)
def JB:Nat->Array Bool->Av_->St->Prop
 | 0,listed,T,s=>Region.ready .any ops listed= []/\J.ok Q (G (fr b T ds (.inRegion ops []::k)) cs) s
 | fuel+1,listed,T,s=>
  Region.ready .any ops listed≠ []/\s.q=false/\∀i∈Region.ready .any ops listed,∀o,ops[i]? =some o->(∀c,o.op≠ .defer c)/\
   (Region.wanted o (yielded ops T)=false->JB fuel (A6 listed i) (Cx T o.dst undef) s)/\
   (Region.wanted o (yielded ops T)=true->X i=true->lp P (execOp (Bs T) o) s (λK s'=>match K with
    | .value v=>JB fuel (A6 listed i) (Cx T o.dst v) s'
    | .skip=>JB fuel (A6 listed i) (Cx T o.dst undef) s'
    | _=>False) (λ_ _=>False))/\
   (Region.wanted o (yielded ops T)=true->X i=false->lp P (execOp (Bs T) o) (Br D s) (λK s'=>match K with
    | .value v=>JB fuel (A6 listed i) (Cx T o.dst v) (Ck D s s')
    | .skip=>JB fuel (A6 listed i) (Cx T o.dst undef) (Ck D s s')
    | _=>False) (λ_ _=>False))
variable {J Q b ds ops k cs X D}
theorem VL(Z:b.kind≠ .early):∀(fuel t:Nat) (listed:Array Bool) (T:Av_) (s:St),JB J Q b ds ops k cs X D fuel listed T s->
  J.ok Q (G (fr b T ds (.inRegion ops (Region.linearise.go .any ops fuel t listed [])::k)) cs) s:=by
 intro fuel
 induction fuel with
 | zero=>intro t listed T s h;simpa [Region.linearise.go] using h.2
 | succ fuel O=>
  intro t listed T s h;obtain⟨ac,ae,h⟩:=h;obtain⟨i,hi⟩:∃i,(Region.ready .any ops listed)[t % (Region.ready .any ops listed).length]? =some i:=by
   have:0<(Region.ready .any ops listed).length:=List.length_pos_iff.2 ac;exact⟨_,List.getElem?_eq_getElem (Nat.mod_lt _ this)⟩
  have aa:=List.mem_of_getElem? hi;have hgo:Region.linearise.go .any ops (fuel+1) t listed []=i::Region.linearise.go .any ops fuel (t / (Region.ready .any ops listed).length) (A6 listed i) []:=by
   simp only [Region.linearise.go];change (match(Region.ready .any ops listed)[t % (Region.ready .any ops listed).length]? with
    | some i=>Region.linearise.go .any ops fuel (t / (Region.ready .any ops listed).length) (listed.setIfInBounds i true) [i]
    | none=> [].reverse)=_
   rw [hi];simp only;rw [linearise_go_acc];rfl
  rw [hgo];obtain⟨_,o,U,_⟩:=mem_ready.1 aa;obtain⟨hd,ag,ah,ai⟩:=h i aa o U;cases hw:Region.wanted o (yielded ops T) with
  | false=>exact Judge.unwanted U hw (O _ _ _ _ (ag hw))
  | true=>
   cases ab:X i with
   | true=>
    refine Judge.oper U hw Z (.inr hd) (Ec _ (ah hw ab) ?_ (λ_ _ h=>h.elim));intro Y s' K;cases Y with
    | value v=>exact O _ _ _ _ K
    | skip=>exact O _ _ _ _ K
    | _=>exact K.elim
   | false=>
    refine Judge.RL D U hw Z hd ae (Ec _ (ai hw ab) ?_ (λ_ _ h=>h));intro Y s' K;cases Y with
    | value v=>exact O _ _ _ _ K
    | skip=>exact O _ _ _ _ K
    | _=>exact K.elim
def waitAll(ops:Ao_)(X:Nat->Bool)(i:Nat):Bool:=(List.range ops.size).all λj=> !X j || waits ops ops.size j i
theorem Sa{D:Nat->Bool}{s s':St}(K:s'.E=(Br D s).E){x:Nat}{o:Obj}(h:s.E x=some o):(Ck D s s').E x=some o:=by
 by_cases hd:D x
 ·simp [Ck,hd,h]
 ·have:=congrFun K x;simp [Br,hd] at this;simp [Ck,hd,this,h]
theorem Q2{i:Nat}{oi:Oper}{w pure:Bool}{v:Value}(hi:ops[i]? =some oi)(aY:X i=false)(aO:(pure || waitAll ops X i)=true)(aZ:Region.noSelect ops=true)(a0:∀c,oi.op≠ .defer c):
  ∀(fuel:Nat) (listed:Array Bool) (T:Av_) (s:St),Iu ops listed i oi=true->Hv ops listed=true->listed.size=ops.size->i∈Region.ready .any ops listed->s.q=false->Region.wanted oi (yielded ops T)=w->
   (w=true->∀s',s'.q=false->(∀x o,s.E x=some o->s'.E x=some o)->(pure=false->∀x o,(Br D s).E x=some o->s'.E x=some o)->Yl P oi (Bs T) s' v)->
   JB J Q b ds ops k cs X D fuel (A6 listed i) (Cx T oi.dst (if w then v else undef)) s->JB J Q b ds ops k cs X D (fuel+1) listed T s:=by
 have ai:∀(j:Nat) (ae:Oper),ops[j]? =some ae->∀cs b,ae.op≠Op.select cs b:=λj ae h cs b=>Region.noSelect_spec aZ j ae cs b h;intro fuel
 induction fuel with
 | zero=>?_
 | succ fuel an=>?_
 all_goals
  intro listed T s aP aQ ao aD ap hw aj h;refine⟨λe=>(by rw [e] at aD;cases aD),ap,λj aR ae U=>?_⟩;by_cases aq:j=i
  ·subst aq;obtain rfl:ae=oi:=by rw [hi] at U;exact(Option.some.inj U).symm
   refine⟨a0,λO=>?_,λak K=>?_,λak K=>?_⟩
   ·rw [O] at hw;subst hw;exact h
   ·rw [aY] at K;cases K
   ·rw [ak] at hw;subst hw;refine Ec _ (aj rfl (Br D s) ap (λx o h=>by unfold Br;simp only;split;(· unfold St.get;rw [h]);exact h) λ_ _ _ h=>h).out ?_ (λ_ _ h=>h);rintro aE s' ⟨rfl,rfl⟩;rw [KB];exact h
  ·
   have aS:j∈Region.ready .any ops (A6 listed i):=ready_mono aR aq;obtain⟨al,Y,aT,aG⟩:=mem_ready.1 aR;obtain rfl:Y=ae:=by rw [U] at aT;exact(Option.some.inj aT).symm
   have aH:=(mem_ready.1 aD).1;have a2:(Y.after.any λe=>Region.binds .any e&&e.on==i)=false:=by
    rw [Array.any_eq_false];intro e he K;simp only [Bool.and_eq_true,beq_iff_eq] at K;have:=aG _ (Array.getElem_mem he) K.1;rw [K.2] at this;have am:listed.getD i true=listed.getD i false∨listed.size<=i:=by
     rcases Nat.lt_or_ge i listed.size with q | q
     ·left;simp [Array.getD_eq_getD_getElem?,q]
     ·exact .inr q
    rcases am with am | am
    ·rw [aH,this] at am;cases am
    ·rw [Array.getD_eq_getD_getElem?,Array.getElem?_eq_none am] at this;simp at this
   have a3:oi.apart ops Y=true:=by
    have aI:j<ops.size:=(Array.getElem?_eq_some_iff.1 U).1;have:=List.all_eq_true.1 aP j (List.mem_range.2 aI);simp only [Bool.or_eq_true,beq_iff_eq] at this;rcases this with(q | q) | q
    ·exact absurd q aq
    ·rw [al] at q;cases q
    ·rw [U] at q;simp only [Bool.or_eq_true] at q;rw [a2] at q;exact q.resolve_left (by simp)
   obtain⟨a1,ar,au⟩:=Oper.apart_spec a3;obtain⟨aU,p2⟩:=HS (ops:=ops) (T:=T) (v:=if w then v else undef) (ai j Y U) a1
   first
    | exact absurd aS (by rw [h.1];simp)
    | (
     obtain⟨bf,_,h⟩:=h
     obtain⟨hd,O,a4,a5⟩:=h j aS Y U
     have av:A6 (A6 listed i) j=A6 (A6 listed j) i:=by
      unfold A6;exact Array.setIfInBounds_comm _ _ (Ne.symm aq)
     have aw:i∈Region.ready .any ops (A6 listed j):=ready_mono aD (Ne.symm aq)
     have ay:Iu ops (A6 listed j) i oi=true:=by
      refine List.all_eq_true.2 λx K=>?_
      have:=List.all_eq_true.1 aP x K
      simp only [Bool.or_eq_true,beq_iff_eq] at this ⊢
      rcases this with(q | q) | q
      ·exact .inl (.inl q)
      ·left;right
       by_cases e:j=x
       ·subst e;rw [al] at q;cases q
       ·rw [A6,getD_set_ne true e];exact q
      ·exact .inr q
     have az:(A6 listed j).size=ops.size:=by unfold A6;simpa using ao
     have aA:Hv ops (A6 listed j)=true:=by
      refine List.all_eq_true.2 λx K=>?_
      cases aJ:ops[x]? with
      | none=>simp
      | some a6=>
       simp only [Bool.or_eq_true,Bool.not_eq_true']
       by_cases e:j=x
       ·subst e
        obtain rfl:a6=Y:=by rw [U] at aJ;exact(Option.some.inj aJ).symm
        right
        refine Array.all_eq_true'.2 λe he=>?_
        cases hb:Region.binds .any e with
        | false=>simp
        | true=>
         have:=aG e he hb
         by_cases e2:j=e.on
         ·rw [← e2] at this
          have aK:j<listed.size:=by rw [ao];exact(Array.getElem?_eq_some_iff.1 U).1
          simp [Array.getD_eq_getD_getElem?,aK] at this al
          rw [al] at this;cases this
         ·rw [A6,getD_set_ne false e2];simpa using this
       ·cases aV:(A6 listed j).getD x false with
        | false=>exact .inl rfl
        | true=>
         right
         have a7:listed.getD x false=true:=by rw [A6,getD_set_ne false e] at aV;exact aV
         refine Array.all_eq_true'.2 λaL he=>?_
         cases hb:Region.binds .any aL with
         | false=>simp
         | true=>
          have:=NT aQ aJ a7 aL he hb
          by_cases e2:j=aL.on
          ·rw [← e2] at this
           have aK:j<listed.size:=by rw [ao];exact(Array.getElem?_eq_some_iff.1 U).1
           simp [Array.getD_eq_getD_getElem?,aK] at this al
           rw [al] at this;cases this
          ·rw [A6,getD_set_ne false e2];simpa using this
     refine⟨hd,λa8=>?_,λaM aF=>?_,λaM aF=>?_⟩
     ·have:=O (by rw [p2];exact a8)
      rw [av,IP ar] at this
      obtain⟨Z,aa⟩:=HS (ops:=ops) (T:=T) (d:=Y.dst) (v:=undef) (o:=oi) (ai i oi hi) au
      exact an _ _ _ ay aA az aw ap (by rw [aa];exact hw) (λab s' a9 O ac=>by unfold Yl;rw [Z];exact(aj ab s' a9 O ac).out) this
     ·
      have ba:pure=true:=by
       cases bb:pure with
       | true=>rfl
       | false=>
        exfalso
        rw [bb,Bool.false_or] at aO
        have aI:j<ops.size:=(Array.getElem?_eq_some_iff.1 U).1
        have ak:=List.all_eq_true.1 aO j (List.mem_range.2 aI)
        rw [aF] at ak
        simp only [Bool.not_true,Bool.false_or] at ak
        rcases PV aQ _ j Y U (λe he hb=>aG e he hb) ak with q | ⟨x,Z,aa⟩
        ·have be:i<listed.size:=by rw [ao];exact(Array.getElem?_eq_some_iff.1 hi).1
         simp [Array.getD_eq_getD_getElem?,be] at q aH
         rw [aH] at q;cases q
        ·have:¬x<listed.size:=by rw [ao];intro K;simp [K] at Z
         simp [Array.getD_eq_getD_getElem?,this] at aa
      have aB:=Ny _ (a4 (by rw [p2];exact aM) aF)
      rw [aU] at aB
      refine Ec _ aB ?_ (λ_ _ h=>h)
      rintro aE s' ⟨K,ac,aN⟩
      have aC:s'.q=false:=aN.trans ap
      have aW:pure=false->∀{α:Prop},α:=λe=>by rw [ba] at e;cases e
      cases aE with
      | value u=>
       simp only at K ⊢
       rw [av,IP ar] at K
       obtain⟨Z,aa⟩:=HS (ops:=ops) (T:=T) (d:=Y.dst) (v:=u) (o:=oi) (ai i oi hi) au
       exact an _ _ _ ay aA az aw aC (by rw [aa];exact hw) (λab s2 ag O ah=>by unfold Yl;rw [Z];exact(aj ab s2 ag (λx o h=>O x o (by rw [ac];exact h)) (λe=>aW e)).out) K
      | skip=>
       simp only at K ⊢
       rw [av,IP ar] at K
       obtain⟨Z,aa⟩:=HS (ops:=ops) (T:=T) (d:=Y.dst) (v:=undef) (o:=oi) (ai i oi hi) au
       exact an _ _ _ ay aA az aw aC (by rw [aa];exact hw) (λab s2 ag O ah=>by unfold Yl;rw [Z];exact(aj ab s2 ag (λx o h=>O x o (by rw [ac];exact h)) (λe=>aW e)).out) K
      | _=>exact K.elim
     ·have aB:=Ny _ (a5 (by rw [p2];exact aM) aF)
      rw [aU] at aB
      refine Ec _ aB ?_ (λ_ _ h=>h)
      rintro aE s' ⟨K,ac,aN⟩
      have aX:=P8 (D:=D) ac
      have aC:(Ck D s s').q=false:=by show s'.q=false;rw [aN];exact ap
      cases aE with
      | value u=>
       simp only at K ⊢
       rw [av,IP ar] at K
       obtain⟨Z,aa⟩:=HS (ops:=ops) (T:=T) (d:=Y.dst) (v:=u) (o:=oi) (ai i oi hi) au
       exact an _ _ _ ay aA az aw aC (by rw [aa];exact hw) (λab s2 ag O ah=>by unfold Yl;rw [Z];exact(aj ab s2 ag (λx o h=>O x o (Sa ac h)) (λe=>by rw [aX] at ah;exact ah e)).out) K
      | skip=>
       simp only at K ⊢
       rw [av,IP ar] at K
       obtain⟨Z,aa⟩:=HS (ops:=ops) (T:=T) (d:=Y.dst) (v:=undef) (o:=oi) (ai i oi hi) au
       exact an _ _ _ ay aA az aw aC (by rw [aa];exact hw) (λab s2 ag O ah=>by unfold Yl;rw [Z];exact(aj ab s2 ag (λx o h=>O x o (Sa ac h)) (λe=>by rw [aX] at ah;exact ah e)).out) K
      | _=>exact K.elim)
end
section
variable {P:Program}(J:Judge P)(Q:Gs_)(b:Frame)(n:Nat)(ds:Ld_)(ops:Ao_)(k:Li_)(cs:Lf_)(X D:Nat->Bool)
def FE(fuel:Nat)(listed:Array Bool)(L:Env)(s:St):Prop:=∀T,Has n L T->JB J Q b ds ops k cs X D fuel listed T s
end
theorem JB.take{i:Nat}{oi:Oper}{w pure:Bool}{v:Value}{P:Program}{J:Judge P}{Q:Gs_}{b:Frame}{ds:Ld_}{ops:Ao_}{k:Li_}{cs:Lf_}{X D:Nat->Bool}(hi:ops[i]? =some oi)(K:X i=false)(O:(pure || waitAll ops X i)=true)(U:Region.noSelect ops=true)(Y:∀c,oi.op≠ .defer c)
  (fuel:Nat) (listed:Array Bool) (T:Av_) (s:St) (Z:Iu ops listed i oi=true) (aa:Hv ops listed=true) (ab:listed.size=ops.size) (ac:i∈Region.ready .any ops listed) (ae:s.q=false) (ag:Region.wanted oi (yielded ops T)=w)
  (ah:w=true->∀s',s'.q=false->(pure=false->∀x o,(Br D s).E x=some o->s'.E x=some o)->Yl P oi (Bs T) s' v)
  (h:JB J Q b ds ops k cs X D fuel (A6 listed i) (Cx T oi.dst (if w then v else undef)) s):JB J Q b ds ops k cs X D (fuel+1) listed T s:=
 Q2 hi K O U Y fuel listed T s Z aa ab ac ae ag (λe s' ai _ aj=>ah e s' ai aj) h
def Jv(ops:Ao_)(listed:Array Bool)(xs:List Nat)(pure:Bool)(i:Nat):Bool:=match ops[i]? with
 | some oi=> !AT xs i&&(pure || waitAll ops (AT xs) i)&&Region.noSelect ops&& !DG oi.op&&Iu ops listed i oi&&Hv ops listed&&listed.size==ops.size&&(Region.ready .any ops listed).contains i
 | none=>false
section
variable {P:Program}{J:Judge P}{Q:Gs_}{b:Frame}{n:Nat}{ds:Ld_}{ops:Ao_}{k:Li_}{cs:Lf_}{fuel:Nat}{X D:Nat->Bool}{listed:Array Bool}{L:Env}{s:St}{E H:LH}{S:List Seg}{xl bks:List Nat}
variable {d:Option Tmp}{x y:Operand}{t u ty e:TypeId}{p:String}{af:Ae_}{g:On_}{v:Value}{i:Nat}{kd:IntKind}
theorem Hr(xl bks:List Nat){id:Nat}(hm:P.follows .mixedOrders=true)(K:(b.kind != .early)=true)
  (h:FE J Q b n ds ops k cs (AT xl) (AT bks) ops.size (Array.replicate ops.size false) L (Ak E H S)):JL J Q b n L ds (.code (.region id ops true)::k) cs (Ak E H S):=
 RN rfl hm λt T O=>VL (by simpa using K) ops.size t _ T _ (h T O)
theorem JB.val{oi:Oper}(i:Nat)(pure:Bool)(hi:ops[i]? =some oi)(K:Jv ops listed xl pure i=true)(Y:s.q=false)
  (hw:AM L ops oi=some true) (Z:Bg n oi.dst=true) (aa:∀ρ,EG L ρ->∀s':St,(pure=false->∀x o,(Br D s).E x=some o->s'.E x=some o)->Yl P oi ρ s' v)
  (h:FE J Q b n ds ops k cs (AT xl) D fuel (A6 listed i) (Au L oi.dst v) s):FE J Q b n ds ops k cs (AT xl) D (fuel+1) listed L s:=λT O=>by
 simp only [Jv,hi,Bool.and_eq_true] at K
 obtain⟨⟨⟨⟨⟨⟨⟨ab,ac⟩,ae⟩,U⟩,ag⟩,ah⟩,ai⟩,aj⟩:=K
 refine JB.take (w:=true) (v:=v) (pure:=pure) hi (by simpa using ab) ac ae (λc K=>by rw [K] at U;simp [DG] at U) fuel listed T s ag ah (by simpa using ai) (by simpa using aj) Y (BX O hw) (λ_ s' al ak=>aa _ O.FU s' ak) ?_
 exact h _ (O.put Z v)
theorem HY{oi:Oper}(i:Nat)(hi:ops[i]? =some oi)(K:Jv ops listed xl true i=true)(Y:s.q=false)
  (hw:AM L ops oi=some true) (Z:Bg n oi.dst=true) (aa:∀ρ,EG L ρ->∀s':St,(∀x o,s.E x=some o->s'.E x=some o)->Yl P oi ρ s' v)
  (h:FE J Q b n ds ops k cs (AT xl) D fuel (A6 listed i) (Au L oi.dst v) s):FE J Q b n ds ops k cs (AT xl) D (fuel+1) listed L s:=λT O=>by
 simp only [Jv,hi,Bool.and_eq_true] at K
 obtain⟨⟨⟨⟨⟨⟨⟨ab,ac⟩,ae⟩,U⟩,ag⟩,ah⟩,ai⟩,aj⟩:=K
 refine Q2 (w:=true) (v:=v) (pure:=true) hi (by simpa using ab) ac ae (λc K=>by rw [K] at U;simp [DG] at U) fuel listed T s ag ah (by simpa using ai) (by simpa using aj) Y (BX O hw) (λ_ s' al ak _=>aa _ O.FU s' ak) ?_
 exact h _ (O.put Z v)
theorem JB.fin(K:Region.ready .any ops listed= [])(h:JL J Q b n L ds k cs s):FE J Q b n ds ops k cs X D 0 listed L s:=λT O=>⟨K,JL.done h T O⟩
theorem JB.store{bk off:Nat}{c:Av_}(i j:Nat)(U:Region.ready .any ops listed= [i])(ab:AT xl i=true)(ac:ops[i]? =some ⟨d,.store t x y,ty,p,af,g⟩)(hw:AM L ops ⟨d,.store t x y,ty,p,af,g⟩=some true)(ae:Bg n d=true)(ag:Aq E H S)
  (ah:ev L x=some (.pointer (some ⟨bk,off,none⟩))) (ai:ev L y=some v) (aj:Bl P t=some v.cells.size) (ak:∀u∈v.cells.toList,CU u=true) (Y:S[j]? =some [(bk,.cells c e (0,0))]) (hle:off+v.cells.size<=c.size)
  (h:Aq E H (S.set j [(bk,.cells (Bb c off v.cells.toList) e (0,0))])->FE J Q b n ds ops k cs (AT xl) D fuel (A6 listed i) (Au L d undef) (Ak E H (S.set j [(bk,.cells (Bb c off v.cells.toList) e (0,0))]))):
  FE J Q b n ds ops k cs (AT xl) D (fuel+1) listed L (Ak E H S):=λT K=>by
 refine⟨by rw [U];simp,rfl,λau O o' Z=>?_⟩
 rw [U] at O
 simp at O
 subst O
 obtain rfl:o'=⟨d,.store t x y,ty,p,af,g⟩:=by rw [ac] at Z;exact(Option.some.inj Z).symm
 have al:=BX K hw;refine⟨λc am=>(by cases am),λe=>?_,λ_ _=>?_,λ_ e=>?_⟩
 ·rw [al] at e;cases e
 ·obtain⟨an,ao⟩:=G0 ag Y;rw [an];show lp P (do Instr.storeAt t (Bs T x) (Bs T y);pure Next.skip) _ _ _
  rw [K.ev ah,K.ev ai];refine As _ _ ?_;unfold Instr.storeAt;simp only [Instr.sureAddr,bind,Sem.bind,pure];refine P3 (pl:=(S.set j []).flatten.length) aj ak ao (c:=c) (e:=e) (by simp) hle λaa=>?_;have ap:((S.set j []).flatten++ [(bk,Obj.cells c e (0,0))]).set (S.set j []).flatten.length (bk,.cells (Bb c off v.cells.toList) e (0,0))=(S.set j []).flatten++ [(bk,.cells (Bb c off v.cells.toList) e (0,0))]:=IY _ _ _ _;rw [ap] at aa ⊢;obtain⟨aq,ar⟩:=I0 Y aa;rw [aq];exact h ar _ (K.put ae undef)
 ·rw [ab] at e;cases e
end
end Pal
namespace Pal
open Go Go.Conc
theorem Lh{E H:LH}{S:List Seg}{bks:List Nat}{bk o:Nat}{l ws:Lv_}{e:TypeId}{f:Nat×Nat}{s':St}{w:Value}(j:Nat)(K:Aq E H S)(O:S[j]? =some [(bk,.cells (l++ws).toArray e f)])(U:AT bks bk=true)(Y:∀x o,(Br (AT bks) (Ak E H S)).E x=some o->s'.E x=some o)(Z:ws[o]? =some w):s'.cell? ⟨bk,l.length+o,none⟩=some w:=by
 have:=Vl j K O U Y o w Z
 rwa [Dm rfl] at this
section
variable {P:Program}{E H:LH}{B:List (Nat×Obj)}{t e ty:TypeId}
theorem PS{ats:Array TypeId}{a:Option Addr}{l K O m cx:Nat}{ax:Option Addr}{xs ys:Lv_}{z:Value}{Q:Value->St->Prop}{X:Halt->St->Prop}
  (am:ats[0]? =some t) {t1 an:TypeId} (ao:ats[1]? =some t1) (ap:P.underlying t1=some (.slice an)) (aq:P.underlying t=some (.slice e)) (ar:Bl P e=some K) (hb:FB P e=some O) (au:zeroOf P e=some z) (av:z.cells.size=K)
  (aw:Nd E H B) (ac:HA (mk E H B) (.slice a l l) K xs)
  (Z:HA (mk E H B) (.slice ax m cx) K ys) (aG:∀w∈ys,CU w=true) (aH:0<O) (aI:l+m<=2 ^ 40) (ay:O<=64)
  (ak:m=0->Q (.slice a (l+m) l) (mk E H B))
  (az:∀r aa ae,l+m<=ae->aa.size=ae*K->aa.toList.take ((l+m)*K)=xs++ys->Nd E H (B++ [(r,.cells aa e (0,0))])->Q (.slice (some ⟨r,0,none⟩) (l+m) ae) (mk E H (B++ [(r,.cells aa e (0,0))]))):
  lp P (Builtin.append_ ats ty #[.slice a l l,.slice ax m cx]) (mk E H B) Q X:=by
 unfold Builtin.append_;simp only [am,ao,List.getElem?_toArray,List.getElem?_cons_zero,List.getElem?_cons_succ];refine As _ _ (Ce aq ?_);refine As _ _ (ED ar ?_);refine As _ _ (Ce ap ?_);simp only [HQ,Bool.false_eq_true,if_false,Builtin.lenOf,Bool.not_false,if_true];have ab:ys.length=m*K:=by
  cases ax with
  | none=>obtain⟨U,Y⟩:=Z;subst U Y;simp
  | some ad=>exact Z.2.1
 have ag:xs.length=l*K:=by
  cases a with
  | none=>obtain⟨U,Y⟩:=ac;subst U Y;simp
  | some ad=>exact ac.2.1
 obtain⟨c,aJ⟩:∃c,c=l:=⟨_,rfl⟩;split
 ·rename_i aK;have hm:m=0:=by omega
  have aA:ys= []:=List.eq_nil_of_length_eq_zero (by rw [ab,hm];simp);refine As _ _ (JX ⟨ax,cx,rfl⟩ Z ?_);subst aA;cases a with
  | none=>exact ak hm
  | some ad=>exact ak hm
 ·rename_i aL;have U:¬(((l+m:Nat):Int)>IntKind.i64.max/\(False∨O=0)):=by rintro⟨_,h | h⟩ <;> omega
  have Y:¬(Builtin.nextslicecap (l+m) l*O>2 ^ 48):=by
   have:=Qd (need:=l+m) (old:=l) (by omega);have aM:Builtin.nextslicecap (l+m) l*O<=(2*(l+m)+768)*64:=Nat.mul_le_mul this ay;omega
  obtain⟨inf,ah,ai⟩:=Ob hb;refine As _ _ (JZ ah ?_);rw [ai,if_neg U];refine As _ _ (JZ ah ?_);rw [ai,if_neg Y];refine As _ _ ?_;simp only [choose,lp,Question.forced,Bool.false_eq_true,if_false];refine⟨rfl,λaB=>?_⟩;generalize aC:(Question.appendCap (l+m) l e).cut aB=aj;have aD:l+m<=aj:=by rw [← aC];simp [Question.cut]
  refine As _ _ (JZ ah ?_);rw [ai];have aE:∀{α:Type} {f:Unit->Sem α} {Q:α->St->Prop},lp P (f ()) (mk E H B) Q X->lp P (askRoom (aj*O)>>=f) (mk E H B) Q X:=by
   intro α f Q al;refine As _ _ ?_;unfold askRoom;split
   ·exact⟨.inl ⟨rfl,rfl⟩,al⟩
   ·exact al
  refine aE (As _ _ (JX ⟨a,l,rfl⟩ ac ?_));refine As _ _ (JX ⟨ax,cx,rfl⟩ Z ?_);refine As _ _ (Hm au ?_);refine As _ _ (IQ aw λr aF=>?_);refine az r _ aj aD ?_ ?_ aF
  ·simp only [Array.size_append,List.size_toArray,PQ,av,ag,ab];rw [← Nat.add_mul,← Nat.add_mul];congr 1;omega
  ·simp only [Array.toList_append];rw [List.take_append_of_le_length (by simp [ag,ab,Nat.add_mul])];rw [List.take_of_length_le (by simp [ag,ab,Nat.add_mul])]
end
theorem Al.spot{α:Type}{pp:Rp α}{E:LH}{a:Option Addr}{c:Nat}{xs:List α}(h:Al pp E a c xs):∀ad,a=some ad->ad.spot=none∨c=0:=λad K=>by
 rcases h.2 with⟨_,h⟩ | ⟨bk,off,h,_⟩
 ·exact h ad K
 ·rw [h] at K;cases K;exact .inl rfl
theorem Al.full{α:Type}{pp:Rp α}{E:LH}{a:Option Addr}{c:Nat}{xs:List α}(h:Al pp E a c xs):Al pp E a xs.length xs:=⟨Nat.le_refl _,h.2.imp (λ⟨h,_⟩=>⟨h,λ_ _=> .inr (by rw [h];rfl)⟩) id⟩
theorem Al.Ls{α:Type}{pp:Rp α}{E H:LH}{B:List (Nat×Obj)}{a:Option Addr}{c:Nat}{ys:List α}(aa:Al pp E a c ys):
  ∃K:List (Lv_),K.length=ys.length/\(∀(i:Nat) x ws,ys[i]? =some x->K[i]? =some ws->pp.r E ws x)/\HA (mk E H B) (.slice a ys.length c) pp.n K.flatten/\∀w∈K.flatten,CU w=true:=by
 obtain⟨K,U,Z,Y⟩:=aa.rows;have ab:=HW U Z;refine⟨K,U,Z,?_,λw hw=>?_⟩
 ·rcases Y with⟨Y,aj⟩ | ⟨bk,off,rfl,Y⟩
  ·subst Y;have:K= []:=List.eq_nil_of_length_eq_zero U;subst this;cases a with
   | none=>exact⟨rfl,rfl⟩
   | some ad=>exact⟨.inr rfl,by simp,Nat.zero_le _,λq w O=>by simp at O⟩
  ·refine⟨.inl rfl,by rw [Lc ab,U],aa.1,λq w O=>?_⟩;obtain⟨ac,m,ws,ae,e2,ag⟩:=NW ab O;have:=(Y ac ws ae).cell (H:=H) (B:=B) e2;subst ag;rw [← Nat.add_assoc];exact this
 ·obtain⟨us,ah,hw⟩:=List.mem_flatten.1 hw;obtain⟨q,O⟩:=List.mem_iff_getElem?.1 ah;have ai:q<ys.length:=by rw [← U];exact(List.getElem?_eq_some_iff.1 O).1
  exact pp.one (Z q _ us (List.getElem?_eq_getElem ai) O) w hw
section
variable {P:Program}{J:Judge P}{Q:Gs_}{b:Frame}{n:Nat}{ds:Ld_}{ops:Ao_}{k:Li_}{cs:Lf_}{L:Env}{s:St}{E E' H:LH}{S:List Seg}
variable {d:Option Tmp}{x y z1:Operand}{t u ty e:TypeId}{p:String}{af:Ae_}{g:On_}{v:Value}{i:Nat}{rest:List Nat}{kd:IntKind}{ρ:Operand->Value}
theorem N2{a:Option Addr}{l c K:Nat}(O:∀ad,a=some ad->ad.spot=none∨c=0)(U:l<=c)(Y:P.underlying t=some (.slice e))(Z:Bl P e=some K)(aa:ρ x= .slice a l c)(ab:ρ y=iV (l:Int))(ac:ρ z1=iV (l:Int)):
  Yl P ⟨d,.slice t x none (some y) (some z1),ty,p,af,g⟩ ρ s (.slice a l l):=by
 have h:=Yl.slice (P:=P) (s:=s) (d:=d) (ty:=ty) (p:=p) (af:=af) (g:=g) (olo:=none) (ohi:=some y) (omx:=some z1) (lo:=0) (hi:=l) (mx:=l) Y Z aa ac ab rfl U (Nat.le_refl _) (Nat.zero_le _);have ae:(if l=0 then a else a.map (·.add (0*K)))=a:=by
  split
  ·rfl
  ·cases a with
   | none=>rfl
   | some ad=>
    have:=(O ad rfl).resolve_right (by omega);simp only [Option.map_some,Nat.zero_mul];rw [Dm this];obtain⟨b,o,sp⟩:=ad;simp only at this;subst this;simp
 rw [ae] at h;simpa using h
theorem Uq{α:Type}{pp:Rp α}{t1:TypeId}{Y c cx:Nat}{a ax:Option Addr}{xs ys Z:List α}{ats:Array TypeId}{z:Value}(U:Dp xs ys=some Z)
  (aj:ops[i]? =some ⟨d,.call ⟨.builtin .append,#[x,y],ats⟩,ty,p,af,g⟩) (hw:AM L ops ⟨d,.call ⟨.builtin .append,#[x,y],ats⟩,ty,p,af,g⟩=some true) (ak:BF b n ⟨d,.call ⟨.builtin .append,#[x,y],ats⟩,ty,p,af,g⟩=true)
  (al:ev L x=some (.slice a xs.length xs.length)) (am:ev L y=some (.slice ax ys.length cx)) (an:ats[0]? =some t) (ao:ats[1]? =some t1) (ap:P.underlying t=some (.slice e)) (aq:P.underlying t1=some (.slice e)) (ar:Bl P e=some pp.n) (hb:FB P e=some Y) (au:zeroOf P e=some z) (av:z.cells.size=pp.n)
  (aw:0<Y) (ay:Y<=64) (aa:Al pp E a c xs) (az:Al pp E ax cx ys) (ab:Aq E H S)
  (h:∀E' ac K,Le E E'->Al pp E' ac K Z->Aq E' H (S++ [[]])->JL J Q b n (Au L d (.slice ac Z.length K)) ds (.inRegion ops rest::k) cs (Ak E' H (S++ [[]]))):
  JL J Q b n L ds (.inRegion ops (i::rest)::k) cs (Ak E H S):=by
 unfold Dp at U;split at U
 rotate_left
 ·cases U
 rename_i aA;cases U;obtain⟨wss,ae,aB,aC,aS⟩:=Al.Ls (H:=H) (B:=S.flatten) aa.full;obtain⟨aD,aE,aF,aG,aH⟩:=Al.Ls (H:=H) (B:=S.flatten) az;have hlen:(xs++ys).length=xs.length+ys.length:=by simp
 show JL J Q b n L ds (.inRegion ops (i::rest)::k) cs (mk E H S.flatten);refine JL.op aj hw ak λρ ag=>?_;rw [Lb,ag x _ al,ag y _ am];refine As _ _ (PS an ao aq ap ar hb au av ab aC aG aH aw aA ay ?_ ?_)
 ·intro hm;have aI:ys= []:=List.eq_nil_of_length_eq_zero hm;subst aI;have aJ:Aq E H (S++ [[]]):=by unfold Aq at*;rw [GY,List.append_nil];exact ab
  have aK:mk E H S.flatten=Ak E H (S++ [[]]):=by unfold Ak;rw [GY,List.append_nil]
  rw [aK];have:=h E a xs.length (Le.refl _) (by rw [List.append_nil];exact aa.full) aJ;rw [hlen] at this;exact this
 ·intro r O K aL aM aN aO;have aP:OL e pp E (some ⟨r,0,none⟩) K [(r,.cells O e (0,0))] (xs++ys):=
   ⟨wss++aD,.inr ⟨r,O,rfl,rfl,aM,by rw [hlen];exact aL,by rw [hlen,List.flatten_append];exact aN.symm⟩,by simp [ae,aE],Mq ae aB aF⟩
  have ah:=Fv (S:=S) (seg:= [(r,.cells O e (0,0))]) aO;show JL J Q b n _ ds _ cs (mk E H (S.flatten++ [(r,.cells O e (0,0))]));rw [ah.1];refine B8 S.length aP ah.2 (by simp) λE' hle aQ ai=>?_;have aR:(S++ [[(r,Obj.cells O e (0,0))]]).set S.length []=S++ [[]]:=IY _ _ _ _;rw [aR] at ai ⊢;have:=h E' (some ⟨r,0,none⟩) K hle aQ ai;rw [hlen] at this;exact this
end
end Pal
