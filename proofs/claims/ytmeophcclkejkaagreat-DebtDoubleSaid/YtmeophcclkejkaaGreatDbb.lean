/- DebtDouble, row of debt: for every input the law is true and its argument reads behind the call as before it. Part 2 of 8. -/
import Derived.Test.YtmeophcclkejkaaGreatDba
import Derived.Conc.WgLib
import Derived.Conc.WgArith
import Derived.Conc.WgGenW
set_option linter.all false
set_option maxRecDepth 100000
namespace Pal
open Go Go.Conc
open Go.ConcN (upd upd_same upd_ne sumTo sumTo_upd sumTo_upd_out sumTo_congr le_sumTo sumTo_le)
def cU:Nx->Nat
 | .ph (.G7 _) | .ph .HJ | .ph .Gw | .ph .IP | .ph .Hb | .ph (.lk _ _)=>1
 | _=>0
def cL:Nx->Nat
 | .ph .GK | .ph .G6=>1
 | _=>0
def cS:Nx->Nat
 | .ph .Fa=>1
 | _=>0
def pend:Nx->Nat
 | .ph (.Iw _) | .ph (.HB _) | .ph (.GU _) | .ph (.FH _)=>1
 | _=>0
def got:Nx->List Nat
 | .ph (.FB K _)=>K
 | _=> []
def Nc:Nx->Prop
 | .gone _=>True
 | _=>False
def Hv(n j:Nat)(c:Bool):Ph->Prop
 | .Gf K | .Ip K | .Iw K | .HB K | .GU K | .FH K=>K=j/\j<n/\c=false
 | .GM=>j=n/\c=false
 | .FB _ _=>j=n/\c=true
 | _=>False
def GJ(F:Fam)(k:Nat):Nx->Prop
 | .gone _=>True
 | .ph (.G7 k')=>k'=k/\F.has k=true
 | .ph (.lk k' _)=>k'=k
 | .ph .HJ | .ph .Gw | .ph .IP | .ph .Hb | .ph .GK | .ph .G6 | .ph .Fa=>True
 | _=>False
def Jc:Nx->Prop
 | .gone _=>True
 | .ph .De | .ph (.FX _) | .ph (.Hc _) | .ph .It | .ph .HK | .ph .Fs | .ph .G5 | .ph .F0 | .ph .Im | .ph .Ge | .ph .Hx=>True
 | _=>False
def Dm(x:Nx)(v wt sm L S:Nat)(cl:Bool):Prop:=
 match x with
 | .ph .De=>L=0/\S=0/\sm=0/\wt=0/\cl=false
 | .ph (.FX m)=>L=0/\S=0/\sm=0/\wt=0/\cl=false/\v<=m
 | .ph (.Hc m)=>L=0/\S=0/\sm=0/\wt=0/\cl=false/\v<=m/\1<=m
 | .ph .It | .ph .HK | .ph .Fs=>L+S+sm+min v 1=1/\wt=L+min v 1/\cl=false
 | .ph .G5 | .ph .F0 | .ph .Im | .ph .Ge | .ph .Hx=>L=0/\S=0/\sm=0/\wt=0/\v=0/\cl=false
 | .gone _=>L=0/\S=0/\sm=0/\wt=0/\v=0/\cl=true
 | _=>False
structure Cq (F:Fam) (N0 N j:Nat) (c:Bool) (φ:Nat->Nx) (v wt sm:Nat) (cl:Bool):Prop where
 pos:0<N0
 n1:1<=F.n
 HN:F.n<2147483647
 size:N=N0+j+c.toNat
 jn:j<=F.n
 cj:c=true->j=F.n
 main:∃p,φ 0= .ph p/\Hv F.n j c p
 old:∀i,0<i->i<N0->Nc (φ i)
 work:∀k,k<j->GJ F k (φ (N0+k))
 cls:c=true->Jc (φ (N0+F.n))
 cnt:v=sumTo N (λi=>cU (φ i))+pend (φ 0)
 JU:v<=j+pend (φ 0)
 mode:Dm (if c=true then φ (N0+F.n) else .ph .De) v wt sm (sumTo N λi=>cL (φ i)) (sumTo N λi=>cS (φ i)) cl
 Ku:∀k,k<j->F.has k=true->(φ (N0+k)= .ph (.G7 k)↔k ∉ got (φ 0))
 nd:(got (φ 0)).Nodup
 sub:∀k∈got (φ 0),k<j/\F.has k=true
section
variable {F:Fam}{N0 N j:Nat}{c:Bool}{φ:Nat->Nx}{v wt sm v' wt' sm':Nat}{cl cl':Bool}
theorem Cq.Et(h:Cq F N0 N j c φ v wt sm cl){i:Nat}(hi:i<N):i=0∨(0<i/\i<N0)∨(∃k,k<j/\i=N0+k)∨(c=true/\i=N0+F.n):=by
 have:=h.size;rcases Nat.eq_zero_or_pos i with K | K
 ·exact .inl K
 rcases Nat.lt_or_ge i N0 with U | U
 ·exact .inr (.inl ⟨K,U⟩)
 rcases Nat.lt_or_ge i (N0+j) with Y | Y
 ·exact .inr (.inr (.inl ⟨i - N0,by omega,by omega⟩))
 ·cases O:c with
  | false=>rw [O] at this;simp at this;omega
  | true=>have e:=h.cj O;rw [O] at this;simp at this;exact .inr (.inr (.inr ⟨rfl,by omega⟩))
theorem Cq.PS(h:Cq F N0 N j c φ v wt sm cl):v<=F.n:=by
 have K:=h.JU;obtain⟨p,O,hm⟩:=h.main;have:=h.jn;rw [O] at K;cases p <;> simp [Hv] at hm <;> simp [pend] at K <;> omega
theorem Cq.Io(h:Cq F N0 N j c φ v wt sm cl){k:Nat}(ag:k<j){x:Nx}(al:GJ F k x)(am:∀k',φ (N0+k)≠ .ph (.G7 k'))(ap:∀k',x≠ .ph (.G7 k'))
  (aL:v'+cU (φ (N0+k))=v+cU x)
  (hm:∀L S,L+cL (φ (N0+k))=(sumTo N λi=>cL (φ i))+cL x->S+cS (φ (N0+k))=(sumTo N λi=>cS (φ i))+cS x->Dm (if c=true then φ (N0+F.n) else .ph .De) v' wt' sm' L S cl'):
  Cq F N0 N j c (upd φ (N0+k) x) v' wt' sm' cl':=by
 have aM:=h.size;have aN:=h.jn;have aO:=h.pos;have Y:N0+k<N:=by omega
 have K:upd φ (N0+k) x 0=φ 0:=upd_ne _ _ (by omega);have aq:(if c=true then upd φ (N0+k) x (N0+F.n) else .ph .De)=(if c=true then φ (N0+F.n) else .ph .De):=by
  cases O:c with
  | false=>rfl
  | true=>have:=h.cj O;simp only [if_true];exact upd_ne _ _ (by omega)
 have s1:=sumTo_upd φ x cU Y;have s2:=sumTo_upd φ x cL Y;have av:=sumTo_upd φ x cS Y;have aP:=h.cnt;have aQ:=h.JU;refine⟨h.pos,h.n1,h.HN,h.size,h.jn,h.cj,by rw [K];exact h.main,λi aw ay=>by rw [upd_ne _ _ (by omega)];exact h.old i aw ay,λk' U=>?_,λO=>?_,by rw [K];omega,?_,?_,λk' U hh=>?_,by rw [K];exact h.nd,by rw [K];exact h.sub⟩
 ·by_cases e:k'=k
  ·subst e;rw [upd_same];exact al
  ·rw [upd_ne _ _ (by omega)];exact h.work k' U
 ·have:=h.cj O;rw [upd_ne _ _ (by omega)];exact h.cls O
 ·rw [K];have:cU x<=1:=by cases x with
   | gone d=>simp [cU]
   | ph p=>cases p <;> simp [cU]
  have hw:=h.work k ag;have key:cU x<=cU (φ (N0+k))∨cU (φ (N0+k))<cU x:=by omega
  rcases key with hle | aR
  ·omega
  ·
   have:(sumTo N λa=>cU (upd φ (N0+k) x a))<=j:=by
    have hb:∀M,M<=N->(sumTo M λa=>cU (upd φ (N0+k) x a))<=min (M - N0) j:=by
     intro M
     induction M with
     | zero=>intro _;simp [sumTo]
     | succ M az=>
      intro aS;have:=az (by omega);simp only [sumTo];have aT:cU (upd φ (N0+k) x M)<=1:=by
       generalize upd φ (N0+k) x M=y;cases y with
       | gone d=>simp [cU]
       | ph p=>cases p <;> simp [cU]
      have ac:(M<N0∨N0+j<=M)->cU (upd φ (N0+k) x M)=0:=by
       intro aU;rw [upd_ne _ _ (by omega)];rcases h.Et (i:=M) (by omega) with rfl | ⟨a,b⟩ | ⟨k',a,rfl⟩ | ⟨a,rfl⟩
       ·obtain⟨p,aI,hm⟩:=h.main;rw [aI];cases p <;> simp [Hv] at hm <;> rfl
       ·have:=h.old M a b;cases Z:φ M with
        | gone d=>rfl
        | ph p=>rw [Z] at this;exact this.elim
       ·omega
       ·have:=h.cls a;cases Z:φ (N0+F.n) with
        | gone d=>rfl
        | ph p=>rw [Z] at this;cases p <;> simp [Jc] at this <;> rfl
      rcases Nat.lt_or_ge M N0 with q | q
      ·rw [ac (.inl q)];omega
      ·rcases Nat.lt_or_ge M (N0+j) with q' | q'
       ·omega
       ·rw [ac (.inr q')];omega
    have:=hb N (Nat.le_refl _);omega
   omega
 ·rw [aq];exact hm _ _ s2 av
 ·rw [K];by_cases e:k'=k
  ·subst e;rw [upd_same];have:=h.Ku k' U hh;constructor
   ·intro aJ;exact absurd aJ (ap k')
   ·intro aK;exact absurd (this.2 aK) (am k')
  ·rw [upd_ne _ _ (by omega)];exact h.Ku k' U hh
theorem Cq.HH(h:Cq F N0 N j c φ v wt sm cl)(O:c=true){x:Nx}(Z:Jc x)
  (hm:Dm x v wt' sm' (sumTo N λi=>cL (φ i)) (sumTo N λi=>cS (φ i)) cl'):
  Cq F N0 N j c (upd φ (N0+F.n) x) v wt' sm' cl':=by
 have ac:=h.size;have aq:=h.pos;have av:=h.cj O;have U:N0+F.n<N:=by rw [O] at ac;simp at ac;omega
 have K:upd φ (N0+F.n) x 0=φ 0:=upd_ne _ _ (by omega);have z:∀y,Jc y->cU y=0/\cL y=0/\cS y=0:=by
  intro y ag;cases y with
  | gone d=>exact⟨rfl,rfl,rfl⟩
  | ph p=>cases p <;> simp [Jc] at ag <;> exact⟨rfl,rfl,rfl⟩
 have z1:=z _ (h.cls O);have aw:=z x Z;have s1:=sumTo_upd φ x cU U;have s2:=sumTo_upd φ x cL U;have ay:=sumTo_upd φ x cS U;have az:=h.cnt;refine⟨h.pos,h.n1,h.HN,h.size,h.jn,h.cj,by rw [K];exact h.main,λi al am=>by rw [upd_ne _ _ (by omega)];exact h.old i al am,λk' Y=>?_,λO=>?_,by rw [K];omega,by rw [K];exact h.JU,?_,λk' Y hh=>?_,by rw [K];exact h.nd,by rw [K];exact h.sub⟩
 ·rw [upd_ne _ _ (by omega)];exact h.work k' Y
 ·rw [upd_same];exact Z
 ·rw [if_pos O,upd_same];have e2:(sumTo N λi=>cL (upd φ (N0+F.n) x i))=sumTo N λi=>cL (φ i):=by omega
  have ap:(sumTo N λi=>cS (upd φ (N0+F.n) x i))=sumTo N λi=>cS (φ i):=by omega
  rw [e2,ap];exact hm
 ·rw [K,upd_ne _ _ (by omega)];exact h.Ku k' Y hh
theorem Q1{n j:Nat}{c:Bool}{p:Ph}(h:Hv n j c p):cU (.ph p)=0/\cL (.ph p)=0/\cS (.ph p)=0:=by
 cases p <;> simp [Hv] at h <;> exact⟨rfl,rfl,rfl⟩
theorem Cq.Lg(h:Cq F N0 N j c φ v wt sm cl){p:Ph}(Y:Hv F.n j c p)(K:got (.ph p)=got (φ 0))(aw:v'+pend (φ 0)=v+pend (.ph p))(Z:v'<=j+pend (.ph p))
  (hm:Dm (if c=true then φ (N0+F.n) else .ph .De) v' wt' sm' (sumTo N λi=>cL (φ i)) (sumTo N λi=>cS (φ i)) cl'):
  Cq F N0 N j c (upd φ 0 (.ph p)) v' wt' sm' cl':=by
 have ay:=h.size;have az:=h.pos;have O:0<N:=by omega
 obtain⟨aI,ac,ag⟩:=h.main;have z1:=Q1 ag;have aJ:=Q1 Y;rw [← ac] at z1;have s1:=sumTo_upd φ (.ph p) cU O;have s2:=sumTo_upd φ (.ph p) cL O;have aK:=sumTo_upd φ (.ph p) cS O;have aL:=h.cnt;have al:(if c=true then upd φ 0 (.ph p) (N0+F.n) else .ph .De)=(if c=true then φ (N0+F.n) else .ph .De):=by rw [upd_ne _ _ (by omega)]
 refine⟨h.pos,h.n1,h.HN,h.size,h.jn,h.cj,⟨p,upd_same _ _ _,Y⟩,λi am ap=>by rw [upd_ne _ _ (by omega)];exact h.old i am ap,λk' U=>by rw [upd_ne _ _ (by omega)];exact h.work k' U,λaq=>by rw [upd_ne _ _ (by omega)];exact h.cls aq,by rw [upd_same];omega,by rw [upd_same];exact Z,?_,λk' U hh=>?_,by rw [upd_same,K];exact h.nd,by rw [upd_same,K];exact h.sub⟩
 ·rw [al];have e2:(sumTo N λi=>cL (upd φ 0 (.ph p) i))=sumTo N λi=>cL (φ i):=by omega
  have av:(sumTo N λi=>cS (upd φ 0 (.ph p) i))=sumTo N λi=>cS (φ i):=by omega
  rw [e2,av];exact hm
 ·rw [upd_same,K,upd_ne _ _ (by omega)];exact h.Ku k' U hh
theorem Cq.act(h:Cq F N0 N j c φ v wt sm cl){i:Nat}(hi:i<N){p:Ph}(K:φ i= .ph p){es:Array Event}{aM:Nx}(O:F.act p v wt sm=some ((v',wt',sm'),es,aM)):
  Cq F N0 N j c (upd φ i aM) v' wt' sm' cl:=by
 have U:=h.mode;have aO:=h.PS;rcases h.Et hi with rfl | ⟨a,b⟩ | ⟨k,av,rfl⟩ | ⟨ac,rfl⟩
 ·
  obtain⟨aI,aN,aw⟩:=h.main;have:aI=p:=by rw [aN] at K;exact Nx.ph.inj K
  subst this;have aQ:∀q,Hv F.n j c q->(∀aP vs,q≠ .FB aP vs)->c=false:=by
   intro q aJ aK;cases q <;> simp [Hv] at aJ <;> first | exact aJ.2.2 | exact aJ.2 | exact absurd rfl (aK _ _)
  have ap:=h.JU;cases aI <;> simp only [Hv] at aw <;> (try exact aw.elim) <;> simp only [Fam.act] at O <;> (try (cases O;done))
  ·cases O;obtain⟨rfl,aq,rfl⟩:=aw;exact h.Lg (p:= .Ip _) ⟨rfl,aq,rfl⟩ (by rw [K];rfl) (by rw [K];rfl) (by rw [K] at ap;exact ap) (by simpa [Dm] using U)
  ·split at O
   ·rename_i ag;cases O;obtain⟨rfl,aq,rfl⟩:=aw;rw [K] at ap;simp only [pend,Nat.add_zero] at ap;simp only [Bool.false_eq_true,if_false,Dm] at U;split
    ·exact h.Lg (p:= .Iw _) ⟨rfl,aq,rfl⟩ (by rw [K];rfl) (by rw [K];simp [pend]) (by simp [pend];omega) ⟨U.1,U.2.1,U.2.2.1,rfl,U.2.2.2.2⟩
    ·exact h.Lg (p:= .GU _) ⟨rfl,aq,rfl⟩ (by rw [K];rfl) (by rw [K];simp [pend]) (by simp [pend];omega) ⟨U.1,U.2.1,U.2.2.1,rfl,U.2.2.2.2⟩
   ·cases O
  ·cases O;obtain⟨rfl,aq,rfl⟩:=aw;exact h.Lg (p:= .GU _) ⟨rfl,aq,rfl⟩ (by rw [K];rfl) (by rw [K];rfl) (by rw [K] at ap;exact ap) (by simpa [Dm] using U)
  ·cases O;obtain⟨rfl,aq,rfl⟩:=aw;exact h.Lg (p:= .FH _) ⟨rfl,aq,rfl⟩ (by rw [K];rfl) (by rw [K];rfl) (by rw [K] at ap;exact ap) (by simpa [Dm] using U)
  ·cases O;obtain⟨rfl,aq,rfl⟩:=aw;exact h.Lg (p:= .HB _) ⟨rfl,aq,rfl⟩ (by rw [K];rfl) (by rw [K];rfl) (by rw [K] at ap;exact ap) (by simpa [Dm] using U)
 ·have:=h.old i a b;rw [K] at this;exact this.elim
 ·
  have hw:=h.work k av;rw [K] at hw;have aR:∀q k',q=Nx.ph p->(∀k',p≠ .G7 k')->q≠ .ph (.G7 k'):=by
   rintro q k' rfl aK e;exact aK k' (Nx.ph.inj e)
  cases p <;> simp only [GJ] at hw <;> (try exact hw.elim) <;> simp only [Fam.act] at O <;> (try (cases O;done))
  ·cases O;refine h.Io av (x:= .ph .IP) trivial (λk'=>by rw [K];simp) (by simp) (by rw [K];rfl) λL S Y Z=>?_;rw [K] at Y Z;simp only [cL,cS,Nat.add_zero] at Y Z;subst Y Z;exact U
  ·cases O;refine h.Io av (x:= .ph .Hb) trivial (λk'=>by rw [K];simp) (by simp) (by rw [K];rfl) λL S Y Z=>?_;rw [K] at Y Z;simp only [cL,cS,Nat.add_zero] at Y Z;subst Y Z;exact U
  ·split at O
   ·rename_i ag;cases O;have az:∀y al am L S,y=(if c=true then φ (N0+F.n) else .ph .De)->Dm y v wt sm al am cl->(if v=1/\wt=1 then L=al+1 else L=al)->S=am->Dm y (v - 1) wt sm L S cl:=by
     intro y al am L S aS hm Y Z;cases y with
     | gone d=>simp only [Dm] at hm ⊢;split at Y <;> omega
     | ph q=>
      cases q <;> simp only [Dm] at hm ⊢ <;> (try exact hm) <;> (try (split at Y <;> omega))
      ·split at Y
       ·exfalso;omega
       ·exact⟨by omega,by omega,by omega,by omega,hm.2.2.2.2⟩
      ·split at Y
       ·exfalso;omega
       ·exact⟨by omega,by omega,by omega,by omega,hm.2.2.2.2.1,by omega⟩
      ·split at Y
       ·exfalso;omega
       ·exact⟨by omega,by omega,by omega,by omega,hm.2.2.2.2.1,by omega,by omega⟩
      ·split at Y
       ·exact⟨by omega,by omega,hm.2.2⟩
       ·exact⟨by omega,by omega,hm.2.2⟩
      ·split at Y
       ·exact⟨by omega,by omega,hm.2.2⟩
       ·exact⟨by omega,by omega,hm.2.2⟩
      ·split at Y
       ·exact⟨by omega,by omega,hm.2.2⟩
       ·exact⟨by omega,by omega,hm.2.2⟩
    split
    ·rename_i ay;refine h.Io av (x:= .ph .GK) trivial (λk'=>by rw [K];simp) (by simp) (by rw [K];simp [cU];omega) λL S Y Z=>?_;rw [K] at Y Z;simp only [cL,cS,Nat.add_zero] at Y Z;exact az _ _ _ L S rfl U (by rw [if_pos ay];exact Y) Z
    ·rename_i ay;refine h.Io av (x:= .gone 1) trivial (λk'=>by rw [K];simp) (by simp) (by rw [K];simp [cU];omega) λL S Y Z=>?_;rw [K] at Y Z;simp only [cL,cS,Nat.add_zero] at Y Z;exact az _ _ _ L S rfl U (by rw [if_neg ay];exact Y) Z
   ·cases O
  ·split at O
   ·rename_i ag;cases O;refine h.Io av (x:= .ph .G6) trivial (λk'=>by rw [K];simp) (by simp) (by rw [K];simp [cU];omega) λL S Y Z=>?_;rw [K] at Y Z;simp only [cL,cS,Nat.add_zero] at Y Z;have e:L=sumTo N λi=>cL (φ i):=by
     have aT:L+1=(sumTo N λi=>cL (φ i))+1:=Y;omega
    obtain⟨ay,aL⟩:=ag;subst e Z ay aL;exact U
   ·cases O
  ·split at O
   ·rename_i ag;cases O;obtain⟨ay,aL⟩:=ag;subst ay aL;refine h.Io av (x:= .ph .Fa) trivial (λk'=>by rw [K];simp) (by simp) (by rw [K];simp [cU]) λL S Y Z=>?_;rw [K] at Y Z;simp only [cL,cS,Nat.add_zero] at Y Z;have az:∀y al am,Dm y 0 1 sm al am cl->L+1=al->S=am+1->Dm y 0 0 sm L S cl:=by
     intro y al am hm Y Z;cases y with
     | gone d=>simp only [Dm] at hm ⊢;omega
     | ph q=>
      cases q <;> simp only [Dm] at hm ⊢ <;> (try exact hm) <;> (try (exfalso;omega))
      ·exact⟨by omega,by omega,hm.2.2⟩
      ·exact⟨by omega,by omega,hm.2.2⟩
      ·exact⟨by omega,by omega,hm.2.2⟩
    exact az _ _ _ U Y Z
   ·cases O
  ·split at O
   ·rename_i ag;cases O;subst ag;refine h.Io av (x:= .gone 1) trivial (λk'=>by rw [K];simp) (by simp) (by rw [K];simp [cU]) λL S Y Z=>?_;rw [K] at Y Z;simp only [cL,cS,Nat.add_zero] at Y Z;have az:∀y al am,Dm y v wt 0 al am cl->L=al->S+1=am->Dm y v wt 1 L S cl:=by
     intro y al am hm Y Z;cases y with
     | gone d=>simp only [Dm] at hm ⊢;omega
     | ph q=>
      cases q <;> simp only [Dm] at hm ⊢ <;> (try exact hm) <;> (try (exfalso;omega))
      ·exact⟨by omega,by omega,hm.2.2⟩
      ·exact⟨by omega,by omega,hm.2.2⟩
      ·exact⟨by omega,by omega,hm.2.2⟩
    exact az _ _ _ U Y Z
   ·cases O
  ·cases O;refine h.Io av (x:= .ph .Gw) trivial (λk'=>by rw [K];simp) (by simp) (by rw [K];rfl) λL S Y Z=>?_;rw [K] at Y Z;simp only [cL,cS,Nat.add_zero] at Y Z;subst Y Z;exact U
 ·
  have hw:=h.cls ac;rw [if_pos ac,K] at U;rw [K] at hw;obtain⟨aI,aN,aw⟩:=h.main;cases p <;> simp only [Jc] at hw <;> (try exact hw.elim) <;> simp only [Fam.act] at O <;> (try (cases O;done)) <;> simp only [Dm] at U
  ·cases O;exact h.HH ac (x:= .ph (.FX F.n)) trivial ⟨U.1,U.2.1,U.2.2.1,U.2.2.2.1,U.2.2.2.2,aO⟩
  ·split at O
   ·rename_i m ag;cases O;split
    ·exact h.HH ac (x:= .ph .F0) trivial ⟨U.1,U.2.1,U.2.2.1,rfl,by assumption,U.2.2.2.2.1⟩
    ·exact h.HH ac (x:= .ph (.Hc _)) trivial ⟨U.1,U.2.1,U.2.2.1,rfl,U.2.2.2.2.1,Nat.le_refl _,by omega⟩
   ·cases O
  ·split at O
   ·rename_i m ag;split at O
    ·cases O;exact h.HH ac (x:= .ph .It) trivial ⟨by omega,by omega,U.2.2.2.2.1⟩
    ·cases O;exact h.HH ac (x:= .ph (.FX _)) trivial ⟨U.1,U.2.1,U.2.2.1,rfl,U.2.2.2.2.1,by omega⟩
   ·cases O
  ·cases O;exact h.HH ac (x:= .ph .Fs) trivial U
  ·split at O
   ·rename_i ag;cases O;exact h.HH ac (x:= .ph .G5) trivial ⟨by omega,by omega,rfl,by omega,by omega,U.2.2⟩
   ·cases O
  ·split at O
   ·rename_i ag;obtain⟨rfl,rfl⟩:=ag;cases O;exact h.HH ac (x:= .ph .F0) trivial U
   ·cases O
  ·cases O;exact h.HH ac (x:= .ph .Im) trivial U
  ·cases O;exact h.HH ac (x:= .ph .HK) trivial U
  ·cases O;exact h.HH ac (x:= .ph .Ge) trivial U
end
end Pal
namespace Pal
open Go Go.Conc
open Go.ConcN (upd upd_same upd_ne sumTo sumTo_upd sumTo_upd_out sumTo_congr le_sumTo sumTo_le fork_knows)
section
variable {F:Fam}{N0 N j:Nat}{c:Bool}{φ:Nat->Nx}{v wt sm:Nat}{cl:Bool}
theorem Cq.spawn(h:Cq F N0 N j c φ v wt sm cl)(U:φ 0= .ph (.FH j)):
  Cq F N0 (N+1) (j+1) c (upd (upd φ N (.ph (F.start j))) 0 (.ph (F.Fl j))) v wt sm cl:=by
 obtain⟨av,aw,ay⟩:=h.main;obtain rfl:av= .FH j:=by rw [aw] at U;exact Nx.ph.inj U
 obtain⟨_,aL,rfl⟩:=ay;have az:=h.size;have aM:=h.pos;simp only [Bool.toNat_false,Nat.add_zero] at az;have Y:cU (.ph (F.start j))=1/\cL (.ph (F.start j))=0/\cS (.ph (F.start j))=0:=by
  exact⟨rfl,rfl,rfl⟩
 have K:cU (.ph (F.Fl j))=0/\cL (.ph (F.Fl j))=0/\cS (.ph (F.Fl j))=0/\pend (.ph (F.Fl j))=0/\got (.ph (F.Fl j))= []:=by
  unfold Fam.Fl;split <;> exact⟨rfl,rfl,rfl,rfl,rfl⟩
 have Z:cU (φ 0)=0/\cL (φ 0)=0/\cS (φ 0)=0:=by rw [U];exact⟨rfl,rfl,rfl⟩
 let φ':Nat->Nx:=upd (upd φ N (.ph (F.start j))) 0 (.ph (F.Fl j));have O:φ' 0= .ph (F.Fl j):=upd_same _ _ _;have aq:φ' N= .ph (F.start j):=by show upd _ _ _ _=_;rw [upd_ne _ _ (by omega),upd_same]
 have ac:∀i,0<i->i≠N->φ' i=φ i:=λi ag al=>by show upd _ _ _ _=_;rw [upd_ne _ _ (by omega),upd_ne _ _ al]
 have sum:∀f:Nx->Nat,f (φ 0)=0->f (.ph (F.Fl j))=0->(sumTo (N+1) λi=>f (φ' i))=(sumTo N λi=>f (φ i))+f (.ph (F.start j)):=by
  intro f f0 f1;simp only [sumTo,aq];congr 1;have aI:0<N:=by omega
  have:=sumTo_upd (upd φ N (.ph (F.start j))) (.ph (F.Fl j)) f aI;have e2:upd φ N (.ph (F.start j)) 0=φ 0:=upd_ne _ _ (by omega);rw [e2,f0,f1] at this;have aN:=sumTo_upd_out φ (.ph (F.start j)) f (i:=N) (j:=N) (Nat.le_refl _);show sumTo N (λi=>f (upd (upd φ N (.ph (F.start j))) 0 (.ph (F.Fl j)) i))=_;omega
 have am:=h.cnt;have ap:=h.JU;rw [U] at am ap;simp only [pend] at am ap;show Cq F N0 (N+1) (j+1) false φ' v wt sm cl;have aJ:got (φ 0)= []:=by rw [U];rfl
 refine⟨h.pos,h.n1,h.HN,by simp;omega,by omega,by simp,⟨F.Fl j,O,?_⟩,λi ag al=>by rw [ac i ag (by omega)];exact h.old i ag al,λk aK=>?_,by simp,?_,?_,?_,λk aK hh=>?_,by rw [O,K.2.2.2.2];exact .nil,by rw [O,K.2.2.2.2];simp⟩
 ·unfold Fam.Fl;split
  ·exact⟨by assumption,rfl⟩
  ·exact⟨rfl,by omega,rfl⟩
 ·by_cases e:k=j
  ·subst e;rw [show N0+k=N by omega,aq];exact rfl
  ·rw [ac _ (by omega) (by omega)];exact h.work k (by omega)
 ·rw [O,K.2.2.2.1,sum cU Z.1 K.1,Y.1];exact am
 ·rw [O,K.2.2.2.1];exact ap
 ·have hm:=h.mode;simp only [Bool.false_eq_true,if_false] at hm ⊢;rw [sum cL Z.2.1 K.2.1,sum cS Z.2.2 K.2.2.1,Y.2.1,Y.2.2];exact hm
 ·rw [O,K.2.2.2.2];by_cases e:k=j
  ·exact absurd hh Bool.false_ne_true
  ·rw [ac _ (by omega) (by omega)];have:=h.Ku k (by omega) hh
   rwa [aJ] at this
theorem Cq.YN(h:Cq F N0 N j c φ v wt sm cl)(O:φ 0= .ph .GM):
  Cq F N0 (N+1) j true (upd (upd φ N (.ph .De)) 0 (.ph (.FB [] []))) v wt sm cl:=by
 obtain⟨av,aw,ay⟩:=h.main;obtain rfl:av= .GM:=by rw [aw] at O;exact Nx.ph.inj O
 obtain⟨aq,rfl⟩:=ay;have az:=h.size;have aK:=h.pos;simp only [Bool.toNat_false,Nat.add_zero] at az;have U:cU (φ 0)=0/\cL (φ 0)=0/\cS (φ 0)=0:=by rw [O];exact⟨rfl,rfl,rfl⟩
 let φ':Nat->Nx:=upd (upd φ N (.ph .De)) 0 (.ph (.FB [] []));have K:φ' 0= .ph (.FB [] []):=upd_same _ _ _;have Y:φ' N= .ph .De:=by show upd _ _ _ _=_;rw [upd_ne _ _ (by omega),upd_same]
 have Z:∀i,0<i->i≠N->φ' i=φ i:=λi ac ag=>by show upd _ _ _ _=_;rw [upd_ne _ _ (by omega),upd_ne _ _ ag]
 have sum:∀f:Nx->Nat,f (φ 0)=0->f (.ph (.FB [] []))=0->f (.ph .De)=0->(sumTo (N+1) λi=>f (φ' i))=(sumTo N λi=>f (φ i)):=by
  intro f f0 f1 f2;simp only [sumTo,Y,f2];have aI:0<N:=by omega
  have:=sumTo_upd (upd φ N (.ph .De)) (.ph (.FB [] [])) f aI;have e2:upd φ N (.ph .De) 0=φ 0:=upd_ne _ _ (by omega);rw [e2,f0,f1] at this;have aL:=sumTo_upd_out φ (.ph .De) f (i:=N) (j:=N) (Nat.le_refl _);show sumTo N (λi=>f (upd (upd φ N (.ph .De)) 0 (.ph (.FB [] [])) i))+0=_;omega
 have al:=h.cnt;have am:=h.JU;rw [O] at al am;simp only [pend] at al am;show Cq F N0 (N+1) j true φ' v wt sm cl;have aJ:got (φ 0)= []:=by rw [O];rfl
 refine⟨h.pos,h.n1,h.HN,by simp;omega,h.jn,λ_=>aq,⟨.FB [] [],K,aq,rfl⟩,λi ac ag=>by rw [Z i ac (by omega)];exact h.old i ac ag,λk ap=>?_,λ_=>by rw [show N0+F.n=N by omega,Y];trivial,?_,?_,?_,λk ap hh=>?_,by rw [K];exact .nil,by rw [K];simp [got]⟩
 ·rw [Z _ (by omega) (by omega)];exact h.work k ap
 ·rw [K,sum cU U.1 rfl rfl];exact al
 ·rw [K];exact am
 ·have hm:=h.mode;simp only [Bool.false_eq_true,if_false,if_true] at hm ⊢;rw [show N0+F.n=N by omega,Y,sum cL U.2.1 rfl rfl,sum cS U.2.2 rfl rfl];exact hm
 ·rw [K];rw [Z _ (by omega) (by omega)];have:=h.Ku k ap hh
  rwa [aJ] at this
theorem Cq.leave(h:Cq F N0 N j c φ v wt sm cl){i d d':Nat}(hi:i<N)(K:φ i= .gone d):Cq F N0 N j c (upd φ i (.gone d')) v wt sm cl:=by
 rcases h.Et hi with rfl | ⟨a,b⟩ | ⟨k,U,rfl⟩ | ⟨Y,rfl⟩
 ·obtain⟨p,Z,_⟩:=h.main;rw [K] at Z;cases Z
 ·have am:=hi;have z:∀f:Nx->Nat,f (.gone d)=0->f (.gone d')=0->(sumTo N λa=>f (upd φ i (.gone d') a))=sumTo N λa=>f (φ a):=by
   intro f f0 f1;have:=sumTo_upd φ (.gone d') f am;rw [K] at this;omega
  have aw:=h.size;have O:upd φ i (.gone d') 0=φ 0:=upd_ne _ _ (by omega);refine⟨h.pos,h.n1,h.HN,h.size,h.jn,h.cj,by rw [O];exact h.main,λac ap aq=>?_,λk U=>by rw [upd_ne _ _ (by omega)];exact h.work k U,λY=>by rw [upd_ne _ _ (by omega)];exact h.cls Y,by rw [O,z cU rfl rfl];exact h.cnt,by rw [O];exact h.JU,?_,λk U hh=>by rw [O,upd_ne _ _ (by omega)];exact h.Ku k U hh,by rw [O];exact h.nd,by rw [O];exact h.sub⟩
  ·by_cases e:ac=i
   ·subst e;rw [upd_same];trivial
   ·rw [upd_ne _ _ e];exact h.old ac ap aq
  ·rw [z cL rfl rfl,z cS rfl rfl,upd_ne _ _ (by omega)];exact h.mode
 ·refine h.Io U (x:= .gone d') trivial (by rw [K];simp) (by simp) (by rw [K];rfl) λL S ag al=>?_;rw [K] at ag al;have av:L=sumTo N λi=>cL (φ i):=ag;have e2:S=sumTo N λi=>cS (φ i):=al;subst av e2;exact h.mode
 ·have hm:=h.mode;rw [if_pos Y,K] at hm;exact h.HH Y (x:= .gone d') trivial hm
theorem Cq.WW(h:Cq F N0 N j c φ v wt sm cl)(O:c=true)(U:φ (N0+F.n)= .ph .G5∨φ (N0+F.n)= .ph .F0∨φ (N0+F.n)= .ph .Ge∨φ (N0+F.n)= .ph .Hx∨Nc (φ (N0+F.n))):∀k,k<j->Nc (φ (N0+k)):=by
 intro k Y;have hm:=h.mode;rw [if_pos O] at hm;have Z:=h.size;have ac:=h.cnt;have ag:cU (φ (N0+k))<=sumTo N λi=>cU (φ i):=le_sumTo (f:=λi=>cU (φ i)) (show N0+k<N by omega);have al:cL (φ (N0+k))<=sumTo N λi=>cL (φ i):=le_sumTo (f:=λi=>cL (φ i)) (show N0+k<N by omega);have am:cS (φ (N0+k))<=sumTo N λi=>cS (φ i):=le_sumTo (f:=λi=>cS (φ i)) (show N0+k<N by omega);have ap:v=0/\(sumTo N λi=>cL (φ i))=0/\(sumTo N λi=>cS (φ i))=0:=by
  rcases U with e | e | e | e | e
  ·rw [e] at hm;exact⟨hm.2.2.2.2.1,hm.1,hm.2.1⟩
  ·rw [e] at hm;exact⟨hm.2.2.2.2.1,hm.1,hm.2.1⟩
  ·rw [e] at hm;exact⟨hm.2.2.2.2.1,hm.1,hm.2.1⟩
  ·rw [e] at hm;exact⟨hm.2.2.2.2.1,hm.1,hm.2.1⟩
  ·cases K:φ (N0+F.n) with
   | gone d=>rw [K] at hm;exact⟨hm.2.2.2.2.1,hm.1,hm.2.1⟩
   | ph p=>rw [K] at e;exact e.elim
 have hw:=h.work k Y;cases K:φ (N0+k) with
 | gone d=>trivial
 | ph p=>
  have aq:1<=cU (φ (N0+k))+cL (φ (N0+k))+cS (φ (N0+k)):=by
   rw [K] at hw ⊢;cases p <;> simp only [GJ] at hw <;> simp [cU,cL,cS]
  exfalso;omega
end
open Go.ConcN (RelBy)
def dl:LP->Nat
 | .G8 | .DY _ _ _ | .Cd _ _ _ _ | .Ig _ | .Ck _ | .FV | .Es _ | .DW _ | .len=>1
 | .HE | .Ez _ | .Hd | .ER _ | .ET=>1
 | _=>0
def FG:Nx->Nat
 | .gone d=>d
 | .ph .Hb | .ph .GK | .ph .G6 | .ph .Fa=>1
 | .ph (.FX _) | .ph (.Hc _) | .ph .It | .ph .HK | .ph .Fs | .ph .G5 | .ph .F0=>1
 | .ph (.Ip _) | .ph (.Iw _) | .ph (.HB _) | .ph (.GU _)=>1
 | .ph (.lk _ p)=>dl p
 | _=>0
def late:Nx->Prop
 | .ph (.G7 _) | .ph .HJ | .ph .Gw | .ph (.lk _ _)=>False
 | _=>True
def KE(t:Trace)(E:LH)(ρ:Nat):Prop:=∀b,E b≠none->∀x a,touchAt t x=some a->Cy a.loc=some b->a.write=true->Before t x ρ
structure EO (F:Fam) (N0 t0 N j:Nat) (φ:Nat->Nx) (S:Nat->St) (t:Trace):Prop where
 deaf:∀i,i<N->Deaf t i=FG (φ i)
 above:∀i,N<=i->Deaf t i=0
 plain:∀x a b,touchAt t x=some a->Cy a.loc=some b->(b=F.wg∨b=F.mu)->a.kind= .plain->∀i,i<N->(i=0∨N0<=i)->Knows t i x
 said:∀x a b,touchAt t x=some a->Cy a.loc=some b->(b=F.wg∨b=F.mu)->a.kind= .said->Knows t 0 x
 Gh:∀x a,touchAt t x=some a->Cy a.loc=some F.fd->(∀i,i<N->(i=0∨N0<=i)->Knows t i x)∨∃k,k<j/\t.g? x=some (N0+k)/\t.counts x/\a.loc= .cell ⟨F.fd,k,none⟩
 over:∀x g,t.g? x=some g->g≠0->t.counts x->(∃y,t.g? y=some 0/\HappensBefore t x y)∨(N0<=g/\g<N)
 norel:∀x,t0<=x->t.act? x≠some (.mark (.release F.sA))
 LZ:t0<=t.size
 rel:∀k,k<j->late (φ (N0+k))->∃ρ,t0<=ρ/\RelBy F.sA t (N0+k) ρ/\KE t (S (N0+k)).E ρ
section
variable {F:Fam}{N0 t0 N j:Nat}{φ:Nat->Nx}{S:Nat->St}{t u:Trace}
def EvS(F:Fam)(N0 j i:Nat)(e:Event):Prop:=
 (∀a,(MemAct.ofEvent e).touch? =some a->∃b,Cy a.loc=some b/\(((b=F.wg∨b=F.mu)/\a.kind≠ .plain/\(a.kind= .said->i=0))∨(b=F.fd/\∃k,k<j/\i=N0+k/\a.loc= .cell ⟨F.fd,k,none⟩/\a.kind= .plain)))/\e.loc≠ .mark (.release F.sA)
theorem EO.noRace(h:EO F N0 t0 N j φ S t)(am:∀said,¬Race said t){i:Nat}(hi:i<N)(Z:i=0∨N0<=i){fn:FuncId}{pos:String}{es:Array Event}
  (ap:∀e∈es,EvS F N0 j i e):∀said,¬Race said (t++MemOp.ofEvents i fn pos es):=by
 intro said;refine noRace_append (g:=i) (am said) (λop O=>by obtain⟨e,_,rfl⟩:=mem_ofEvents O;rfl) λx a U op O d hd aq=>?_;obtain⟨e,he,rfl⟩:=mem_ofEvents O;obtain⟨b,hb,K⟩:=(ap e he).1 d hd;obtain⟨ac,hm,aL,av⟩:=aq;have Y:Cy a.loc=some b:=by rw [ac];exact hb
 rcases K with⟨K,ag,aw⟩ | ⟨rfl,k,ag,ay,az,_⟩
 ·rcases av with q | q | ⟨_,q,q'⟩
  ·exact h.plain x a b U Y K q i hi Z
  ·exact absurd q ag
  ·have:=h.said x a b U Y K q
   rwa [← aw q'] at this
 ·rcases h.Gh x a U Y with q | ⟨k',_,aI,_,al⟩
  ·exact q i hi Z
  ·rw [ac,az] at al;have:k=k':=by simpa using al
   subst this;obtain⟨z,aJ,aK⟩:=Option.map_eq_some_iff.1 aI;have:=knows_own aJ;rw [aK,← ay] at this;exact this
theorem OK(h:∀x g,t.g? x=some g->g≠0->t.counts x->(∃y,t.g? y=some 0/\HappensBefore t x y)∨(N0<=g/\g<N))(hu:∀op∈u,op.g=0∨(N0<=op.g/\op.g<N)∨op.act.touch? =none):
  ∀x g,(t++u).g? x=some g->g≠0->(t++u).counts x->(∃y,(t++u).g? y=some 0/\HappensBefore (t++u) x y)∨(N0<=g/\g<N):=by
 intro x g O U Y;rcases Nat.lt_or_ge x t.size with q | q
 ·rcases h x g (by rw [← g?_old (u:=u) q];exact O) U ((counts_old q).1 Y) with⟨y,K,hb⟩ | hh
  ·have al:y<t.size:=by
    unfold Trace.g? at K;obtain⟨z,am,_⟩:=Option.map_eq_some_iff.1 K;exact lt_size_of_getElem? am
   exact .inl ⟨y,by rw [g?_old al];exact K,hb_app u hb⟩
  ·exact .inr hh
 ·obtain⟨a,ap,_⟩:=Y;obtain⟨op,Z,ac⟩:=touch_of ap;have ag:op.g=g:=by simpa [Trace.g?,Z] using O
  rcases getElem?_append_cases Z with⟨av,_⟩ | ⟨_,aq⟩
  ·omega
  ·rcases hu op aq with z | z | z
   ·exact absurd (ag▸z) U
   ·exact .inr (ag▸z)
   ·rw [z] at ac;cases ac
theorem Oz(h:∀x,t0<=x->t.act? x≠some (.mark (.release F.sA)))(hu:∀op∈u,op.act≠ .mark (.release F.sA)):∀x,t0<=x->(t++u).act? x≠some (.mark (.release F.sA)):=by
 intro x O e;obtain⟨op,U,K⟩:=Option.map_eq_some_iff.1 e;rcases getElem?_append_cases U with⟨_,Y⟩ | ⟨_,Z⟩
 ·exact h x O (by rw [act?_of Y,K])
 ·exact hu op Z K
theorem TY{g:Nat}(hu:∀op∈u,op.g=g->op.act.touch? =none):∀x,t.size<=x->(t++u).g? x=some g->¬(t++u).counts x:=by
 intro x ag U Y;obtain⟨a,Z,_⟩:=Y;obtain⟨op,K,O⟩:=touch_of Z;rcases getElem?_append_cases K with⟨al,_⟩ | ⟨_,ac⟩
 ·omega
 ·rw [hu op ac (by simpa [Trace.g?,K] using U)] at O;cases O
theorem KE.app{E:LH}{ρ:Nat}(h:KE t E ρ)(hu:∀op∈u,∀a b,op.act.touch? =some a->Cy a.loc=some b->a.write=true->E b=none):KE (t++u) E ρ:=by
 intro b hb x a U K hw;obtain⟨op,Y,O⟩:=touch_of U;rcases getElem?_append_cases Y with⟨ag,Z⟩ | ⟨_,ac⟩
 ·exact(h b hb x a (by rw [touchAt_of Z];exact O) K hw).app u
 ·exact absurd (hu op ac a b O K hw) hb
theorem EO.app(h:EO F N0 t0 N j φ S t){i:Nat}(hi:i<N){x:Nx}{s':St}{fn:FuncId}{pos:String}{es:Array Event}
  (hd:deafBehind (FG (φ i)) es=FG x)
  (aq:∀e∈es,(∀a b,(MemAct.ofEvent e).touch? =some a->Cy a.loc=some b->(b=F.wg∨b=F.mu)->a.kind≠ .plain/\(a.kind= .said->i=0))/\
   (∀a,(MemAct.ofEvent e).touch? =some a->Cy a.loc=some F.fd->∃k,k<j/\i=N0+k/\a.loc= .cell ⟨F.fd,k,none⟩/\a.kind= .plain)/\e.loc≠ .mark (.release F.sA))
  (aP:(i=0∨N0<=i)∨∀e∈es,(MemAct.ofEvent e).touch? =none)
  (aQ:∀k,k<j->late (φ (N0+k))->∀e∈es,∀a b,(MemAct.ofEvent e).touch? =some a->Cy a.loc=some b->a.write=true->(S (N0+k)).E b=none)
  (aw:∀k,k<j->i=N0+k->late x->(late (φ i)/\s'.E=(S i).E/\∀ρ,RelBy F.sA t i ρ->RelBy F.sA (t++MemOp.ofEvents i fn pos es) i ρ)∨∃ρ,t0<=ρ/\RelBy F.sA (t++MemOp.ofEvents i fn pos es) i ρ/\KE (t++MemOp.ofEvents i fn pos es) s'.E ρ):
  EO F N0 t0 N j (upd φ i x) (upd S i s') (t++MemOp.ofEvents i fn pos es):=by
 generalize hu:MemOp.ofEvents i fn pos es=u at*;have ag:∀op∈u,op.g=i:=λop O=>by rw [← hu] at O;obtain⟨e,_,rfl⟩:=mem_ofEvents O;rfl
 have av:∀op∈u,∃e∈es,op.act=MemAct.ofEvent e:=λop O=>by rw [← hu] at O;obtain⟨e,he,rfl⟩:=mem_ofEvents O;exact⟨e,he,rfl⟩
 have hold:∀{y a},touchAt (t++u) y=some a->(touchAt t y=some a/\y<t.size)∨(Knows (t++u) i y/\(t++u).g? y=some i/\∃e∈es,(MemAct.ofEvent e).touch? =some a):=by
  intro y a aR;obtain⟨op,O,aJ⟩:=touch_of aR;rcases getElem?_append_cases O with⟨aw,aS⟩ | ⟨_,ay⟩
  ·left;exact⟨by rw [touchAt_of aS];exact aJ,aw⟩
  ·right;obtain⟨e,he,Z⟩:=av op ay;exact⟨by have:=knows_own O;rwa [ag op ay] at this,by simp [Trace.g?,O,ag op ay],e,he,by rw [← Z];exact aJ⟩
 have aK:∀k,k<j->late (φ (N0+k))->∀ρ,KE t (S (N0+k)).E ρ->KE (t++u) (S (N0+k)).E ρ:=λk K U ρ aT=>aT.app λop aU a b aL hb hw=>by
  obtain⟨e,he,Z⟩:=av op aU;rw [Z] at aL;exact aQ k K U e he a b aL hb hw
 refine⟨λY ac=>?_,λY ac=>?_,λy a b al hb am K Y ac az=>?_,λy a b al hb am K=>?_,λy a al hb=>?_,OK h.over λop O=>?_,Oz h.norel λop O e=>?_,by simp;have:=h.LZ;omega,λk K U=>?_⟩
 ·by_cases e:Y=i
  ·subst e;rw [upd_same,← hu,Deaf_own,h.deaf Y hi,hd]
  ·rw [upd_ne _ _ e,Deaf_other t (Ne.symm e) u ag];exact h.deaf Y ac
 ·rw [Deaf_other t (by omega) u ag];exact h.above Y ac
 ·rcases hold al with⟨q,_⟩ | ⟨_,_,e,he,ap⟩
  ·exact(h.plain y a b q hb am K Y ac az).app _
  ·exact absurd K ((aq e he).1 a b ap hb am).1
 ·rcases hold al with⟨q,_⟩ | ⟨aM,_,e,he,ap⟩
  ·exact(h.said y a b q hb am K).app _
  ·rw [← ((aq e he).1 a b ap hb am).2 K];exact aM
 ·rcases hold al with⟨q,aN⟩ | ⟨aM,aI,e,he,ap⟩
  ·rcases h.Gh y a q hb with z | ⟨k,K,aI,aV,U⟩
   ·exact .inl λY ac az=>(z Y ac az).app _
   ·exact .inr ⟨k,K,by rw [g?_old aN];exact aI,(counts_old aN).2 aV,U⟩
  ·obtain⟨k,K,aW,U,aX⟩:=(aq e he).2.1 a ap hb;exact .inr ⟨k,K,by rw [aI,aW],⟨a,al,by rw [U];rfl,.inl (by rw [aX];simp)⟩,U⟩
 ·rw [ag op O];rcases aP with(q | q) | q
  ·exact .inl q
  ·exact .inr (.inl ⟨q,hi⟩)
  ·obtain⟨e,he,Z⟩:=av op O;rw [Z];exact .inr (.inr (q e he))
 ·obtain⟨ev,aY,Z⟩:=av op O;rw [Z] at e;exact(aq ev aY).2.2 (by
   obtain⟨loc,wr,aZ⟩:=ev
   cases loc with
   | mark m=>simp only [MemAct.ofEvent,MemAct.mark.injEq] at e;rw [e]
   | obj r=>cases wr <;> cases aZ <;> simp [MemAct.ofEvent] at e
   | _=>simp [MemAct.ofEvent] at e)
 ·by_cases e:i=N0+k
  ·subst e;rw [upd_same] at U;rw [upd_same];rcases aw k K rfl U with⟨aO,a0,a1⟩ | hh
   ·obtain⟨ρ,a,b,c⟩:=h.rel k K aO;exact⟨ρ,a,a1 ρ b,by rw [a0];exact aK k K aO ρ c⟩
   ·exact hh
  ·rw [upd_ne _ _ (Ne.symm e)] at U;rw [upd_ne _ _ (Ne.symm e)];obtain⟨ρ,a,b,c⟩:=h.rel k K U;exact⟨ρ,a,b.appOther ag e,aK k K U ρ c⟩
theorem EO.CZ(h:EO F N0 t0 N j φ S t)(hu:∀op∈u,op.act.touch? =none/\∀m,op.act≠ .mark m):EO F N0 t0 N j φ S (t++u):=by
 have ap:∀g,Deaf (t++u) g=Deaf t g:=by
  intro g;obtain⟨l⟩:=u;rw [Deaf_append];have key:∀(l:List MemOp) (d:Nat),(∀op∈l,∀m,op.act≠ .mark m)->l.foldl (deafStep g) d=d:=by
   intro l
   induction l with
   | nil=>intro d _;rfl
   | cons z l aw=>
    intro d U;have ay:=U z (by simp);have e2:deafStep g d z=d:=by
     unfold deafStep;split <;> first | (rename_i e;exact absurd e (ay _)) | rfl
    rw [List.foldl_cons,e2];exact aw d λop K=>U op (by simp [K])
  exact key l _ λop K=>(hu op (by simpa using K)).2
 have hold:∀{y a},touchAt (t++u) y=some a->touchAt t y=some a/\y<t.size:=by
  intro y a Z;obtain⟨op,K,ac⟩:=touch_of Z;rcases getElem?_append_cases K with⟨az,aI⟩ | ⟨_,aJ⟩
  ·exact⟨by rw [touchAt_of aI];exact ac,az⟩
  ·rw [(hu op aJ).1] at ac;cases ac
 have aK:∀g x,t.size<=x->(t++u).g? x=some g->¬(t++u).counts x:=λg=>TY λop K _=>(hu op K).1;refine⟨λi hi=>by rw [ap];exact h.deaf i hi,λi hi=>by rw [ap];exact h.above i hi,λy a b Y hb ag O i hi al=>(h.plain y a b (hold Y).1 hb ag O i hi al).app _,λy a b Y hb ag O=>(h.said y a b (hold Y).1 hb ag O).app _,λy a Y hb=>?_,
  OK h.over λop K=> .inr (.inr (hu op K).1),Oz h.norel λop K=>(hu op K).2 _,by simp;have:=h.LZ;omega,λk O U=>let ⟨ρ,a,b,c⟩:=h.rel k O U;⟨ρ,a,b.app λx Z am=>aK _ x Z am,c.app λop K a b aq=>by rw [(hu op K).1] at aq;cases aq⟩⟩
 obtain⟨q,av⟩:=hold Y;rcases h.Gh y a q hb with z | ⟨k,O,am,aL,U⟩
 ·exact .inl λaM aN al=>(z aM aN al).app _
 ·exact .inr ⟨k,O,by rw [g?_old av];exact am,(counts_old av).2 aL,U⟩
theorem EO.spawn(h:EO F N0 t0 N j φ S t){φ':Nat->Nx}{S':Nat->St}(ac:0<N)(aS:N=N0+j)(hd:∀i,i<N->FG (φ' i)=FG (φ i))(aK:FG (φ' N)=0)(aL:FG (φ 0)=0)
  (aM:∀k,k<j+1->late (φ' (N0+k))->k<j/\late (φ (N0+k))/\(S' (N0+k)).E=(S (N0+k)).E)
  {x y:MemOp} (Z:x.g=0/\x.act= .go N) (aq:y.g=N/\y.act= .start):EO F N0 t0 (N+1) (j+1) φ' S' (t++ #[x,y]):=by
 have hu:∀op∈(#[x,y]:Array MemOp),op.act.touch? =none/\∀m,op.act≠ .mark m:=by
  intro op av;simp only [List.mem_toArray,List.mem_cons,List.not_mem_nil,or_false] at av;rcases av with rfl | rfl
  ·rw [Z.2];exact⟨rfl,by simp⟩
  ·rw [aq.2];exact⟨rfl,by simp⟩
 have K:=h.CZ hu;have aw:∀z,Knows t 0 z->Knows (t++ #[x,y]) N z:=λz O=>fork_knows Z aq (by rw [h.deaf 0 ac];exact aL) (h.above N (Nat.le_refl _)) O;have hold:∀{z a},touchAt (t++ #[x,y]) z=some a->touchAt t z=some a:=by
  intro z a O;obtain⟨op,ag,U⟩:=touch_of O;rcases getElem?_append_cases ag with⟨ay,aN⟩ | ⟨_,al⟩
  ·rw [touchAt_of aN];exact U
  ·rw [(hu op al).1] at U;cases U
 refine⟨λi hi=>?_,λi hi=>K.above i (by omega),λz a b O hb az Y i hi am=>?_,K.said,λz a O hb=>?_,λz g ap aO aP=>?_,K.norel,K.LZ,λk Y Z=>?_⟩
 ·rcases Nat.lt_or_ge i N with q | q
  ·rw [hd i q];exact K.deaf i q
  ·obtain rfl:i=N:=by omega
   rw [aK];exact K.above i (Nat.le_refl _)
 ·rcases Nat.lt_or_ge i N with q | q
  ·exact K.plain z a b O hb az Y i q am
  ·obtain rfl:i=N:=by omega
   exact aw z (h.plain z a b (hold O) hb az Y 0 ac (.inl rfl))
 ·have aI:z<t.size:=by
   obtain⟨op,ag,U⟩:=touch_of O;rcases getElem?_append_cases ag with⟨ay,_⟩ | ⟨_,al⟩
   ·exact ay
   ·rw [(hu op al).1] at U;cases U
  rcases h.Gh z a (hold O) hb with aJ | ⟨k,Y,ap,aQ,aR⟩
  ·refine .inl λi hi am=>?_;rcases Nat.lt_or_ge i N with q | q
   ·exact(aJ i q am).app _
   ·obtain rfl:i=N:=by omega
    exact aw z (aJ 0 ac (.inl rfl))
  ·exact .inr ⟨k,by omega,by rw [g?_old aI];exact ap,(counts_old aI).2 aQ,aR⟩
 ·rcases K.over z g ap aO aP with q | q
  ·exact .inl q
  ·exact .inr ⟨q.1,by omega⟩
 ·obtain⟨a,b,c⟩:=aM k Y Z;rw [c];exact K.rel k a b
end
end Pal
namespace Pal
open Go Go.Conc
open Go.ConcN (upd upd_same upd_ne sumTo sumTo_upd sumTo_upd_out sumTo_congr le_sumTo sumTo_le)
def pH:LP->Nat
 | .len | .Kw | .JH | .Fw | .Gy | .JW | .JX | .JI | .HE=>1
 | _=>0
def pN:LP->Nat
 | .ER false=>1
 | _=>0
def pZ:LP->Nat
 | .ER true=>1
 | _=>0
def pV:LP->Nat
 | .FV | .Es _=>1
 | _=>0
def pT:LP->Nat
 | .DY _ true _ | .Cd _ true _ _=>1
 | _=>0
def pQ:LP->Nat
 | .Ig _ | .Ck _=>1
 | _=>0
def pD:LP->Nat
 | .DW _=>1
 | _=>0
def pX:LP->Nat
 | .Ez _ | .Hd=>1
 | _=>0
def oC(f:LP->Nat):Option LP->Nat
 | some p=>f p
 | none=>0
def LN(m:M4)(q h rn rs v t s d x:Nat):Prop:=
 h=m.l.toNat/\
 (m.s=false->rs=0/\d=0/\m.k.toNat=rn+q+v+t/\s=m.w+rn+q/\(m.l=false->m.k=false->1<=m.w->1<=x))/\
 (m.s=true->m.k=false/\rn=0/\t=0/\m.l.toNat+rs+q+v+d=1/\m.w=s+v+d/\1<=m.w)
def K8:LP->M4->Prop
 | .Cd sv aw it old,_=>(aw=true->old.k=true)/\(sv=true->aw=true)/\it<=4/\CR old
 | .DY sv aw it,_=>(sv=true->aw=true)/\it<=4
 | .DW ex,m=>ex=false->2<=m.w
 | .Ez old,_=>old.l=false/\old.k=false/\old.s=false/\old.w≠0/\CR old
 | _,_=>True
section
variable {F:Fam}{p:LP}{m m':M4}{q q' h rn rs v t s d x:Nat}{es:Array Event}{o:Option LP}
theorem Zg(ap:LN m q (pH p+h) (pN p+rn) (pZ p+rs) (pV p+v) (pT p+t) (pQ p+s) (pD p+d) (pX p+x))(K:K8 p m)(Y:CR m)(aq:∀sv,p= .Ck sv->q≠0):Dr p m q:=by
 obtain⟨l,k,st,w⟩:=m;obtain⟨Z,O,U⟩:=ap;cases p <;> simp only [Dr,K8] at K ⊢ <;> (try exact Y)
 ·exact⟨K.1,K.2,Y,λe=>by
   subst e
   simp only [pH,pN,pZ,pV,pT,pQ,pD,pX] at Z O U
   cases st
   ·have:=(O rfl).2.2.1
    cases k
    ·simp at this;omega
    ·rfl
   ·have:=(U rfl).2.2.1;omega⟩
 ·exact⟨K.1,K.2.1,K.2.2.1,K.2.2.2,Y,λe=>by
   subst e
   simp only [pH,pN,pZ,pV,pT,pQ,pD,pX] at Z O U
   cases st
   ·have:=(O rfl).2.2.1
    cases k
    ·simp at this;omega
    ·rfl
   ·have:=(U rfl).2.2.1;omega⟩
 ·exact aq _ rfl
 ·simp only [pH,pN,pZ,pV,pT,pQ,pD,pX] at Z O U;refine⟨λe=>?_,λe=>?_,Y⟩
  ·subst e;obtain⟨a1,al,ag,ac,av,am⟩:=U rfl;cases l
   ·exact⟨rfl,a1,by omega⟩
   ·simp at ac;omega
  ·subst e;obtain⟨a1,al,ag,ac⟩:=O rfl;cases k
   ·simp at ag;omega
   ·rfl
 ·simp only [pH,pN,pZ,pV,pT,pQ,pD,pX] at Z O U;cases st
  ·have:=(O rfl).2.1;omega
  ·obtain⟨a1,al,ag,ac,av,am⟩:=U rfl;cases l
   ·exact⟨rfl,rfl,a1,am,K,Y⟩
   ·simp at ac;omega
 ·simp only [pH,pN,pZ,pV,pT,pQ,pD,pX] at Z;cases l
  ·simp at Z
  ·exact⟨rfl,Y⟩
 ·exact⟨K.1,K.2.1,K.2.2.1,K.2.2.2.1,K.2.2.2.2,Y⟩
 ·refine⟨?_,Y⟩;have aw:k.toNat<=1:=Bool.toNat_le k;cases st
  ·have:=(O rfl).2.2.1;simp only at this;omega
  ·have:=(U rfl).2.2.2.1;simp only at this;omega
set_option maxHeartbeats 1000000 in
theorem LN.step(K:(m',q',es,o)∈F.BR p m q)(U:Dr p m q)(O:LN m q (pH p+h) (pN p+rn) (pZ p+rs) (pV p+v) (pT p+t) (pQ p+s) (pD p+d) (pX p+x)):
  LN m' q' (oC pH o+h) (oC pN o+rn) (oC pZ o+rs) (oC pV o+v) (oC pT o+t) (oC pQ o+s) (oC pD o+d) (oC pX o+x):=by
 obtain⟨l,k,st,w⟩:=m;cases p <;> simp only [Fam.BR,List.mem_singleton,Prod.mk.injEq,List.not_mem_nil] at K
 case FY=>obtain⟨rfl,rfl,-,rfl⟩:=K;exact O
 case G8=>
  split at K
  ·rename_i e;simp only [M4.zero,M4.mk.injEq] at e;obtain⟨rfl,rfl,rfl,rfl⟩:=e;simp only [List.mem_singleton,Prod.mk.injEq] at K;obtain⟨rfl,rfl,-,rfl⟩:=K;simp [LN,pH,pN,pZ,pV,pT,pQ,pD,pX,oC] at O ⊢;omega
  ·simp only [List.mem_singleton,Prod.mk.injEq] at K;obtain⟨rfl,rfl,-,rfl⟩:=K;exact O
 case DY sv aw it=>obtain⟨rfl,rfl,-,rfl⟩:=K;cases aw <;> exact O
 case Cd sv aw it old=>
  simp only [Fam.Fq,List.mem_append] at K;simp only [Dr] at U;obtain⟨k1,Y,Z,ac,am,-⟩:=U;rcases K with K | K
  ·split at K
   ·rename_i c;split at K
    ·rename_i c2;simp only [List.mem_singleton] at K;obtain⟨rfl,c3,c4⟩:=c2;split at K
     ·rename_i e;subst e;simp only [Prod.mk.injEq] at K;obtain⟨rfl,rfl,-,rfl⟩:=K;simp only at c c3 c4;obtain⟨rfl,rfl,-⟩:=c;subst c3;simp [LN,pH,pN,pZ,pV,pT,pQ,pD,pX,oC] at O ⊢;omega
     ·simp only [Prod.mk.injEq] at K;obtain⟨rfl,rfl,-,rfl⟩:=K;exact O
    ·simp only [List.mem_singleton,Prod.mk.injEq] at K;obtain⟨rfl,rfl,-,rfl⟩:=K;cases aw <;> exact O
   ·simp at K
  ·split at K
   ·rename_i e;subst e;split at K
    ·rename_i c;simp only [List.mem_singleton,Prod.mk.injEq] at K;obtain⟨rfl,rfl,-,rfl⟩:=K;simp only at c;obtain⟨rfl,rfl⟩:=c;cases aw <;> cases k <;> simp [LN,pH,pN,pZ,pV,pT,pQ,pD,pX,oC] at O k1 ⊢ <;> omega
    ·rename_i c;have key:∀o',(o'=some (LP.Ig sv)∨o'=some (LP.Ck sv))->LN ⟨l,!aw&&k,st || (sv&&l),w+1⟩ q (oC pH o'+h) (oC pN o'+rn) (oC pZ o'+rs) (oC pV o'+v) (oC pT o'+t) (oC pQ o'+s) (oC pD o'+d) (oC pX o'+x):=by
      intro o' ap;have ag:oC pH o'=0/\oC pN o'=0/\oC pZ o'=0/\oC pV o'=0/\oC pT o'=0/\oC pQ o'=1/\oC pD o'=0/\oC pX o'=0:=by
       rcases ap with rfl | rfl <;> exact⟨rfl,rfl,rfl,rfl,rfl,rfl,rfl,rfl⟩
      obtain⟨ag,e2,aq,av,ay,az,aI,aJ⟩:=ag;rw [ag,e2,aq,av,ay,az,aI,aJ];cases l <;> cases st <;> cases k <;> cases aw <;> cases sv <;> simp [LN,pH,pN,pZ,pV,pT,pQ,pD,pX] at O k1 Y c ⊢ <;> omega
     simp only [List.mem_cons,List.not_mem_nil,or_false,Prod.mk.injEq] at K;rcases K with⟨rfl,rfl,-,rfl⟩ | ⟨rfl,rfl,-,rfl⟩
     ·exact key _ (.inl rfl)
     ·exact key _ (.inr rfl)
   ·simp only [List.mem_singleton,Prod.mk.injEq] at K;obtain⟨rfl,rfl,-,rfl⟩:=K;cases aw <;> exact O
 case Ig sv=>obtain⟨rfl,rfl,-,rfl⟩:=K;exact O
 case Ck sv=>
  obtain⟨rfl,rfl,-,rfl⟩:=K;simp only [Dr] at U;cases st <;> cases k <;> cases l <;> cases sv <;> simp [LN,pH,pN,pZ,pV,pT,pQ,pD,pX,oC] at O ⊢ <;> omega
 case FV=>
  simp only [List.mem_cons,List.not_mem_nil,or_false,Prod.mk.injEq] at K;rcases K with⟨rfl,rfl,-,rfl⟩ | ⟨rfl,rfl,-,rfl⟩ <;> exact O
 case Es sv=>
  simp only [Dr] at U;split at K
  ·rename_i c;simp only [List.mem_singleton,Prod.mk.injEq] at K;obtain⟨rfl,rfl,-,rfl⟩:=K;have c:st=true:=c;subst c;cases k <;> cases l <;> simp [LN,pH,pN,pZ,pV,pT,pQ,pD,pX,oC] at O ⊢ <;> omega
  ·rename_i c;simp only [List.mem_singleton,Prod.mk.injEq] at K;obtain⟨rfl,rfl,-,rfl⟩:=K;cases st
   ·cases k <;> cases l <;> simp [LN,pH,pN,pZ,pV,pT,pQ,pD,pX,oC] at O ⊢ <;> omega
   ·exact absurd rfl c
 case DW ex=>
  obtain⟨rfl,rfl,-,rfl⟩:=K;simp only [Dr] at U;obtain⟨rfl,rfl,rfl,ac,am,-⟩:=U;cases ex <;> simp [LN,pH,pN,pZ,pV,pT,pQ,pD,pX,oC] at O am ⊢ <;> omega
 case len=>obtain⟨rfl,rfl,-,rfl⟩:=K;exact O
 case Kw=>obtain⟨rfl,rfl,-,rfl⟩:=K;exact O
 case JH=>obtain⟨rfl,rfl,-,rfl⟩:=K;exact O
 case Gy=>obtain⟨rfl,rfl,-,rfl⟩:=K;exact O
 case JW=>obtain⟨rfl,rfl,-,rfl⟩:=K;exact O
 case JX=>obtain⟨rfl,rfl,-,rfl⟩:=K;exact O
 case JI=>obtain⟨rfl,rfl,-,rfl⟩:=K;exact O
 case HE=>
  obtain⟨rfl,rfl,-,rfl⟩:=K;simp only [Dr] at U;obtain⟨rfl,-⟩:=U;rcases Nat.eq_zero_or_pos w with rfl | hw
  ·cases st <;> cases k <;> simp [LN,pH,pN,pZ,pV,pT,pQ,pD,pX,oC] at O ⊢ <;> omega
  ·have al:¬w=0:=by omega
   cases st <;> cases k <;> simp [LN,pH,pN,pZ,pV,pT,pQ,pD,pX,oC,al] at O ⊢ <;> omega
 case Ez old=>
  simp only [Dr] at U;obtain⟨k1,Y,Z,ac,-⟩:=U;split at K
  ·rename_i e;subst e;simp only at k1 Y Z ac;subst k1 Y Z;simp only [List.mem_singleton,Prod.mk.injEq] at K;obtain⟨rfl,rfl,-,rfl⟩:=K;simp [LN,pH,pN,pZ,pV,pT,pQ,pD,pX,oC] at O ⊢;omega
  ·simp only [List.mem_singleton,Prod.mk.injEq] at K;obtain⟨rfl,rfl,-,rfl⟩:=K;exact O
 case Hd=>
  obtain⟨rfl,rfl,-,rfl⟩:=K;rcases Nat.eq_zero_or_pos w with rfl | hw
  ·cases st <;> cases k <;> cases l <;> simp [LN,pH,pN,pZ,pV,pT,pQ,pD,pX,oC] at O ⊢ <;> omega
  ·have al:¬w=0:=by omega
   cases st <;> cases k <;> cases l <;> simp [LN,pH,pN,pZ,pV,pT,pQ,pD,pX,oC,al] at O ⊢ <;> omega
 case ER b=>
  obtain⟨rfl,rfl,-,rfl⟩:=K;cases b <;> cases st <;> cases k <;> cases l <;> simp [LN,pH,pN,pZ,pV,pT,pQ,pD,pX,oC] at O ⊢ <;> omega
 case ET=>obtain⟨rfl,rfl,-,rfl⟩:=K;exact O
theorem LN.awake(O:LN m q (pH p+h) (pN p+rn) (pZ p+rs) (pV p+v) (pT p+t) (pQ p+s) (pD p+d) (pX p+x))(ag:pT p=1):m.k=true:=by
 obtain⟨l,k,st,w⟩:=m;obtain⟨al,U,Y⟩:=O;cases st
 ·obtain⟨a1,Z,K,ac⟩:=U rfl;cases k
  ·simp at K;omega
  ·rfl
 ·obtain⟨a1,Z,K,ac⟩:=Y rfl;omega
theorem LN.an(K:(m',q',es,o)∈F.BR p m q)(O:Dr p m q)(Z:K8 p m)(U:CR m)(al:LN m q (pH p+h) (pN p+rn) (pZ p+rs) (pV p+v) (pT p+t) (pQ p+s) (pD p+d) (pX p+x)):∀ac,o=some ac->K8 ac m':=by
 have ag:=λam=>al.awake am;cases p <;> simp only [Fam.BR,List.mem_singleton,Prod.mk.injEq,List.not_mem_nil] at K
 case G8=>
  split at K <;> simp only [List.mem_singleton,Prod.mk.injEq] at K <;> obtain⟨rfl,rfl,-,rfl⟩:=K <;> rintro _ ⟨⟩ <;> simp [K8]
 case DY sv aw it=>
  obtain⟨rfl,rfl,-,rfl⟩:=K;rintro _ ⟨⟩;exact⟨λe=>by subst e;exact ag rfl,Z.1,Z.2,U⟩
 case Cd sv aw it old=>
  simp only [Fam.Fq,List.mem_append] at K;simp only [Dr] at O;obtain⟨k1,Y,ap,aq,av,-⟩:=O;rcases K with K | K
  ·split at K
   ·rename_i c;split at K
    ·simp only [List.mem_singleton] at K;split at K <;> simp only [Prod.mk.injEq] at K <;> obtain⟨rfl,rfl,-,rfl⟩:=K <;> rintro _ ⟨⟩
     ·exact⟨λ_=>rfl,by omega⟩
     ·exact⟨Y,by omega⟩
    ·simp only [List.mem_singleton,Prod.mk.injEq] at K;obtain⟨rfl,rfl,-,rfl⟩:=K;rintro _ ⟨⟩;exact⟨λe=>by subst e;exact ag rfl,Y,by omega,U⟩
   ·simp at K
  ·split at K
   ·split at K
    ·simp only [List.mem_singleton,Prod.mk.injEq] at K;obtain⟨rfl,rfl,-,rfl⟩:=K;rintro _ ⟨⟩;trivial
    ·simp only [List.mem_cons,List.not_mem_nil,or_false,Prod.mk.injEq] at K;rcases K with⟨rfl,rfl,-,rfl⟩ | ⟨rfl,rfl,-,rfl⟩ <;> rintro _ ⟨⟩ <;> trivial
   ·simp only [List.mem_singleton,Prod.mk.injEq] at K;obtain⟨rfl,rfl,-,rfl⟩:=K;rintro _ ⟨⟩;exact⟨Y,ap⟩
 case Ck sv=>
  obtain⟨rfl,rfl,-,rfl⟩:=K;rintro _ h;cases sv <;> cases h <;> trivial
 case FV=>
  simp only [List.mem_cons,List.not_mem_nil,or_false,Prod.mk.injEq] at K;rcases K with⟨rfl,rfl,-,rfl⟩ | ⟨rfl,rfl,-,rfl⟩ <;> rintro _ ⟨⟩ <;> trivial
 case Es sv=>
  simp only [Dr] at O;split at K
  ·rename_i c;simp only [List.mem_singleton,Prod.mk.injEq] at K;obtain⟨rfl,rfl,-,rfl⟩:=K;rintro _ ⟨⟩;intro e;have:=(O.1 c).2.2;simp at e;omega
  ·rename_i c;simp only [List.mem_singleton,Prod.mk.injEq] at K;obtain⟨rfl,rfl,-,rfl⟩:=K;rintro _ ⟨⟩;exact⟨λ_=>O.2.1 (by simpa using c),λ_=>rfl,by omega,U⟩
 case HE=>
  obtain⟨rfl,rfl,-,rfl⟩:=K;rintro _ h;split at h
  ·cases h;trivial
  ·rename_i c;split at h
   ·rename_i c2;cases h;exact⟨rfl,c2.1,by simpa using c,c2.2,U⟩
   ·cases h;trivial
 case Ez old=>
  split at K <;> simp only [List.mem_singleton,Prod.mk.injEq] at K <;> obtain⟨rfl,rfl,-,rfl⟩:=K <;> rintro _ ⟨⟩ <;> trivial
 case Hd=>
  obtain⟨rfl,rfl,-,rfl⟩:=K;rintro _ h;split at h
  ·rename_i c;cases h;exact⟨c.1,c.2.1,c.2.2.1,c.2.2.2,U⟩
  ·cases h;trivial
 all_goals
  obtain⟨rfl,rfl,-,rfl⟩:=K;rintro _ ⟨⟩
 all_goals trivial
theorem LN.keepW(K:(m',q',es,o)∈F.BR p m q)(O:Dr p m q)(U:LN m q (pH p+h) (pN p+rn) (pZ p+rs) (pV p+v) (pT p+t) (pQ p+s) (pD p+d) (pX p+x))(hd:1<=d):m.w<=m'.w:=by
 obtain⟨l,k,st,w⟩:=m;obtain⟨al,Y,Z⟩:=U;have ac:st=true:=by
  cases st
  ·have:=(Y rfl).2.1;omega
  ·rfl
 subst ac;obtain⟨a1,am,ap,ag,aq,av⟩:=Z rfl;cases p <;> simp only [Fam.BR,List.mem_singleton,Prod.mk.injEq,List.not_mem_nil] at K
 case G8=>split at K <;> simp only [List.mem_singleton,Prod.mk.injEq] at K <;> obtain⟨rfl,rfl,-,rfl⟩:=K <;> simp_all [M4.zero]
 case Cd sv aw it old=>
  simp only [Fam.Fq,List.mem_append] at K;rcases K with K | K
  ·split at K
   ·split at K
    ·simp only [List.mem_singleton] at K;split at K <;> simp only [Prod.mk.injEq] at K <;> obtain⟨rfl,rfl,-,rfl⟩:=K <;> exact Nat.le_refl _
    ·simp only [List.mem_singleton,Prod.mk.injEq] at K;obtain⟨rfl,rfl,-,rfl⟩:=K;exact Nat.le_refl _
   ·simp at K
  ·split at K
   ·split at K
    ·simp only [List.mem_singleton,Prod.mk.injEq] at K;obtain⟨rfl,rfl,-,rfl⟩:=K;exact Nat.le_refl _
    ·simp only [List.mem_cons,List.not_mem_nil,or_false,Prod.mk.injEq] at K;rcases K with⟨rfl,rfl,-,rfl⟩ | ⟨rfl,rfl,-,rfl⟩ <;> simp
   ·simp only [List.mem_singleton,Prod.mk.injEq] at K;obtain⟨rfl,rfl,-,rfl⟩:=K;exact Nat.le_refl _
 case FV=>
  simp only [List.mem_cons,List.not_mem_nil,or_false,Prod.mk.injEq] at K;rcases K with⟨rfl,rfl,-,rfl⟩ | ⟨rfl,rfl,-,rfl⟩ <;> exact Nat.le_refl _
 case Es sv=>split at K <;> simp only [List.mem_singleton,Prod.mk.injEq] at K <;> obtain⟨rfl,rfl,-,rfl⟩:=K <;> exact Nat.le_refl _
 case DW ex=>simp only [pD] at ag;omega
 case Ez old=>
  simp only [Dr] at O;split at K
  ·rename_i e;subst e;exact absurd O.2.2.1 (by simp)
  ·simp only [List.mem_singleton,Prod.mk.injEq] at K;obtain⟨rfl,rfl,-,rfl⟩:=K;exact Nat.le_refl _
 all_goals
  obtain⟨rfl,rfl,-,rfl⟩:=K;exact Nat.le_refl _
end
def CX(f:LP->Nat):Nx->Nat
 | .ph (.lk _ p)=>f p
 | _=>0
def NM:Nx->M4->Prop
 | .ph (.lk _ p),m=>K8 p m
 | _,_=>True
def Sg(f:LP->Nat)(N:Nat)(φ:Nat->Nx):Nat:=sumTo N λi=>CX f (φ i)
structure LI (N:Nat) (φ:Nat->Nx) (m:M4) (q:Nat):Prop where
 ln:LN m q (Sg pH N φ) (Sg pN N φ) (Sg pZ N φ) (Sg pV N φ) (Sg pT N φ) (Sg pQ N φ) (Sg pD N φ) (Sg pX N φ)
 loc:∀i,i<N->NM (φ i) m
section
variable {F:Fam}{N i k:Nat}{φ:Nat->Nx}{p:LP}{m m':M4}{q q':Nat}{es:Array Event}{o:Option LP}{y:Nx}
theorem O9(f:LP->Nat)(hi:i<N):Sg f N (upd φ i y)+CX f (φ i)=Sg f N φ+CX f y:=sumTo_upd φ y (CX f) hi
theorem FA(f:LP->Nat)(hi:i<N)(K:φ i= .ph (.lk k p)):∃r,Sg f N φ=f p+r/\∀o,Sg f N (upd φ i (.ph (Fam.CY k o)))=oC f o+r:=by
 have O:CX f (φ i)<=Sg f N φ:=le_sumTo (f:=λi=>CX f (φ i)) hi;have e:CX f (φ i)=f p:=by rw [K];rfl
 refine⟨Sg f N φ - f p,by omega,λo=>?_⟩;have U:=O9 (φ:=φ) (y:= .ph (Fam.CY k o)) f hi;have Y:CX f (.ph (Fam.CY k o))=oC f o:=by cases o <;> rfl
 omega
theorem MP(f:LP->Nat)(hi:i<N)(K:CX f (φ i)=CX f y):Sg f N (upd φ i y)=Sg f N φ:=by
 have:=O9 (φ:=φ) (y:=y) f hi;omega
theorem LI.other(h:LI N φ m q)(hi:i<N)(U:∀k p,φ i≠ .ph (.lk k p))(K:∀k p,y≠ .ph (.lk k p)):LI N (upd φ i y) m q:=by
 have z:∀(f:LP->Nat) x,(∀k p,x≠Nx.ph (.lk k p))->CX f x=0:=by
  intro f x Y;cases x with
  | gone d=>rfl
  | ph p=>cases p <;> first | rfl | exact absurd rfl (Y _ _)
 have e:∀f,Sg f N (upd φ i y)=Sg f N φ:=λf=>MP f hi (by rw [z f _ U,z f _ K]);refine⟨by simp only [e];exact h.ln,λa Z=>?_⟩;by_cases O:a=i
 ·subst O;rw [upd_same];cases y with
  | gone d=>trivial
  | ph p=>cases p <;> first | trivial | exact absurd rfl (K _ _)
 ·rw [upd_ne _ _ O];exact h.loc a Z
theorem LI.ok(h:LI N φ m q)(hi:i<N)(K:φ i= .ph (.lk k p))(Y:CR m)(Z:∀sv,p= .Ck sv->q≠0):Dr p m q:=by
 obtain⟨a,ac,-⟩:=FA pH hi K;obtain⟨b,ag,-⟩:=FA pN hi K;obtain⟨c,al,-⟩:=FA pZ hi K;obtain⟨d,am,-⟩:=FA pV hi K;obtain⟨e,ap,-⟩:=FA pT hi K;obtain⟨f,aq,-⟩:=FA pQ hi K;obtain⟨g,av,-⟩:=FA pD hi K;obtain⟨j,aw,-⟩:=FA pX hi K;have O:=h.ln;rw [ac,ag,al,am,ap,aq,av,aw] at O;have U:=h.loc i hi;rw [K] at U;exact Zg O U Y Z
theorem LI.step(h:LI N φ m q)(hi:i<N)(K:φ i= .ph (.lk k p))(aq:CR m)(U:Dr p m q)(Y:(m',q',es,o)∈F.BR p m q):LI N (upd φ i (.ph (Fam.CY k o))) m' q':=by
 obtain⟨a,av,aw⟩:=FA pH hi K;obtain⟨b,ay,az⟩:=FA pN hi K;obtain⟨c,aI,aJ⟩:=FA pZ hi K;obtain⟨d,aK,aL⟩:=FA pV hi K;obtain⟨e,aM,aN⟩:=FA pT hi K;obtain⟨f,aO,aP⟩:=FA pQ hi K;obtain⟨g,aQ,aR⟩:=FA pD hi K;obtain⟨j,aS,aT⟩:=FA pX hi K;have O:=h.ln;rw [av,ay,aI,aK,aM,aO,aQ,aS] at O;have ag:=h.loc i hi;rw [K] at ag;refine⟨by rw [aw,az,aJ,aL,aN,aP,aR,aT];exact O.step Y U,λy al=>?_⟩;by_cases Z:y=i
 ·subst Z;rw [upd_same];cases o with
  | none=>trivial
  | some aU=>exact O.an Y U ag aq aU rfl
 ·rw [upd_ne _ _ Z];have ac:=h.loc y al;cases am:φ y with
  | gone d=>trivial
  | ph p0=>
   cases p0 with
   | lk aV p0=>
    rw [am] at ac;cases p0 <;> try exact ac
    rename_i ex;intro aW;have hd:1<=g:=by
     have aX:=O9 (N:=N) (φ:=φ) (i:=i) (y:= .gone 0) pD hi;have ap:CX pD (upd φ i (.gone 0) y)<=Sg pD N (upd φ i (.gone 0)):=le_sumTo (f:=λa=>CX pD (upd φ i (.gone 0) a)) al;rw [upd_ne _ _ Z,am] at ap;have aY:CX pD (φ i)=pD p:=by rw [K];rfl
     have e2:CX pD (.gone 0)=0:=rfl;have aZ:CX pD (.ph (.lk aV (.DW ex)))=1:=rfl;omega
    have:=O.keepW Y U hd;have ap:2<=m.w:=ac aW;omega
   | _=>trivial
end
end Pal
namespace Pal
open Go Go.Conc
open Go.ConcN (upd upd_same upd_ne sumTo sumTo_upd sumTo_upd_out sumTo_congr le_sumTo sumTo_le)
def Hg:LP->Nat
 | .len=>22 | .Kw=>21 | .JH=>20 | .Fw=>19 | .Gy=>18 | .JW=>17 | .JX=>16 | .JI=>15 | .HE=>14
 | .Ez _=>13 | .Hd=>13 | .ER _=>12 | .ET=>11
 | _=>23
def kw:LP->Nat
 | .FY | .G8=>2
 | .DY _ aw _=>if aw then 1 else 2
 | .Cd _ aw _ _=>if aw then 1 else 2
 | .FV | .Es _ | .DW _=>1
 | _=>0
def lc(m:M4):LP->Nat
 | .FY=>27 | .G8=>26 | .DY _ _ it=>2*(5 - it)+1
 | .Cd _ _ it old=>2*(5 - it)+if m=old then 0 else 2
 | .Ig _=>24 | .Ck _=>23 | .FV=>22 | .Es _=>21
 | .Ez old=>if m=old then 1 else 3
 | .Hd=>2
 | _=>0
def wO:Option LP->Nat
 | some p=>Hg p
 | none=>9
def wt(n:Nat):Nx->Nat
 | .gone _=>0
 | .ph p=>match p with
  | .G7 _=>10 | .HJ=>9 | .Gw=>8 | .IP=>7 | .Hb=>6 | .GK=>5 | .G6=>4 | .Fa=>3
  | .De=>3*n+25 | .FX m=>3*m+20 | .Hc m=>3*m+19 | .It=>14 | .HK=>13 | .Fs=>12 | .G5=>11 | .F0=>10 | .Im=>9 | .Ge=>8 | .Hx=>7
  | .Gf j=>5*n+90+50*(n - j) | .Ip j=>5*n+89+50*(n - j) | .Iw j=>5*n+88+50*(n - j) | .HB j=>5*n+87+50*(n - j) | .GU j=>5*n+86+50*(n - j) | .FH j=>5*n+85+50*(n - j)
  | .GM=>5*n+60 | .FB _ _=>2
  | .lk _ p=>Hg p
theorem X4{F:Fam}{p:Ph}{v w sm v' w' sm':Nat}{es:Array Event}{K:Nx}(h:F.act p v w sm=some ((v',w',sm'),es,K)):wt F.n K<wt F.n (.ph p):=by
  cases p <;> simp only [Fam.act] at h <;> (try (cases h;done))
  case Hb=>
    split at h
    ·cases h;split <;> simp [wt]
    ·cases h
  case FX=>
    split at h
    ·cases h;split <;> simp [wt] <;> omega
    ·cases h
  case Hc=>
    split at h
    ·split at h <;> cases h <;> simp [wt] <;> omega
    ·cases h
  case Ip=>
    split at h
    ·cases h;split <;> simp [wt]
    ·cases h
  all_goals first
    | (cases h;simp [wt];done)
    | (split at h
       ·cases h;simp [wt]
       ·cases h)
section
variable {F:Fam}{p:LP}{m m':M4}{q q':Nat}{es:Array Event}{o:Option LP}
theorem Xf(K:(m',q',es,o)∈F.BR p m q)(O:Dr p m q):wO o<Hg p∨(wO o=Hg p/\(oC kw o+q'<kw p+q∨(oC kw o+q'=kw p+q/\m'=m/\oC (lc m) o<lc m p))):=by
 cases p <;> simp only [Fam.BR,List.mem_singleton,Prod.mk.injEq,List.not_mem_nil] at K
 case G8=>
  split at K <;> simp only [List.mem_singleton,Prod.mk.injEq] at K <;> obtain⟨rfl,rfl,-,rfl⟩:=K
  ·exact .inl (by simp [wO,Hg])
  ·exact .inr ⟨rfl,.inr ⟨rfl,rfl,by simp [oC,lc]⟩⟩
 case DY sv aw it=>
  obtain⟨rfl,rfl,-,rfl⟩:=K;exact .inr ⟨rfl,.inr ⟨rfl,rfl,by simp [oC,lc]⟩⟩
 case Cd sv aw it old=>
  simp only [Fam.Fq,List.mem_append] at K;simp only [Dr] at O;obtain⟨k1,U,Y,Z,ac,-⟩:=O;rcases K with K | K
  ·split at K
   ·rename_i c;split at K
    ·rename_i c2;simp only [List.mem_singleton] at K;obtain⟨rfl,c3,c4⟩:=c2;split at K <;> simp only [Prod.mk.injEq] at K <;> obtain⟨rfl,rfl,-,rfl⟩:=K
     ·exact .inr ⟨rfl,.inl (by simp [oC,kw])⟩
     ·rename_i e;refine .inr ⟨rfl,.inr ⟨rfl,rfl,?_⟩⟩;simp only [oC,lc,if_neg e];omega
    ·simp only [List.mem_singleton,Prod.mk.injEq] at K;obtain⟨rfl,rfl,-,rfl⟩:=K;refine .inr ⟨rfl,.inr ⟨rfl,rfl,?_⟩⟩;simp only [oC,lc,if_true];omega
   ·simp at K
  ·split at K
   ·rename_i e;split at K
    ·simp only [List.mem_singleton,Prod.mk.injEq] at K;obtain⟨rfl,rfl,-,rfl⟩:=K;exact .inl (by simp [wO,Hg])
    ·simp only [List.mem_cons,List.not_mem_nil,or_false,Prod.mk.injEq] at K;rcases K with⟨rfl,rfl,-,rfl⟩ | ⟨rfl,rfl,-,rfl⟩ <;> exact .inr ⟨rfl,.inl (by cases aw <;> simp [oC,kw])⟩
   ·rename_i e;simp only [List.mem_singleton,Prod.mk.injEq] at K;obtain⟨rfl,rfl,-,rfl⟩:=K;refine .inr ⟨rfl,.inr ⟨rfl,rfl,?_⟩⟩;simp only [oC,lc,if_neg e];omega
 case Ck sv=>
  obtain⟨rfl,rfl,-,rfl⟩:=K;simp only [Dr] at O;cases sv
  ·refine .inr ⟨rfl,.inr ⟨?_,rfl,by simp [oC,lc]⟩⟩;simp only [oC,kw,Bool.false_eq_true,if_false];omega
  ·refine .inr ⟨rfl,.inr ⟨?_,rfl,by simp [oC,lc]⟩⟩;simp only [oC,kw,if_true];omega
 case FV=>
  simp only [List.mem_cons,List.not_mem_nil,or_false,Prod.mk.injEq] at K;rcases K with⟨rfl,rfl,-,rfl⟩ | ⟨rfl,rfl,-,rfl⟩ <;> exact .inr ⟨rfl,.inr ⟨rfl,rfl,by simp [oC,lc]⟩⟩
 case Es sv=>
  split at K <;> simp only [List.mem_singleton,Prod.mk.injEq] at K <;> obtain⟨rfl,rfl,-,rfl⟩:=K <;> exact .inr ⟨rfl,.inr ⟨rfl,rfl,by simp [oC,lc]⟩⟩
 case HE=>
  obtain⟨rfl,rfl,-,rfl⟩:=K;refine .inl ?_;split
  ·simp [wO,Hg]
  ·split <;> simp [wO,Hg]
 case Ez old=>
  split at K <;> simp only [List.mem_singleton,Prod.mk.injEq] at K <;> obtain⟨rfl,rfl,-,rfl⟩:=K
  ·exact .inl (by simp [wO,Hg])
  ·rename_i e;refine .inr ⟨rfl,.inr ⟨rfl,rfl,?_⟩⟩;simp only [oC,lc,if_neg e];omega
 case Hd=>
  obtain⟨rfl,rfl,-,rfl⟩:=K;split
  ·exact .inr ⟨rfl,.inr ⟨rfl,rfl,by simp [oC,lc]⟩⟩
  ·exact .inl (by simp [wO,Hg])
 case Ig sv=>obtain⟨rfl,rfl,-,rfl⟩:=K;exact .inr ⟨rfl,.inr ⟨rfl,rfl,by simp [oC,lc]⟩⟩
 case FY=>obtain⟨rfl,rfl,-,rfl⟩:=K;exact .inr ⟨rfl,.inr ⟨rfl,rfl,by simp [oC,lc]⟩⟩
 all_goals
  obtain⟨rfl,rfl,-,rfl⟩:=K;exact .inl (by simp [wO,Hg])
end
def Dn(N:Nat)(r' r:Nat->Rk):Prop:=∃i,i<N/\Rk.sub (r' i) (r i)/\∀j,j≠i->r' j=r j
theorem Dn.wf:∀N,WellFounded (Dn N)
 | 0=>⟨λ_=>⟨_,λ_ ⟨_,h,_⟩=>by omega⟩⟩
 | N+1=>⟨by
  have key:∀x:Rk,∀r:Nat->Rk,r N=x->Acc (Dn (N+1)) r:=by
   intro x
   induction x using Rk.wf.induction with
   | _ x Y=>
    intro r
    induction r using (Dn.wf N).induction with
    | _ r Z=>
     intro e
     refine⟨_,λr' ⟨i,hi,K,O⟩=>?_⟩
     by_cases U:i=N
     ·subst U;exact Y (r' i) (by rw [← e];exact K) r' rfl
     ·exact Z r' ⟨i,by omega,K,O⟩ (by rw [O N (Ne.symm U),e])
  exact λr=>key _ r rfl⟩
def chain:Nat->Rk
 | 0=> .leaf
 | n+1=> .node λ_=>chain n
theorem Vt(n:Nat)(w:World):Rk.sub (chain n) (chain (n+1)):=⟨_,w,rfl,rfl⟩
structure Mu where
 a:Nat
 k:Nat
 l:Nat
 N:Nat
 r:Nat->Rk
 b:Nat
def Mu.lt(x y:Mu):Prop:=x.a<y.a∨(x.a=y.a/\(x.k<y.k∨(x.k=y.k/\(x.l<y.l∨(x.l=y.l/\x.N=y.N/\(Dn y.N x.r y.r∨(x.r=y.r/\x.b<y.b)))))))
theorem Mu.wf:WellFounded Mu.lt:=⟨by
 have key:∀(a k l N:Nat) (r:Nat->Rk) (b:Nat),Acc Mu.lt ⟨a,k,l,N,r,b⟩:=by
  intro a
  induction a using Nat.strongRecOn with
  | _ a ag=>
   intro k
   induction k using Nat.strongRecOn with
   | _ k al=>
    intro l
    induction l using Nat.strongRecOn with
    | _ l am=>
     intro N r
     induction r using (Dn.wf N).induction with
     | _ r ap=>
      intro b
      induction b using Nat.strongRecOn with
      | _ b aq=>
       refine⟨_,λ⟨av,k',l',N',r',b'⟩ h=>?_⟩
       rcases h with h | ⟨K,h | ⟨O,h | ⟨U,Y,h | ⟨Z,ac⟩⟩⟩⟩
       ·exact ag av h k' l' N' r' b'
       ·simp only at K h;subst K;exact al k' h l' N' r' b'
       ·simp only at K O h;subst K O;exact am l' h N' r' b'
       ·simp only at K O U Y h;subst K O U Y;exact ap r' h b'
       ·simp only at K O U Y Z ac;subst K O U Y Z;exact aq b' ac
 exact λ⟨a,k,l,N,r,b⟩=>key a k l N r b⟩
def bit(b:Bool):Nat:=if b then 1 else 0
def mu(F:Fam)(N:Nat)(φ:Nat->Nx)(m:M4)(q:Nat)(r:Nat->Rk)(bt:Nat->Bool):Mu:=⟨sumTo N λi=>wt F.n (φ i),Sg kw N φ+q,Sg (lc m) N φ,N,r,sumTo N λi=>bit (bt i)⟩
section
variable {F:Fam}{N N' i k:Nat}{φ φ':Nat->Nx}{p:LP}{m m':M4}{q q':Nat}{es:Array Event}{o:Option LP}{r r':Nat->Rk}{b b':Nat->Bool}{x:Nx}{ρ:Rk}
theorem ZK(h:(sumTo N' λi=>wt F.n (φ' i))<sumTo N λi=>wt F.n (φ i)):Mu.lt (mu F N' φ' m' q' r' b') (mu F N φ m q r b):= .inl h
theorem SJ(hi:i<N)(h:wt F.n x<wt F.n (φ i)):Mu.lt (mu F N (upd φ i x) m' q' r' b') (mu F N φ m q r b):=by
 have:=sumTo_upd φ x (wt F.n) hi;exact .inl (by show(sumTo N λa=>wt F.n (upd φ i x a))<sumTo N λa=>wt F.n (φ a);omega)
theorem Ts(hi:i<N)(K:∀f,CX f x=CX f (φ i))(hw:wt F.n x=wt F.n (φ i))(h:Rk.sub ρ (r i)):Mu.lt (mu F N (upd φ i x) m q (upd r i ρ) b') (mu F N φ m q r b):=by
 have:=sumTo_upd φ x (wt F.n) hi;refine .inr ⟨by show(sumTo N λa=>wt F.n (upd φ i x a))=sumTo N λa=>wt F.n (φ a);omega,.inr ⟨by show Sg kw N (upd φ i x)+q=_;rw [MP kw hi (K kw).symm];rfl,.inr ⟨MP (lc m) hi (K _).symm,rfl,.inl ⟨i,hi,?_,λa O=>upd_ne _ _ O⟩⟩⟩⟩;show Rk.sub (upd r i ρ i) _;rw [upd_same];exact h
theorem Zt(hi:i<N)(K:φ i= .ph (.lk k p))(Y:(m',q',es,o)∈F.BR p m q)(Z:Dr p m q):Mu.lt (mu F N (upd φ i (.ph (Fam.CY k o))) m' q' r' b') (mu F N φ m q r b):=by
 have hw:=sumTo_upd φ (.ph (Fam.CY k o)) (wt F.n) hi;have ac:wt F.n (φ i)=Hg p:=by rw [K];rfl
 have e2:wt F.n (.ph (Fam.CY k o))=wO o:=by cases o <;> rfl
 rw [ac,e2] at hw;obtain⟨a,O,U⟩:=FA (k:=k) kw hi K;obtain⟨c,ag,al⟩:=FA (k:=k) (lc m) hi K;rcases Xf Y Z with h | ⟨ap,h | ⟨aq,am,av⟩⟩
 ·exact .inl (by show(sumTo N λa=>wt F.n (upd φ i _ a))<sumTo N λa=>wt F.n (φ a);omega)
 ·exact .inr ⟨by show(sumTo N λa=>wt F.n (upd φ i _ a))=sumTo N λa=>wt F.n (φ a);omega,.inl (by show Sg kw N (upd φ i _)+q'<Sg kw N φ+q;rw [O,U];omega)⟩
 ·subst am;exact .inr ⟨by show(sumTo N λa=>wt F.n (upd φ i _ a))=sumTo N λa=>wt F.n (φ a);omega,.inr ⟨by show Sg kw N (upd φ i _)+q'=Sg kw N φ+q;rw [O,U];omega,.inl (by show Sg (lc m') N (upd φ i _)<Sg (lc m') N φ;rw [ag,al];omega)⟩⟩
end
end Pal
namespace Pal
open Go Go.Conc
open Go.ConcN (upd upd_same upd_ne sumTo sumTo_upd sumTo_upd_out sumTo_congr le_sumTo sumTo_le fork_knows RelBy)
section
variable {F:Fam}{N0 t0 N j:Nat}{φ:Nat->Nx}{S:Nat->St}{t u:Trace}{v wt sm v' wt' sm':Nat}
theorem MD{α:Type}(f:Nat->α)(i:Nat):upd f i (f i)=f:=by
 funext a;unfold upd;split
 ·rename_i e;rw [e]
 ·rfl
def Ft(F:Fam)(K:Prop)(e:Event):Prop:=
 (∀a,(MemAct.ofEvent e).touch? =some a->(∃b,Cy a.loc=some b/\(b=F.wg∨b=F.mu))/\a.kind≠ .plain/\(a.kind= .said->K))/\e.loc≠ .mark (.release F.sA)
theorem Ft.toS{K:Prop}{e:Event}{i:Nat}(h:Ft F K e)(O:K->i=0):EvS F N0 j i e:=
 ⟨λa U=>let ⟨⟨b,Y,Z⟩,ac,ag⟩:=h.1 a U;⟨b,Y,.inl ⟨Z,ac,λq=>O (ag q)⟩⟩,h.2⟩
theorem Ft.keep{O:Prop}{e:Event}{i:Nat}(h:Ft F O e)(Y:O->i=0)(Z:F.fd≠F.wg)(ac:F.fd≠F.mu):(∀a b,(MemAct.ofEvent e).touch? =some a->Cy a.loc=some b->(b=F.wg∨b=F.mu)->a.kind≠ .plain/\(a.kind= .said->i=0))/\
   (∀a,(MemAct.ofEvent e).touch? =some a->Cy a.loc=some F.fd->∃k,k<j/\i=N0+k/\a.loc= .cell ⟨F.fd,k,none⟩/\a.kind= .plain)/\e.loc≠ .mark (.release F.sA):=
 ⟨λa b K _ _=>⟨(h.1 a K).2.1,λq=>Y ((h.1 a K).2.2 q)⟩,λa K hb=>by
  obtain⟨⟨b,U,ag⟩,-⟩:=h.1 a K
  rw [hb] at U
  obtain rfl:=Option.some.inj U
  rcases ag with e | e
  ·exact absurd e Z
  ·exact absurd e ac,h.2⟩
theorem QJ{m:Mark}(K:∀a,m≠ .read a)(O:∀a,m≠ .write a):(MemAct.ofEvent (Fam.Cs m)).touch? =none:=by
 cases m <;> first | rfl | exact absurd rfl (K _) | exact absurd rfl (O _)
theorem Yo(p:Ph){es:Array Event}{aq:Nx}(K:F.act p v wt sm=some ((v',wt',sm'),es,aq)):
  (∀e∈es,Ft F (p= .HK∨∃j,p= .HB j) e)/\deafBehind (FG (.ph p)) es=FG aq/\(∀e∈es,∀B,F.wg<B->(MemAct.ofEvent e).low B):=by
 have aI:∀b w,(MemAct.ofEvent ⟨.cell F.sA,w,b⟩).touch? =some ⟨.cell F.sA,w,if b then .atomic else .plain⟩:=by intro b w;cases b <;> cases w <;> rfl
 have ac:∀(a:Addr) w (T:Prop),a.block=F.wg->Ft F T ⟨.cell a,w,true⟩:=by
  intro a w T hb;refine⟨λx U=>?_,by simp⟩;have:x=⟨.cell a,w,.atomic⟩:=by cases w <;> (simp [MemAct.ofEvent,MemAct.touch?] at U;exact U.symm)
  subst this;exact⟨⟨F.wg,by simp [Cy,hb],.inl rfl⟩,by simp,by simp⟩
 have ag:∀(a:Addr) w B,a.block=F.wg->F.wg<B->(MemAct.ofEvent ⟨.cell a,w,true⟩).low B:=by
  intro a w B hb O;cases w <;> simp [MemAct.ofEvent,MemAct.low,Loc.low,hb,O]
 have GW:∀(m:Mark) (T:Prop),(∀a,m≠ .read a)->(∀a,m≠ .write a)->(∀a,m≠ .release a)->Ft F T (Fam.Cs m):=by
  intro m T aw ay az;exact⟨λx U=>(by rw [QJ aw ay] at U;cases U),λe=>az _ (Loc.mark.inj e)⟩
 have al:F.mA.block=F.wg:=rfl;have Z:F.sA.block=F.wg:=rfl;have ES:∀(T:Prop),∀e∈semEvents F.mA,Ft F T e:=by
  intro T e he;simp only [semEvents,List.mem_toArray,List.mem_cons,List.not_mem_nil,or_false] at he;rcases he with rfl | rfl | rfl | rfl
  ·exact GW .disable T (by simp) (by simp) (by simp)
  ·exact ac _ _ _ al
  ·exact ac _ _ _ al
  ·exact GW .enable T (by simp) (by simp) (by simp)
 have av:∀e∈semEvents F.mA,∀B,F.wg<B->(MemAct.ofEvent e).low B:=by
  intro e he B O;simp only [semEvents,List.mem_toArray,List.mem_cons,List.not_mem_nil,or_false] at he;rcases he with rfl | rfl | rfl | rfl
  ·trivial
  ·exact ag _ _ _ al O
  ·exact ag _ _ _ al O
  ·trivial
 have am:∀(T:Prop),∀e∈(#[Fam.B6 F.sA,Fam.Ej F.sA]:Array Event),Ft F T e:=by
  intro T e he;simp only [List.mem_toArray,List.mem_cons,List.not_mem_nil,or_false] at he;rcases he with rfl | rfl <;> exact ac _ _ _ Z
 have ap:∀e∈(#[Fam.B6 F.sA,Fam.Ej F.sA]:Array Event),∀B,F.wg<B->(MemAct.ofEvent e).low B:=by
  intro e he B O;simp only [List.mem_toArray,List.mem_cons,List.not_mem_nil,or_false] at he;rcases he with rfl | rfl <;> exact ag _ _ _ Z O
 have one:∀{e:Event} {T:Prop},Ft F T e->∀x∈(#[e]:Array Event),Ft F T x:=by
  intro e T h x U;simp at U;subst U;exact h
 have Y:∀{e:Event},(∀B,F.wg<B->(MemAct.ofEvent e).low B)->∀x∈(#[e]:Array Event),∀B,F.wg<B->(MemAct.ofEvent x).low B:=by
  intro e h x U;simp at U;subst U;exact h
 cases p <;> simp only [Fam.act] at K <;> (try (cases K;done))
 ·cases K;exact⟨one (GW _ _ (by simp) (by simp) (by simp)),rfl,Y λB O=>O⟩
 ·cases K;exact⟨one (GW _ _ (by simp) (by simp) (by simp)),rfl,Y λB O=>trivial⟩
 ·split at K
  ·cases K;exact⟨am _,by split <;> rfl,ap⟩
  ·cases K
 ·split at K
  ·cases K;exact⟨one (ac _ _ _ Z),rfl,Y λB O=>ag _ _ _ Z O⟩
  ·cases K
 ·split at K
  ·cases K;exact⟨one (ac _ _ _ Z),rfl,Y λB O=>ag _ _ _ Z O⟩
  ·cases K
 ·split at K
  ·cases K;exact⟨ES _,rfl,av⟩
  ·cases K
 ·cases K;exact⟨one (GW _ _ (by simp) (by simp) (by simp)),rfl,Y λB O=>trivial⟩
 ·split at K
  ·cases K;exact⟨one (ac _ _ _ Z),by split <;> rfl,Y λB O=>ag _ _ _ Z O⟩
  ·cases K
 ·split at K
  ·split at K
   ·cases K;exact⟨am _,rfl,ap⟩
   ·cases K;exact⟨one (ac _ _ _ Z),rfl,Y λB O=>ag _ _ _ Z O⟩
  ·cases K
 ·cases K;refine⟨one ⟨λx U=>?_,by simp [Fam.Cs]⟩,rfl,Y λB O=>O⟩;simp [Fam.Cs,MemAct.ofEvent,MemAct.touch?] at U;subst U;exact⟨⟨F.wg,rfl,.inl rfl⟩,by simp,λ_=> .inl rfl⟩
 ·split at K
  ·cases K;exact⟨ES _,rfl,av⟩
  ·cases K
 ·split at K
  ·cases K;exact⟨one (ac _ _ _ Z),rfl,Y λB O=>ag _ _ _ Z O⟩
  ·cases K
 ·cases K;exact⟨one (GW _ _ (by simp) (by simp) (by simp)),rfl,Y λB O=>trivial⟩
 ·cases K;exact⟨one (GW _ _ (by simp) (by simp) (by simp)),rfl,Y λB O=>trivial⟩
 ·split at K
  ·cases K;exact⟨am _,by split <;> rfl,ap⟩
  ·cases K
 ·cases K;refine⟨one ⟨λx U=>?_,by simp [Fam.Cs]⟩,rfl,Y λB O=>O⟩;simp [Fam.Cs,MemAct.ofEvent,MemAct.touch?] at U;subst U;exact⟨⟨F.wg,rfl,.inl rfl⟩,by simp,λ_=> .inr ⟨_,rfl⟩⟩
 ·cases K;exact⟨one (GW _ _ (by simp) (by simp) (by simp)),rfl,Y λB O=>trivial⟩
 all_goals
  cases K;exact⟨by simp,rfl,by simp⟩
theorem V7(p:Ph){es:Array Event}{U:Nx}(K:F.act p v wt sm=some ((v',wt',sm'),es,U)){k:Nat}(hw:GJ F k (.ph p))(O:late (.ph p)):
  ∀m e,es[m]? =some e->(MemAct.ofEvent e).touch? =none∨((∃ad wr,e=⟨.cell ad,wr,true⟩)/\0<deafBehind (FG (.ph p)) (es.extract 0 m)):=by
 have two:∀m e,(#[Fam.B6 F.sA,Fam.Ej F.sA]:Array Event)[m]? =some e->(∃ad wr,e=⟨.cell ad,wr,true⟩)/\0<deafBehind 1 ((#[Fam.B6 F.sA,Fam.Ej F.sA]:Array Event).extract 0 m):=by
  intro m e h
  match m with
  | 0=>simp at h;subst h;exact⟨⟨_,_,rfl⟩,by simp [deafBehind]⟩
  | 1=>simp at h;subst h;exact⟨⟨_,_,rfl⟩,by simp [deafBehind,Fam.B6]⟩
  | m+2=>simp at h
 cases p <;> simp only [GJ] at hw <;> (try exact hw.elim) <;> simp only [late] at O <;> (try exact O.elim) <;> simp only [Fam.act] at K <;> (try (cases K;done))
 ·cases K;intro m e h
  match m with
  | 0=>simp at h;subst h;exact .inl rfl
  | m+1=>simp at h
 ·split at K
  ·cases K;exact λm e h=> .inr (two m e h)
  ·cases K
 ·split at K
  ·cases K;intro m e h
   match m with
   | 0=>simp at h;subst h;exact .inr ⟨⟨_,_,rfl⟩,by simp [deafBehind,FG]⟩
   | m+1=>simp at h
  ·cases K
 ·split at K
  ·cases K;intro m e h
   match m with
   | 0=>simp at h;subst h;exact .inr ⟨⟨_,_,rfl⟩,by simp [deafBehind,FG]⟩
   | m+1=>simp at h
  ·cases K
 ·split at K
  ·cases K;intro m e h
   match m with
   | 0=>simp [semEvents] at h;subst h;exact .inl rfl
   | 1=>simp [semEvents] at h;subst h;exact .inr ⟨⟨_,_,rfl⟩,by simp [deafBehind,FG,semEvents]⟩
   | 2=>simp [semEvents] at h;subst h;exact .inr ⟨⟨_,_,rfl⟩,by simp [deafBehind,FG,semEvents]⟩
   | 3=>simp [semEvents] at h;subst h;exact .inl rfl
   | m+4=>simp [semEvents] at h
  ·cases K
theorem W2{p:LP}{m m':M4}{q q':Nat}{es:Array Event}{o:Option LP}(K:(m',q',es,o)∈F.BR p m q):
  (∀e∈es,Ft F False e)/\deafBehind (dl p) es=oC dl o/\(∀e∈es,∀B,F.mu<B->(MemAct.ofEvent e).low B):=by
 have ac:∀(a:Addr) w,a.block=F.mu->Ft F False ⟨.cell a,w,true⟩:=by
  intro a w hb;refine⟨λx Z=>?_,by simp⟩;have:x=⟨.cell a,w,.atomic⟩:=by cases w <;> (simp [MemAct.ofEvent,MemAct.touch?] at Z;exact Z.symm)
  subst this;exact⟨⟨F.mu,by simp [Cy,hb],.inr rfl⟩,by simp,by simp⟩
 have ag:∀(a:Addr) w B,a.block=F.mu->F.mu<B->(MemAct.ofEvent ⟨.cell a,w,true⟩).low B:=by
  intro a w B hb O;cases w <;> simp [MemAct.ofEvent,MemAct.low,Loc.low,hb,O]
 have GW:∀(m:Mark),(∀a,m≠ .read a)->(∀a,m≠ .write a)->(∀a,m≠ .release a)->Ft F False (Fam.Cs m):=by
  intro m al am ap;exact⟨λx Z=>(by rw [QJ al am] at Z;cases Z),λe=>ap _ (Loc.mark.inj e)⟩
 have nil:∀d,(∀e∈(#[]:Array Event),Ft F False e)/\deafBehind d #[]=d/\(∀e∈(#[]:Array Event),∀B,F.mu<B->(MemAct.ofEvent e).low B):=λd=>⟨by simp,rfl,by simp⟩;have rd:∀d,(∀e∈(#[Fam.B6 F.uA]:Array Event),Ft F False e)/\deafBehind d #[Fam.B6 F.uA]=d/\(∀e∈(#[Fam.B6 F.uA]:Array Event),∀B,F.mu<B->(MemAct.ofEvent e).low B):=λd=>
  ⟨λe he=>by simp at he;subst he;exact ac _ _ rfl,rfl,λe he B O=>by simp at he;subst he;exact ag _ _ _ rfl O⟩
 have U:∀d,(∀e∈(#[Fam.B6 F.uA,Fam.Ej F.uA]:Array Event),Ft F False e)/\deafBehind d #[Fam.B6 F.uA,Fam.Ej F.uA]=d/\(∀e∈(#[Fam.B6 F.uA,Fam.Ej F.uA]:Array Event),∀B,F.mu<B->(MemAct.ofEvent e).low B):=λd=>
  ⟨λe he=>by
   simp only [List.mem_toArray,List.mem_cons,List.not_mem_nil,or_false] at he
   rcases he with rfl | rfl <;> exact ac _ _ rfl,rfl,λe he B O=>by
   simp only [List.mem_toArray,List.mem_cons,List.not_mem_nil,or_false] at he
   rcases he with rfl | rfl <;> exact ag _ _ _ rfl O⟩
 have ES:(∀e∈semEvents F.qA,Ft F False e)/\deafBehind 1 (semEvents F.qA)=1/\(∀e∈semEvents F.qA,∀B,F.mu<B->(MemAct.ofEvent e).low B):=by
  refine⟨λe he=>?_,rfl,λe he B O=>?_⟩
  ·simp only [semEvents,List.mem_toArray,List.mem_cons,List.not_mem_nil,or_false] at he;rcases he with rfl | rfl | rfl | rfl
   ·exact GW .disable (by simp) (by simp) (by simp)
   ·exact ac _ _ rfl
   ·exact ac _ _ rfl
   ·exact GW .enable (by simp) (by simp) (by simp)
  ·simp only [semEvents,List.mem_toArray,List.mem_cons,List.not_mem_nil,or_false] at he;rcases he with rfl | rfl | rfl | rfl
   ·trivial
   ·exact ag _ _ _ rfl O
   ·exact ag _ _ _ rfl O
   ·trivial
 have Y:∀(m:Mark) (d d':Nat),(∀a,m≠ .read a)->(∀a,m≠ .write a)->(∀a,m≠ .release a)->deafBehind d #[Fam.Cs m]=d'->(∀B,F.mu<B->(MemAct.ofEvent (Fam.Cs m)).low B)->
   (∀e∈(#[Fam.Cs m]:Array Event),Ft F False e)/\deafBehind d #[Fam.Cs m]=d'/\(∀e∈(#[Fam.Cs m]:Array Event),∀B,F.mu<B->(MemAct.ofEvent e).low B):=λm d d' al am ap aq av=>
  ⟨λe he=>by simp at he;subst he;exact GW m al am ap,aq,λe he B O=>by simp at he;subst he;exact av B O⟩
 cases p <;> simp only [Fam.BR,List.mem_singleton,Prod.mk.injEq,List.not_mem_nil] at K
 case FY=>obtain⟨rfl,rfl,rfl,rfl⟩:=K;exact Y .disable 0 1 (by simp) (by simp) (by simp) rfl λB O=>trivial
 case G8=>
  split at K <;> simp only [List.mem_singleton,Prod.mk.injEq] at K <;> obtain⟨rfl,rfl,rfl,rfl⟩:=K
  ·exact U 1
  ·exact rd 1
 case Cd sv aw it old=>
  simp only [Fam.Fq,List.mem_append] at K;rcases K with K | K
  ·split at K
   ·split at K
    ·simp only [List.mem_singleton] at K;split at K <;> simp only [Prod.mk.injEq] at K <;> obtain⟨rfl,rfl,rfl,rfl⟩:=K
     ·exact U 1
     ·exact rd 1
    ·simp only [List.mem_singleton,Prod.mk.injEq] at K;obtain⟨rfl,rfl,rfl,rfl⟩:=K;exact nil 1
   ·simp at K
  ·split at K
   ·split at K
    ·simp only [List.mem_singleton,Prod.mk.injEq] at K;obtain⟨rfl,rfl,rfl,rfl⟩:=K;exact U 1
    ·simp only [List.mem_cons,List.not_mem_nil,or_false,Prod.mk.injEq] at K;rcases K with⟨rfl,rfl,rfl,rfl⟩ | ⟨rfl,rfl,rfl,rfl⟩ <;> exact U 1
   ·simp only [List.mem_singleton,Prod.mk.injEq] at K;obtain⟨rfl,rfl,rfl,rfl⟩:=K;exact rd 1
 case Ck sv=>obtain⟨rfl,rfl,rfl,rfl⟩:=K;cases sv <;> exact ES
 case FV=>
  simp only [List.mem_cons,List.not_mem_nil,or_false,Prod.mk.injEq] at K;rcases K with⟨rfl,rfl,rfl,rfl⟩ | ⟨rfl,rfl,rfl,rfl⟩ <;> exact nil 1
 case Es sv=>split at K <;> simp only [List.mem_singleton,Prod.mk.injEq] at K <;> obtain⟨rfl,rfl,rfl,rfl⟩:=K <;> exact nil 1
 case HE=>
  obtain⟨rfl,rfl,rfl,rfl⟩:=K;split
  ·exact U 1
  ·split <;> exact U 1
 case Ez old=>
  split at K <;> simp only [List.mem_singleton,Prod.mk.injEq] at K <;> obtain⟨rfl,rfl,rfl,rfl⟩:=K
  ·exact U 1
  ·exact rd 1
 case Hd=>obtain⟨rfl,rfl,rfl,rfl⟩:=K;split <;> exact nil 1
 case ER b=>obtain⟨rfl,rfl,rfl,rfl⟩:=K;exact ES
 case len=>obtain⟨rfl,rfl,rfl,rfl⟩:=K;exact Y .enable 1 0 (by simp) (by simp) (by simp) rfl λB O=>trivial
 case ET=>obtain⟨rfl,rfl,rfl,rfl⟩:=K;exact Y .enable 1 0 (by simp) (by simp) (by simp) rfl λB O=>trivial
 case JI=>obtain⟨rfl,rfl,rfl,rfl⟩:=K;exact Y .disable 0 1 (by simp) (by simp) (by simp) rfl λB O=>trivial
 case JH=>obtain⟨rfl,rfl,rfl,rfl⟩:=K;exact Y (.acquire F.uA) 0 0 (by simp) (by simp) (by simp) rfl λB O=>O
 case JX=>obtain⟨rfl,rfl,rfl,rfl⟩:=K;exact Y (.releaseMerge F.uA) 0 0 (by simp) (by simp) (by simp) rfl λB O=>O
 all_goals
  obtain⟨rfl,rfl,rfl,rfl⟩:=K
 all_goals first | exact nil 0 | exact nil 1 | exact U 1
end
end Pal
namespace Pal
open Go Go.Conc
open Go.ConcN (upd upd_same upd_ne sumTo sumTo_upd sumTo_upd_out sumTo_congr le_sumTo sumTo_le fork_knows RelBy)
def Cl(c:Bool)(N:Nat)(φ:Nat->Nx):Nat->Nx:=λi=>if c=true/\i=N then φ 0 else if c=true/\i=0 then .ph (.FB [] []) else φ i
theorem I9{N:Nat}{φ:Nat->Nx}:Cl false N φ=φ:=by funext i;simp [Cl]
theorem IJ{c:Bool}{N:Nat}{φ:Nat->Nx}{i:Nat}(K:i≠0)(O:i≠N):Cl c N φ i=φ i:=by simp [Cl,K,O]
theorem JE{N:Nat}{φ:Nat->Nx}:Cl true N φ N=φ 0:=by simp [Cl]
theorem MQ{c:Bool}{N:Nat}{φ:Nat->Nx}{i:Nat}{x:Nx}(K:i≠0)(O:i≠N):upd (Cl c N φ) i x=Cl c N (upd φ i x):=by
 funext a;unfold Cl;by_cases e:a=i
 ·subst e;rw [upd_same,if_neg (by simp [O]),if_neg (by simp [K]),upd_same]
 ·rw [upd_ne _ _ e];rw [upd_ne φ x (Ne.symm K),upd_ne _ _ e]
theorem WI{N:Nat}{φ:Nat->Nx}{x:Nx}(O:N≠0):upd (Cl true N φ) N x=Cl true N (upd φ 0 x):=by
 funext a;unfold Cl;by_cases e:a=N
 ·subst e;simp [upd_same]
 ·rw [upd_ne _ _ e];by_cases K:a=0
  ·subst K;simp [e]
  ·rw [upd_ne φ x K];simp [e,K]
def Hw:Nx->Bool
 | .gone _=>true
 | .ph p=>Fam.Cx p
def loc(x:Nx)(s:St):St:=if Hw x=true then .quiet else s
def Gv:LP->Prop
 | .Gy | .JW | .JX | .JI | .HE | .Ez _ | .Hd | .ER _ | .ET=>True
 | _=>False
def stored:Nx->Prop
 | .gone _=>True
 | .ph (.lk _ p)=>Gv p
 | .ph .HJ | .ph .Gw | .ph .IP | .ph .Hb | .ph .GK | .ph .G6 | .ph .Fa=>True
 | _=>False
def Pn(p:Ph):Prop:=p= .Fs∨∃k sv,p= .lk k (.Ck sv)
inductive Gz (P:Program) (F:Fam) (main:Bool):Nx->Rk->Bool->Gs_
 | walk {p:Ph} {r:Rk} {g:Goroutine} {s:St}:main=Fam.Co p->(Fam.Cx p=true->s= .quiet)->Jr P main (JQ (Stop P F p)) r g s->Gz P F main (.ph p) r true g s
 | blk {p:Ph} {r:Rk} {g:Goroutine} {s:St}:Pn p->main=Fam.Co p->Stop P F p g s->Gz P F main (.ph p) r false {g with status:= .blocked} s
 | gone {q d:Nat} {g:Goroutine}:main=false->QuitsD P q d g->Gz P F main (.gone d) (chain q) true g .quiet
section
variable {P:Program}{F:Fam}{main:Bool}
theorem Jr.running{p:Ph}{r:Rk}{g:Goroutine}{s:St}(h:Jr P main (JQ (Stop P F p)) r g s):g.status= .running:=by
 cases r with
 | leaf=>obtain⟨s₀,_,K⟩:=h;exact K.law.run
 | node f=>
  rcases h with⟨s₀,_,K⟩ | ⟨O,_⟩
  ·exact K.law.run
  ·exact O
theorem Jr.at_{Q:GP}{r:Rk}{g:Goroutine}{s:St}(h:Q g s):Jr P main Q r g s:=by
 cases r with
 | leaf=>exact h
 | node f=>exact .inl h
theorem Gz.awake{x:Nx}{r:Rk}{b:Bool}{g:Goroutine}{s:St}(h:Gz P F main x r b g s):Go.Conc.awake g:=by
 cases h with
 | walk _ _ K=>exact awake_of (.inl K.running)
 | blk _ _ _=>exact awake_of (.inr (.inl rfl))
 | gone _ O=>exact awake_of (O.status.elim .inl λx=> .inr (.inr x))
theorem T7{g:Goroutine}(h:g.status= .running):{({g with status:= .blocked}:Goroutine) with status:= .running}=g:=by
 obtain⟨a,b,c,d,e⟩:=g;simp only at h;subst h;rfl
theorem Qk{p:Ph}(h:Pn p):Fam.Cx p=false:=by
 rcases h with rfl | ⟨k,sv,rfl⟩ <;> rfl
theorem Gz.woken{x:Nx}{r:Rk}{b:Bool}{o:Goroutine}{s:St}(h:Gz P F main x r b o s){g g':Goroutine}{w':World}:
  ∃b',Gz P F main x r b' (Go.Conc.woken P g g' w' o) s/\(b=true->b'=true)/\(mayWake P g=true->g'.status= .running->b'=true):=by
 have am:∀(o:Goroutine),Go.Conc.woken P g g' w' o=o.again w'∨Go.Conc.woken P g g' w' o=o:=by
  intro o;unfold Go.Conc.woken;split
  ·exact .inl rfl
  ·exact .inr rfl
 cases h with
 | walk K ap Y=>exact⟨true,by rw [woken_run Y.running];exact .walk K ap Y,λ_=>rfl,λ_ _=>rfl⟩
 | @blk p _ go _ Z K O=>
  have ac:({go with status:= .blocked}:Goroutine).again w'=go:=by
   have:=O.law.offers;have aq:({go with status:= .blocked}:Goroutine).again w'={({go with status:= .blocked}:Goroutine) with status:= .running}:=by simp [Goroutine.again,this]
   rw [aq];exact T7 O.law.run
  have ag:Gz P F main (.ph p) r true go s:= .walk K (λq=>by rw [Qk Z] at q;cases q) (Jr.at_ ⟨s,.refl _,O⟩);by_cases U:mayWake P g=true/\g'.status= .running
  ·have e:Go.Conc.woken P g g' w' ({go with status:= .blocked}:Goroutine)=({go with status:= .blocked}:Goroutine).again w':=by
    unfold Go.Conc.woken;rw [if_pos (by simp [U.1,U.2])]
   exact⟨true,by rw [e,ac];exact ag,λ_=>rfl,λ_ _=>rfl⟩
  ·rcases am ({go with status:= .blocked}:Goroutine) with e | e
   ·exact⟨true,by rw [e,ac];exact ag,λ_=>rfl,λa b=>absurd ⟨a,b⟩ U⟩
   ·exact⟨false,by rw [e];exact .blk Z K O,λe=>e,λa b=>absurd ⟨a,b⟩ U⟩
 | gone K al=>exact⟨true,by rw [woken_quitsD al];exact .gone K al,λ_=>rfl,λ_ _=>rfl⟩
end
structure Base where
 N0:Nat
 t0:Nat
 E0:LH
 w0:World
structure Inv (P:Program) (F:Fam) (B:Base) (gs:Array Goroutine) (w:World) (t:Trace) (φ:Nat->Nx) (r:Nat->Rk) (bt:Nat->Bool) (S:Nat->St) (Sh:Nat->Prop) (j:Nat) (c:Bool) (v wt sm:Nat) (m:M4) (q:Nat) (f:Nat->Value):Prop where
 Cr:Cq F B.N0 (gs.size+c.toNat) j c (Cl c gs.size φ) v wt sm false
 lock:LI gs.size φ m q
 EA:EO F B.N0 B.t0 gs.size j φ S t
 Kv:∀i g,gs[i]? =some g->Gz P F (i==0) (φ i) (r i) (bt i) g (loc (φ i) (S i))
 B4:BP t w gs.size S Sh
 HI:Sh F.wg
 Iu:Sh F.mu
 IQ:Sh F.fd
 L6:F.mu≠F.wg
 JV:F.fd≠F.wg
 JY:F.fd≠F.mu
 HN:F.n<134217728
 mn:φ 0≠ .ph .GM/\φ 0≠ .ph .Hx
 wg:F.WG w v wt sm
 Je:F.MU w m q
 Gh:F.FD w f
 blk:∀i,i<gs.size->bt i=false->(i=0/\φ 0= .ph .Fs/\sm=0)∨((∃k sv,φ i= .ph (.lk k (.Ck sv)))/\q=0)
 Iv:∀k,k<j->stored (φ (B.N0+k))->F.msg k (f k) (S (B.N0+k)).E
 le:Le B.E0 (S 0).E
 tape:w.tape=B.w0.tape
 os:Gg B.w0.os w.os
 output:w.output=B.w0.output
section
variable {P:Program}{F:Fam}{B:Base}{gs:Array Goroutine}{w w':World}{t:Trace}{φ:Nat->Nx}{r:Nat->Rk}{bt:Nat->Bool}{S:Nat->St}{Sh:Nat->Prop}{j:Nat}{c:Bool}{v wt' sm v₁ wt₁ sm₁:Nat}{m m₁:M4}{q q₁:Nat}{f f₁:Nat->Value}
theorem Inv.at_(h:Inv P F B gs w t φ r bt S Sh j c v wt' sm m q f)(d:Nat):Inv P F B gs (w.at d) t φ r bt S Sh j c v wt' sm m q f:=
 have K:BP t (w.at d) gs.size S Sh:=by
  have:=h.B4.mute (u:= #[]) (w':=w.at d) (g:=0) (by simp) (by simp) (by simp) rfl;simpa using this
 {h with B4:=K}
theorem Inv.size(h:Inv P F B gs w t φ r bt S Sh j c v wt' sm m q f):gs.size=B.N0+j:=by have:=h.Cr.size;omega
theorem Inv.Et(h:Inv P F B gs w t φ r bt S Sh j c v wt' sm m q f){i:Nat}(hi:i<gs.size):i=0∨(i≠0/\∃d,φ i= .gone d/\i<B.N0)∨∃k,k<j/\i=B.N0+k/\i≠0/\GJ F k (φ i):=by
 have Y:=h.size;have Z:=h.Cr.pos;rcases Nat.eq_zero_or_pos i with K | K
 ·exact .inl K
 rcases Nat.lt_or_ge i B.N0 with O | O
 ·have:=h.Cr.old i K O;rw [IJ (by omega) (by omega)] at this;cases U:φ i with
  | gone d=>exact .inr (.inl ⟨by omega,d,rfl,O⟩)
  | ph p=>rw [U] at this;exact this.elim
 ·have:=h.Cr.work (i - B.N0) (by omega);rw [show B.N0+(i - B.N0)=i by omega,IJ (by omega) (by omega)] at this;exact .inr (.inr ⟨i - B.N0,by omega,by omega,by omega,this⟩)
theorem Inv.main(h:Inv P F B gs w t φ r bt S Sh j c v wt' sm m q f):∃p,φ 0= .ph p/\Fam.Co p=true/\((c=false/\Hv F.n j c p)∨(c=true/\Jc (.ph p))):=by
 have Z:=h.size;cases K:c with
 | false=>
  have:=h.Cr.main;rw [K,I9] at this;obtain⟨p,Y,O⟩:=this;exact⟨p,Y,by cases p <;> simp [Hv] at O <;> rfl,.inl ⟨rfl,O⟩⟩
 | true=>
  have:=h.Cr.cls K;have ac:=h.Cr.cj K;rw [K,show B.N0+F.n=gs.size by omega,JE] at this;cases U:φ 0 with
  | gone d=>
   have:=h.Cr.mode;rw [if_pos K,K,show B.N0+F.n=gs.size by omega,JE,U] at this;simp [Dm] at this
  | ph p=>rw [U] at this;exact⟨p,rfl,by cases p <;> simp [Jc] at this <;> rfl,.inr ⟨rfl,this⟩⟩
theorem Jx(a b:LP->Nat)(N:Nat)(φ:Nat->Nx):Sg (λp=>a p+b p) N φ=Sg a N φ+Sg b N φ:=by
 unfold Sg
 induction N with
 | zero=>rfl
 | succ N K=>
  simp only [sumTo,K];have:CX (λp=>a p+b p) (φ N)=CX a (φ N)+CX b (φ N):=by
   cases φ N with
   | gone d=>rfl
   | ph p=>cases p <;> rfl
  omega
theorem Oi{a b:Nat->Nat}:∀{N M:Nat},N<=M->(∀i,i<N->a i<=b i)->sumTo N a<=sumTo M b
 | 0,_,_,_=>by simp [sumTo]
 | N+1,0,h,_=>by omega
 | N+1,M+1,h,K=>by
  rcases Nat.lt_or_ge N M with q | q
  ·have O:sumTo (N+1) a<=sumTo M b:=Oi (by omega) K
   simp only [sumTo] at O ⊢;omega
  ·obtain rfl:N=M:=by omega
   have O:sumTo N a<=sumTo N b:=Oi (Nat.le_refl _) λi hi=>K i (by omega);have U:=K N (by omega);simp only [sumTo];omega
theorem Inv.small(h:Inv P F B gs w t φ r bt S Sh j c v wt' sm m q f):CR m:=by
 have Y:=h.size;have hb:Sg (λp=>(pQ p+pV p)+pD p) gs.size φ<=sumTo (gs.size+c.toNat) λi=>cU (Cl c gs.size φ i):=by
  refine Oi (by omega) λi hi=>?_;rcases Nat.eq_zero_or_pos i with rfl | Z
  ·obtain⟨p,O,hm,_⟩:=h.main;rw [O];cases p <;> first | (simp [CX];done) | (simp [Fam.Co] at hm)
  ·rw [IJ (by omega) (by omega)];cases φ i with
   | gone d=>simp [CX]
   | ph p=>
    cases p <;> simp only [CX] <;> (try omega)
    rename_i k l;cases l <;> simp [pQ,pV,pD,cU]
 rw [Jx,Jx] at hb;have ac:=h.Cr.cnt;have ag:=h.Cr.PS;obtain⟨l1,l2,U⟩:=h.lock.ln;have al:=h.HN;show m.w<134217728;cases K:m.s with
 | false=>have:=(l2 K).2.2.2.1;omega
 | true=>have:=(U K).2.2.2.2.1;omega
theorem Inv.go(h:Inv P F B gs w t φ r bt S Sh j c v wt' sm m q f){i:Nat}{g g':Goroutine}{es:Array Event}{x:Nx}{ρ:Rk}{s':St}(hi:gs[i]? =some g)
  (aq:Cq F B.N0 (gs.size+c.toNat) j c (Cl c gs.size (upd φ i x)) v₁ wt₁ sm₁ false) (av:LI gs.size (upd φ i x) m₁ q₁)
  (aw:EO F B.N0 B.t0 gs.size j (upd φ i x) (upd S i s') (t++MemOp.ofEvents i g.frame.fn g.frame.place es))
  (ay:Gz P F (i==0) x ρ true g' (loc x s'))
  (hC:BP (t++MemOp.ofEvents i g.frame.fn g.frame.place es) w' gs.size (upd S i s') Sh)
  (az:F.WG w' v₁ wt₁ sm₁) (aI:F.MU w' m₁ q₁) (aJ:F.FD w' f₁)
  (aK:sm₁≠0->sm=0->mayWake P g=true/\g'.status= .running) (aL:q₁≠0->q=0->mayWake P g=true/\g'.status= .running)
  (aM:∀k,k<j->stored (upd φ i x (B.N0+k))->F.msg k (f₁ k) (upd S i s' (B.N0+k)).E)
  (aN:i=0->x≠ .ph .GM/\x≠ .ph .Hx) (aO:i=0->Le (S 0).E s'.E) (aP:w'.tape=w.tape) (aQ:Gg w.os w'.os) (aR:w'.output=w.output):
  ∃O,Inv P F B ((gs.map (woken P g g' w')).setIfInBounds i g') w' (t++MemOp.ofEvents i g.frame.fn g.frame.place es) (upd φ i x) (upd r i ρ) O (upd S i s') Sh j c v₁ wt₁ sm₁ m₁ q₁ f₁:=by
 have aS:i<gs.size:=(Array.getElem?_eq_some_iff.1 hi).1;have U:((gs.map (woken P g g' w')).setIfInBounds i g').size=gs.size:=by simp
 have am:∀a,∃b',(a=i->b'=true)/\(a≠i->∀o,gs[a]? =some o->Gz P F (a==0) (φ a) (r a) b' (woken P g g' w' o) (loc (φ a) (S a))/\(bt a=true->b'=true)/\(mayWake P g=true->g'.status= .running->b'=true)):=by
  intro a;by_cases e:a=i
  ·exact⟨true,λ_=>rfl,λq=>absurd e q⟩
  ·cases K:gs[a]? with
   | none=>exact⟨true,λ_=>rfl,λ_ o q=>by cases q⟩
   | some o=>
    obtain⟨b',aT,Y,Z⟩:=(h.Kv a o K).woken (g:=g) (g':=g') (w':=w');exact⟨b',λq=>absurd q e,λ_ o' q=>by cases q;exact⟨aT,Y,Z⟩⟩
 let O:Nat->Bool:=λa=>Classical.choose (am a);have hb:∀a,(a=i->O a=true)/\(a≠i->∀o,gs[a]? =some o->Gz P F (a==0) (φ a) (r a) (O a) (woken P g g' w' o) (loc (φ a) (S a))/\(bt a=true->O a=true)/\(mayWake P g=true->g'.status= .running->O a=true)):=λa=>Classical.choose_spec (am a);refine⟨O,by rw [U];exact aq,by rw [U];exact av,by rw [U];exact aw,λa o K=>?_,by rw [U];exact hC,h.HI,h.Iu,h.IQ,h.L6,h.JV,h.JY,h.HN,(by
  by_cases e:i=0
  ·subst e;rw [upd_same];exact aN rfl
  ·rw [upd_ne _ _ (Ne.symm e)];exact h.mn),az,aI,aJ,λa ag al=>?_,aM,λb o K=>?_,aP.trans h.tape,h.os.trans aQ,aR.trans h.output⟩
 ·by_cases e:a=i
  ·subst e;rw [Array.getElem?_setIfInBounds_self_of_lt (by simpa using aS)] at K;obtain rfl:=Option.some.inj K;rw [upd_same,upd_same,upd_same,(hb a).1 rfl];exact ay
  ·rw [Array.getElem?_setIfInBounds_ne (Ne.symm e),Array.getElem?_map] at K;obtain⟨o',aU,rfl⟩:=Option.map_eq_some_iff.1 K;rw [upd_ne _ _ e,upd_ne _ _ e,upd_ne _ _ e];exact((hb a).2 e o' aU).1
 ·rw [U] at ag;have e:a≠i:=λe=>by have:=(hb a).1 e;rw [al] at this;cases this
  obtain⟨_,k1,aV⟩:=(hb a).2 e _ (Array.getElem?_eq_getElem ag);have ap:¬(mayWake P g=true/\g'.status= .running):=λ⟨x,y⟩=>by have:=aV x y;rw [al] at this;cases this
  have aW:bt a=false:=by
   cases ac:bt a with
   | false=>rfl
   | true=>have:=k1 ac;rw [al] at this;cases this
  rcases h.blk a ag aW with⟨rfl,Y,Z⟩ | ⟨⟨k,sv,Y⟩,Z⟩
  ·refine .inl ⟨rfl,by rw [upd_ne _ _ e];exact Y,?_⟩;exact Classical.not_not.1 λac=>ap (aK ac Z)
  ·refine .inr ⟨⟨k,sv,by rw [upd_ne _ _ e];exact Y⟩,?_⟩;exact Classical.not_not.1 λac=>ap (aL ac Z)
 ·by_cases e:i=0
  ·subst e;rw [upd_same];exact aO rfl b o (h.le b o K)
  ·rw [upd_ne _ _ (Ne.symm e)];exact h.le b o K
end
end Pal
namespace Pal
open Go Go.Conc
open Go.ConcN (upd upd_same upd_ne sumTo sumTo_upd sumTo_upd_out sumTo_congr le_sumTo sumTo_le fork_knows RelBy)
def PX(P:Program)(F:Fam)(B:Base)(gs:Array Goroutine)(w:World)(t:Trace):Prop:=
 ∃q Sh g s,Hh P gs w t q Sh g s/\F.fin g s/\Le B.E0 s.E/\w.tape=B.w0.tape/\Gg B.w0.os w.os/\w.output=B.w0.output
def Ih(P:Program)(F:Fam)(B:Base)(gs:Array Goroutine)(w:World)(sl:Option (Nat×Nat))(t:Trace)(i:Nat)(K:Mu):Prop:=
 ∃gs' w' O u,runT P (crowd gs w sl) i=(.next (crowd gs' w' O),u)/\
  ((∃φ r bt S Sh j c v wt' sm m q f,Inv P F B gs' w' (t++u) φ r bt S Sh j c v wt' sm m q f/\Mu.lt (mu F gs'.size φ m q r bt) K)∨PX P F B gs' w' (t++u))
theorem LI.same{N:Nat}{φ:Nat->Nx}{m:M4}{q i:Nat}{y:Nx}(h:LI N φ m q)(hi:i<N)(O:∀f,CX f (φ i)=CX f y∨(f≠pH/\f≠pN/\f≠pZ/\f≠pV/\f≠pT/\f≠pQ/\f≠pD/\f≠pX))(U:NM y m):LI N (upd φ i y) m q:=by
 have e:∀f,(f=pH∨f=pN∨f=pZ∨f=pV∨f=pT∨f=pQ∨f=pD∨f=pX)->Sg f N (upd φ i y)=Sg f N φ:=λf Y=>MP f hi (by
  rcases O f with q | ⟨a,b,c,d,e,f,g,h⟩
  ·exact q
  ·rcases Y with q | q | q | q | q | q | q | q <;> contradiction)
 refine⟨by rw [e pH (by simp),e pN (by simp),e pZ (by simp),e pV (by simp),e pT (by simp),e pQ (by simp),e pD (by simp),e pX (by simp)];exact h.ln,λa Z=>?_⟩;by_cases K:a=i
 ·subst K;rw [upd_same];exact U
 ·rw [upd_ne _ _ K];exact h.loc a Z
section
variable {P:Program}{F:Fam}{B:Base}{gs:Array Goroutine}{w w':World}{sl:Option (Nat×Nat)}{t:Trace}{φ:Nat->Nx}{r:Nat->Rk}{bt:Nat->Bool}{S:Nat->St}{Sh:Nat->Prop}{j:Nat}{c:Bool}{v wt' sm v₁ wt₁ sm₁:Nat}{m m₁:M4}{q q₁:Nat}{f f₁:Nat->Value}
theorem Inv.go'(h:Inv P F B gs w t φ r bt S Sh j c v wt' sm m q f){i:Nat}{g g':Goroutine}{es:Array Event}{x:Nx}{ρ:Rk}{s':St}(hi:gs[i]? =some g)(O:stepG P (i==0) g w= .go g' w' es)
  (U:Cq F B.N0 (gs.size+c.toNat) j c (Cl c gs.size (upd φ i x)) v₁ wt₁ sm₁ false) (Y:LI gs.size (upd φ i x) m₁ q₁)
  (Z:EO F B.N0 B.t0 gs.size j (upd φ i x) (upd S i s') (t++MemOp.ofEvents i g.frame.fn g.frame.place es))
  (ac:Gz P F (i==0) x ρ true g' (loc x s'))
  (hC:BP (t++MemOp.ofEvents i g.frame.fn g.frame.place es) w' gs.size (upd S i s') Sh)
  (ag:F.WG w' v₁ wt₁ sm₁) (al:F.MU w' m₁ q₁) (am:F.FD w' f₁)
  (ap:sm₁≠0->sm=0->mayWake P g=true/\g'.status= .running) (aq:q₁≠0->q=0->mayWake P g=true/\g'.status= .running)
  (av:∀k,k<j->stored (upd φ i x (B.N0+k))->F.msg k (f₁ k) (upd S i s' (B.N0+k)).E)
  (aw:i=0->x≠ .ph .GM/\x≠ .ph .Hx) (ay:i=0->Le (S 0).E s'.E) (az:w'.tape=w.tape) (aI:Gg w.os w'.os) (aJ:w'.output=w.output)
  (hm:∀K,Mu.lt (mu F gs.size (upd φ i x) m₁ q₁ (upd r i ρ) K) (mu F gs.size φ m q r bt)):Ih P F B gs w sl t i (mu F gs.size φ m q r bt):=by
 obtain⟨K,aK⟩:=h.go hi U Y Z ac hC ag al am ap aq av aw ay az aI aJ;refine⟨_,_,_,_,runT_crowd_go hi O,.inl ⟨_,_,_,_,_,_,_,_,_,_,_,_,_,aK,?_⟩⟩;have aL:((gs.map (woken P g g' w')).setIfInBounds i g').size=gs.size:=by simp
 rw [aL];exact hm K
theorem QC{k:Nat}{p:Ph}(hw:GJ F k (.ph p))(K:late (.ph p)):Fam.Cx p=true:=by
 cases p <;> simp only [GJ] at hw <;> (try exact hw.elim) <;> first | rfl | exact K.elim
theorem Mp(a:Nat)(fn:FuncId)(pos:String):MemOp.ofEvents a fn pos #[]= #[]:=by rw [ofEvents_eq];simp
theorem Inv.own(h:Inv P F B gs w t φ r bt S Sh j c v wt' sm m q f)(aS:∀k v E E',Le E E'->F.msg k v E->F.msg k v E'){i:Nat}{g g':Goroutine}{es:Array Event}{p:Ph}{ρ:Rk}{s':St}(hi:gs[i]? =some g)(K:φ i= .ph p)(aI:(i==0)=Fam.Co p)
  (aJ:stepG P (i==0) g w= .go g' w' es) (aK:Jr P (i==0) (JQ (Stop P F p)) ρ g' s') (aT:Fits s' w') (O:Fr (loc (.ph p) (S i)) w s' w') (Y:∀e∈es,Ev (loc (.ph p) (S i)) w w' e) (aU:loc (.ph p) (S i)= .quiet->s'= .quiet/\w'=w/\es= #[]) (aV:Rk.sub ρ (r i)):
  Ih P F B gs w sl t i (mu F gs.size φ m q r bt):=by
 have U:i<gs.size:=(Array.getElem?_eq_some_iff.1 hi).1;have Z:upd φ i (.ph p)=φ:=by rw [← K];exact MD _ _
 have aL:∀aM,Mu.lt (mu F gs.size (upd φ i (.ph p)) m q (upd r i ρ) aM) (mu F gs.size φ m q r bt):=λaM=>Ts U (λ_=>by rw [K]) (by rw [K]) aV;cases ac:Fam.Cx p with
 | true=>
  have ag:loc (.ph p) (S i)= .quiet:=by simp [loc,Hw,ac]
  obtain⟨rfl,rfl,rfl⟩:=aU ag;have av:upd S i (S i)=S:=MD _ _;refine h.go' hi aJ (x:= .ph p) (ρ:=ρ) (s':=S i) (by rw [Z];exact h.Cr) (by rw [Z];exact h.lock) ?_ (by rw [ag];exact .walk aI (λ_=>rfl) aK) ?_ h.wg h.Je h.Gh (λa b=>absurd b a) (λa b=>absurd b a) (by rw [Z,av];exact h.Iv) (λe=>by subst e;rw [← K];exact h.mn) (λe=>by subst e;exact .refl _) rfl (.refl _) rfl aL
  ·rw [Z,av,Mp];simpa using h.EA
  ·rw [av,Mp];simpa using h.B4
 | false=>
  have ag:loc (.ph p) (S i)=S i:=by simp [loc,Hw,ac]
  rw [ag] at O Y;have aW:loc (.ph p) s'=s':=by simp [loc,Hw,ac]
  have aw:∀b₀,Sh b₀->∀b wr,GH (S i) w w' b wr->b≠b₀:=by
   intro b₀ am b wr aX;have aN:=h.B4.sh i U b₀ am;have a4:=h.B4.Gd b₀ am;rintro rfl;rcases aX.2 with q | q | ⟨q,_⟩
   ·exact q aN.1
   ·omega
   ·exact q aN.2
  have ay:∀b₀,Sh b₀->w'.heap[b₀]? =w.heap[b₀]? :=λb₀ am=>O.keep b₀ (h.B4.Gd b₀ am) (h.B4.sh i U b₀ am).1;have aO:∀k,k<j->i=B.N0+k->¬late (φ i):=by
   intro k al e aP;rcases h.Et U with a5 | ⟨_,d,hd,_⟩ | ⟨k',_,_,_,hw⟩
   ·have:=h.Cr.pos;omega
   ·rw [K] at hd;cases hd
   ·rw [K] at hw aP;rw [QC hw aP] at ac;cases ac
  have aY:∀e∈es,e.loc≠ .mark .disable/\e.loc≠ .mark .enable:=by
   intro e he;have:=Y e he;refine⟨λaq=>?_,λaq=>?_⟩ <;> unfold Ev at this <;> rw [aq] at this <;> exact this
  refine h.go' (f₁:=f) hi aJ (x:= .ph p) (ρ:=ρ) (s':=s') (by rw [Z];exact h.Cr) (by rw [Z];exact h.lock) ?_ (by rw [aW];exact .walk aI (λe=>by rw [ac] at e;cases e) aK) (h.B4.own U aT O Y) ?_ ?_ ?_ (λa b=>absurd b a) (λa b=>absurd b a) ?_ (λe=>by subst e;rw [← K];exact h.mn) (λe=>by subst e;exact λb o az=>O.ext b o az) O.tape (.of O.os) O.output aL
  ·refine h.EA.app U (by rw [K];exact deafBehind_still aY _) (λe he=>⟨λa b ap hb aZ=>absurd aZ ?_,λa ap hb=>absurd rfl (aw F.fd h.IQ F.fd a.write (KM (Y e he) ap hb)),?_⟩) ?_ (λk al a0 e he a b ap hb hw=>?_) (λk al e ag=>absurd (K▸ag) (aO k al e))
   ·have:=KM (Y e he) ap hb;rintro(q | q)
    ·exact aw F.wg h.HI b _ this q
    ·exact aw F.mu h.Iu b _ this q
   ·intro aq;have:=Y e he;unfold Ev at this;rw [aq] at this;exact this
   ·rcases h.Et U with e | ⟨_,d,hd,_⟩ | ⟨k,_,e,_,_⟩
    ·exact .inl (.inl e)
    ·rw [K] at hd;cases hd
    ·exact .inl (.inr (by omega))
   ·have a1:=KM (Y e he) ap hb;have a2:B.N0+k≠i:=λe=>aO k al e.symm (e▸a0);have aQ:B.N0+k<gs.size:=by have:=h.size;omega
    rcases a1.2 with y | y | ⟨_,y⟩
    ·exact(h.B4.hh i (B.N0+k) U aQ (Ne.symm a2) b y).2
    ·cases a3:(S (B.N0+k)).E b with
     | none=>rfl
     | some o=>have:=(h.B4.fits _ aQ).e b o a3;simp [Array.getElem?_eq_none y] at this
    ·rw [y] at hw;cases hw
  ·show w'.heap[F.wg]? =_;rw [ay _ h.HI];exact h.wg
  ·show w'.heap[F.mu]? =_;rw [ay _ h.Iu];exact h.Je
  ·show w'.heap[F.fd]? =_;rw [ay _ h.IQ];exact h.Gh
  ·intro k al aR;rw [Z] at aR;have:=h.Iv k al aR;by_cases e:B.N0+k=i
   ·rw [e,upd_same];rw [e] at this;exact aS _ _ _ _ (λb o az=>O.ext b o az) this
   ·rw [upd_ne _ _ e];exact this
theorem Inv.slip(h:Inv P F B gs w t φ r bt S Sh j c v wt' sm m q f){i:Nat}{g:Goroutine}(hi:gs[i]? =some g)(Z:g.status= .running){d U:Nat}(O:φ i= .gone d)(az:r i=chain U)(ag:(i==0)=false)(ap:QuitsD P U d g):
  Ih P F B gs w sl t i (mu F gs.size φ m q r bt):=by
 have al:i<gs.size:=(Array.getElem?_eq_some_iff.1 hi).1;have ac:i≠0:=by simpa using ag
 cases U with
 | zero=>rw [ap.1] at Z;cases Z
 | succ U=>
  rcases ap with⟨aI,_⟩ | ⟨_,g',es,hm,aJ,aK⟩
  ·rw [aI] at Z;cases Z
  have aL:∀op∈MemOp.ofEvents i g.frame.fn g.frame.place es,op.act.touch? =none:=λop Y=>by obtain⟨e,he,rfl⟩:=mem_ofEvents Y;exact touch_mute (hm e he)
  have aM:∀e∈es,e.loc≠ .mark (.release F.sA):=by
   intro e he aq;have:=hm e he;obtain⟨loc,wr,aP⟩:=e;simp only at aq;subst aq;simp [Event.mute] at this
  have av:upd S i (S i)=S:=MD _ _;have aw:=h.Cr.leave (i:=i) (d:=d) (d':=deafBehind d es) (by omega) (by rw [IJ ac (by omega)];exact O);rw [MQ ac (by omega)] at aw;refine h.go' hi (by rw [ag];exact aJ w) (x:= .gone (deafBehind d es)) (ρ:=chain U) (s':=S i) aw (h.lock.other al (λk p e=>by rw [O] at e;cases e) (λk p e=>by cases e)) ?_ (.gone ag aK) ?_ h.wg h.Je h.Gh (λa b=>absurd b a) (λa b=>absurd b a) ?_ (λe=>absurd e ac) (λe=>absurd e ac) rfl (.refl _) rfl λaQ=>Ts al (λ_=>by rw [O];rfl) (by rw [O];rfl) (by rw [az];exact Vt U w)
  ·refine h.EA.app al (by rw [O];rfl) (λe he=>⟨λa b K=>(by rw [touch_mute (hm e he)] at K;cases K),λa K=>(by rw [touch_mute (hm e he)] at K;cases K),aM e he⟩) (.inr λe he=>touch_mute (hm e he)) (λk am aN e he a b K=>(by rw [touch_mute (hm e he)] at K;cases K)) (λk am e aN=> .inl ⟨by rw [O];trivial,rfl,λρ aO=>?_⟩);exact aO.appOwn _ _ es λm e he=> .inl (touch_mute (hm e (Array.mem_of_getElem? he)))
  ·rw [av];exact h.B4.mute (g:=i) (λop Y=>by obtain⟨e,_,rfl⟩:=mem_ofEvents Y;rfl) aL (λop Y=>by obtain⟨e,he,rfl⟩:=mem_ofEvents Y;exact low_mute (hm e he) _) rfl
  ·rw [av];intro k am ay;refine h.Iv k am ?_;by_cases e:B.N0+k=i
   ·rw [e,O];trivial
   ·rw [upd_ne _ _ e] at ay;exact ay
theorem XS{p:Ph}{es:Array Event}{K:Nx}(O:F.act p v wt' sm=some ((v₁,wt₁,sm₁),es,K)):
  (∀q,K= .ph q->Fam.Co q=Fam.Co p/\(Fam.Cx q=true->p= .Gw∨Fam.Cx p=true)/\(Fam.Cx q=false->Fam.Cx p=false/\p≠ .Gw)/\∀k l,q≠ .lk k l)/\(sm₁≠0->sm=0->p= .Fa)/\(∀d,K= .gone d->Fam.Co p=false/\Fam.Cx p=true)/\
  (∀k l,p≠ .lk k l)/\(Fam.Co p=false->stored K)/\(Fam.Co p=false->late K->late (.ph p)∨p= .Gw)/\(Fam.Co p=false->stored (.ph p))/\K≠ .ph .GM/\K≠ .ph .Hx:=by
 cases p <;> simp only [Fam.act] at O <;> (try (cases O;done))
 all_goals (try (split at O)) <;> (try (cases O;done)) <;> (try (split at O))
 all_goals cases O
 all_goals first
  | (simp [Fam.Co,Fam.Cx,stored,late];done)
  | (split <;> simp [Fam.Co,Fam.Cx,stored,late];done)
  | (simp [Fam.Co,Fam.Cx,stored,late];omega)
theorem Cq.enabled{N0 N:Nat}{cl:Bool}(h:Cq F N0 N j c φ v wt' sm cl){i:Nat}(hi:i<N){p:Ph}(K:φ i= .ph p)(az:∀k,p≠ .G7 k)(aI:∀k,p≠ .FH k)(aJ:p≠ .GM)(aK:∀aL vs,p≠ .FB aL vs)(aM:p≠ .Hx)(aN:p= .Fs->sm=1)(aO:p≠ .Ge)(aP:∀k l,p≠ .lk k l):
  ∃v' w' sm' es aQ,F.act p v wt' sm=some ((v',w',sm'),es,aQ):=by
 have hm:=h.mode;have aU:=h.PS;have aV:=h.HN;have O:=h.cnt;have ac:cU (φ i)<=sumTo N λa=>cU (φ a):=le_sumTo (f:=λa=>cU (φ a)) hi;have ag:cL (φ i)<=sumTo N λa=>cL (φ a):=le_sumTo (f:=λa=>cL (φ a)) hi;have aq:cS (φ i)<=sumTo N λa=>cS (φ a):=le_sumTo (f:=λa=>cS (φ a)) hi;rw [K] at ac ag aq;have aR:wt'<=1:=by
  generalize (if c=true then φ (N0+F.n) else Nx.ph .De)=y at hm
  cases y with
  | gone d=>simp only [Dm] at hm;omega
  | ph q=>cases q <;> simp only [Dm] at hm <;> (try exact hm.elim) <;> omega
 have al:1<=(sumTo N λa=>cL (φ a))+(sumTo N λa=>cS (φ a))->v=0/\sm=0/\wt'=sumTo N λa=>cL (φ a):=by
  intro hh;generalize (if c=true then φ (N0+F.n) else Nx.ph .De)=y at hm
  cases y with
  | gone d=>simp only [Dm] at hm;omega
  | ph q=>cases q <;> simp only [Dm] at hm <;> (try exact hm.elim) <;> omega
 have am:∀x,φ i= .ph x->Jc (.ph x)->c=true/\(if c=true then φ (N0+F.n) else Nx.ph .De)= .ph x:=by
  intro x Y av;rcases h.Et hi with rfl | ⟨a,b⟩ | ⟨k,ap,rfl⟩ | ⟨O,rfl⟩
  ·obtain⟨q,U,Z⟩:=h.main;rw [Y] at U;cases U;cases x <;> simp [Hv] at Z <;> exact av.elim
  ·have:=h.old i a b;rw [Y] at this;exact this.elim
  ·have:=h.work k ap;rw [Y] at this;cases x <;> simp [GJ] at this <;> exact av.elim
  ·exact⟨O,by rw [if_pos O];exact Y⟩
 cases p <;> simp only [Fam.act]
 ·exact absurd rfl (az _)
 ·exact⟨_,_,_,_,_,rfl⟩
 ·exact⟨_,_,_,_,_,rfl⟩
 ·simp only [cU] at ac;have:1<=v:=by
   have aW:1<=sumTo N λa=>cU (φ a):=ac;omega
  rw [if_pos ⟨this,by omega,aR⟩];exact⟨_,_,_,_,_,rfl⟩
 ·have aS:1<=sumTo N λa=>cL (φ a):=ag;have:=al (by omega);rw [if_pos ⟨this.1,by omega⟩];exact⟨_,_,_,_,_,rfl⟩
 ·have aS:1<=sumTo N λa=>cL (φ a):=ag;have:=al (by omega);rw [if_pos ⟨this.1,by omega⟩];exact⟨_,_,_,_,_,rfl⟩
 ·have aX:1<=sumTo N λa=>cS (φ a):=aq;have:=al (by omega);rw [if_pos this.2.1];exact⟨_,_,_,_,_,rfl⟩
 ·exact⟨_,_,_,_,_,rfl⟩
 ·obtain⟨aw,e⟩:=am _ K trivial;rw [e] at hm;rw [if_pos ⟨hm.2.2.2.2.2,hm.2.2.2.1⟩];exact⟨_,_,_,_,_,rfl⟩
 ·obtain⟨aw,e⟩:=am _ K trivial;rw [e] at hm;rw [if_pos ⟨hm.2.2.2.2.2.1,hm.2.2.2.2.2.2,hm.2.2.2.1⟩];split <;> exact⟨_,_,_,_,_,rfl⟩
 ·exact⟨_,_,_,_,_,rfl⟩
 ·rw [if_pos (aN rfl)];exact⟨_,_,_,_,_,rfl⟩
 ·obtain⟨aw,e⟩:=am _ K trivial;rw [e] at hm;rw [if_pos ⟨hm.2.2.2.2.1,hm.2.2.2.1⟩];exact⟨_,_,_,_,_,rfl⟩
 ·exact⟨_,_,_,_,_,rfl⟩
 ·exact absurd rfl aO
 ·exact absurd rfl aM
 ·exact⟨_,_,_,_,_,rfl⟩
 ·have aT:c=false/\v<=j/\j<F.n:=by
   rcases h.Et hi with rfl | ⟨a,b⟩ | ⟨k,ap,rfl⟩ | ⟨O,rfl⟩
   ·obtain⟨q,U,Z⟩:=h.main;rw [K] at U;cases U;have ay:=h.JU;rw [K] at ay;exact⟨Z.2.2,by simpa [pend] using ay,Z.2.1⟩
   ·have:=h.old i a b;rw [K] at this;exact this.elim
   ·have:=h.work k ap;rw [K] at this;exact this.elim
   ·have:=h.cls O;rw [K] at this;exact this.elim
  rw [aT.1] at hm;simp only [Bool.false_eq_true,if_false,Dm] at hm;rw [if_pos ⟨by omega,hm.2.2.2.1⟩];exact⟨_,_,_,_,_,rfl⟩
 ·exact⟨_,_,_,_,_,rfl⟩
 ·exact⟨_,_,_,_,_,rfl⟩
 ·exact absurd rfl (aI _)
 ·exact absurd rfl aJ
 ·exact absurd rfl (aK _ _)
 all_goals first | exact⟨_,_,_,_,_,rfl⟩ | exact absurd rfl (aP _ _)
end
end Pal
namespace Pal
open Go Go.Conc
open Go.ConcN (upd upd_same upd_ne sumTo sumTo_upd sumTo_upd_out sumTo_congr le_sumTo sumTo_le fork_knows RelBy)
section
variable {P:Program}{F:Fam}{B:Base}{gs:Array Goroutine}{w w':World}{sl:Option (Nat×Nat)}{t:Trace}{φ:Nat->Nx}{r:Nat->Rk}{bt:Nat->Bool}{S:Nat->St}{Sh:Nat->Prop}{j:Nat}{c:Bool}{v wt' sm v₁ wt₁ sm₁:Nat}{m m₁:M4}{q q₁:Nat}{f f₁:Nat->Value}
theorem V3(w:World)(v wt sm:Nat):(F.put w v wt sm).heap.size=w.heap.size:=by simp [Fam.put]
theorem Pt(w:World)(v wt sm:Nat){b:Nat}(h:b≠F.wg):(F.put w v wt sm).heap[b]? =w.heap[b]? :=by simp [Fam.put,Array.getElem?_setIfInBounds_ne (Ne.symm h)]
theorem YF(w:World)(v wt sm:Nat)(h:F.wg<w.heap.size):F.WG (F.put w v wt sm) v wt sm:=by simp [Fam.WG,Fam.put,h]
theorem Vv(w:World)(m:M4)(q:Nat):(F.FC w m q).heap.size=w.heap.size:=by simp [Fam.FC]
theorem OY(w:World)(m:M4)(q:Nat){b:Nat}(h:b≠F.mu):(F.FC w m q).heap[b]? =w.heap[b]? :=by simp [Fam.FC,Array.getElem?_setIfInBounds_ne (Ne.symm h)]
theorem Xy(w:World)(m:M4)(q:Nat)(h:F.mu<w.heap.size):F.MU (F.FC w m q) m q:=by simp [Fam.MU,Fam.FC,h]
theorem Vd(w:World)(f:Nat->Value):(F.He w f).heap.size=w.heap.size:=by simp [Fam.He]
theorem OX(w:World)(f:Nat->Value){b:Nat}(h:b≠F.fd):(F.He w f).heap[b]? =w.heap[b]? :=by simp [Fam.He,Array.getElem?_setIfInBounds_ne (Ne.symm h)]
theorem Xe(w:World)(f:Nat->Value)(h:F.fd<w.heap.size):F.FD (F.He w f) f:=by simp [Fam.FD,Fam.He,h]
theorem YP{p:Ph}{s:St}(h:p≠ .Gw):Fam.Jg p s=s:=by cases p <;> first | rfl | exact absurd rfl h
theorem BP.heap{t:Trace}{w w':World}{N:Nat}{S:Nat->St}{Sh:Nat->Prop}(h:BP t w N S Sh)(hw:w'.heap=w.heap):BP t w' N S Sh:=by
 have:=h.mute (u:= #[]) (w':=w') (g:=0) (by simp) (by simp) (by simp) hw;simpa using this
theorem Inv.act(h:Inv P F B gs w t φ r bt S Sh j c v wt' sm m q f)(a2:∀k v E E',Le E E'->F.msg k v E->F.msg k v E'){i:Nat}{g:Goroutine}(hi:gs[i]? =some g){p:Ph}(K:φ i= .ph p)(ac:(i==0)=Fam.Co p){s₀:St}(a3:Ca (loc (.ph p) (S i)) s₀)(aq:Stop P F p g s₀)
  {es:Array Event} {Z:Nx} (O:F.act p v wt' sm=some ((v₁,wt₁,sm₁),es,Z)):Ih P F B gs w sl t i (mu F gs.size φ m q r bt):=by
 have U:i<gs.size:=(Array.getElem?_eq_some_iff.1 hi).1;obtain⟨g',a4,a5,aL⟩:=aq.law.act _ _ _ _ _ _ _ _ O;obtain⟨n1,n2,a6,a7,n5,a8,a9,ba⟩:=XS O;obtain⟨am,e2,bb⟩:=Yo p O;have aM:=h.B4.Gd F.wg h.HI;have bA:=h.size;have bB:=h.Cr.pos;have aN:i≠0->Fam.Co p=false:=λe=>by rw [← ac];simp [e]
 have aO:(p= .HK∨∃j,p= .HB j)->i=0:=by
  intro Y;have:Fam.Co p=true:=by rcases Y with rfl | ⟨j,rfl⟩ <;> rfl
  rw [this] at ac;simpa using ac
 have aP:i=0∨B.N0<=i:=by
  rcases h.Et U with e | ⟨_,d,hd,_⟩ | ⟨k,_,e,_,_⟩
  ·exact .inl e
  ·rw [K] at hd;cases hd
  ·exact .inr (by omega)
 let s':St:=if Fam.Cx p=true then S i else s₀
 have av:Fam.Cx p=true->s'=S i:=λe=>by simp [s',e]
 have ag:Fam.Cx p=false->s'=s₀:=λe=>by simp [s',e]
 have aQ:Fam.Cx p=false->Ca (S i) s₀:=λe=>by simpa [loc,Hw,e] using a3
 have hle:Le (S i).E s'.E:=by
  cases e:Fam.Cx p with
  | true=>rw [av e];exact .refl _
  | false=>rw [ag e];exact λb o aw=>(aQ e).ext b o aw
 have aR:BP t w gs.size (upd S i s') Sh:=by
  cases e:Fam.Cx p with
  | true=>rw [av e,MD];exact h.B4
  | false=>rw [ag e];exact h.B4.ghost U (aQ e)
 have be:BP (t++MemOp.ofEvents i g.frame.fn g.frame.place es) (F.put w v₁ wt₁ sm₁) gs.size (upd S i s') Sh:=by
  refine aR.ext (h.EA.noRace h.B4.clean U aP λe he=>(am e he).toS aO) (λop ay a az b hb=>?_) (λop ay=>?_) (V3 ..) (λb hb=>Pt _ _ _ _ λe=>hb (e▸h.HI))
  ·obtain⟨e,he,rfl⟩:=mem_ofEvents ay;obtain⟨⟨b',al,aI⟩,_⟩:=(am e he).1 a az;rw [hb] at al;cases al;rcases aI with rfl | rfl
   ·exact h.HI
   ·exact h.Iu
  ·obtain⟨e,he,rfl⟩:=mem_ofEvents ay;exact bb e he _ aM
 have bf:stepG P (i==0) g w= .go g' (F.put w v₁ wt₁ sm₁) es:=by rw [ac];exact a4 w h.wg
 have bg:Cq F B.N0 (gs.size+c.toNat) j c (Cl c gs.size (upd φ i Z)) v₁ wt₁ sm₁ false:=by
  by_cases e:i=0
  ·subst e;cases c with
   | false=>
    have:=h.Cr.act (i:=0) (by omega) (by rw [I9];exact K) O;rw [I9] at this;rw [I9];exact this
   | true=>
    have:=h.Cr.act (i:=gs.size) (by simp) (by rw [JE];exact K) O
    rwa [WI (by omega)] at this
  ·have:=h.Cr.act (i:=i) (by omega) (by rw [IJ e (by omega)];exact K) O
   rwa [MQ e (by omega)] at this
 have bh:EO F B.N0 B.t0 gs.size j (upd φ i Z) (upd S i s') (t++MemOp.ofEvents i g.frame.fn g.frame.place es):=by
  refine h.EA.app U (by rw [K];exact e2) (λe he=>(am e he).keep aO h.JV h.JY) (.inl aP) (λk ap aS e he a b az hb hw=>?_) (λk ap e aS=>?_)
  ·obtain⟨⟨b',al,aI⟩,_⟩:=(am e he).1 a az;rw [hb] at al;cases al;have aT:B.N0+k<gs.size:=by omega
   rcases aI with rfl | rfl
   ·exact(h.B4.sh _ aT _ h.HI).2
   ·exact(h.B4.sh _ aT _ h.Iu).2
  ·have aU:i≠0:=by omega
   have aV:GJ F k (.ph p):=by
    rcases h.Et U with bi | ⟨_,d,hd,_⟩ | ⟨k',_,bC,_,hw⟩
    ·exact absurd bi aU
    ·rw [K] at hd;cases hd
    ·obtain rfl:k'=k:=by omega
     rwa [K] at hw
   rcases a8 (aN aU) aS with aJ | rfl
   ·refine .inl ⟨by rw [K];exact aJ,by rw [av (QC aV aJ)],λρ aK=>?_⟩;refine aK.appOwn _ _ es λm e he=>?_;rw [h.EA.deaf _ U,K];exact V7 p O aV aJ m e he
   ·refine .inr ⟨t.size,h.EA.LZ,?_,?_⟩
    ·simp only [Fam.act] at O;cases O;exact .new (by rw [h.EA.deaf _ U,K];rfl) _ _
    ·simp only [Fam.act] at O;cases O;rw [ag rfl];intro b hb x a aW bj hw;have bl:MemOp.ofEvents i g.frame.fn g.frame.place #[Fam.Cs (.releaseMerge F.sA)]= #[{g:=i,fn:=g.frame.fn,pos:=g.frame.place,act:= .mark (.releaseMerge F.sA)}]:=by rw [ofEvents_eq];simp [Fam.Cs,MemAct.ofEvent]
     rw [bl] at aW ⊢;obtain⟨op,aw,aX⟩:=touch_of aW;rcases getElem?_append_cases aw with⟨_,bm⟩ | ⟨_,aY⟩
     ·have bn:=aR.kE i U b (by rw [upd_same,ag rfl];exact hb) x a (by rw [touchAt_of bm];exact aX) bj hw;have bo:(t++ #[({g:=i,fn:=g.frame.fn,pos:=g.frame.place,act:= .mark (.releaseMerge F.sA)}:MemOp)])[t.size]? =some {g:=i,fn:=g.frame.fn,pos:=g.frame.place,act:= .mark (.releaseMerge F.sA)}:=by simp
      exact .inr (bn.hb_new (Nat.le_refl _) bo rfl)
     ·simp at aY;subst aY;cases aX
 have bp:∀k,k<j->stored (upd φ i Z (B.N0+k))->F.msg k (f k) (upd S i s' (B.N0+k)).E:=by
  intro k ap aZ;by_cases e:B.N0+k=i
  ·rw [e,upd_same];have:=h.Iv k ap (by rw [e,K];exact a9 (aN (by omega)));rw [e] at this;exact a2 _ _ _ _ hle this
  ·rw [upd_ne _ _ e] at aZ ⊢;exact h.Iv k ap aZ
 have bq:LI gs.size (upd φ i Z) m q:=h.lock.other U (λk l e=>a7 k l (by rw [K] at e;exact Nx.ph.inj e)) (λk l e=>by subst e;exact(n1 _ rfl).2.2.2 k l rfl);have br:∀q,Z= .ph q->loc (.ph q) s'=Fam.Jg p s₀:=by
  intro q e;obtain⟨_,a0,bu,_⟩:=n1 q e;cases Y:Fam.Cx q with
  | true=>
   have:loc (.ph q) s'= .quiet:=by simp [loc,Hw,Y]
   rw [this];rcases a0 Y with rfl | e
   ·rfl
   ·rw [aq.law.quiet e];cases p <;> rfl
  | false=>
   obtain⟨a1,bv⟩:=bu Y;rw [YP bv,ag a1];simp [loc,Hw,Y]
 have fin:∀(ρ:Rk),Gz P F (i==0) Z ρ true g' (loc Z s')->Ih P F B gs w sl t i (mu F gs.size φ m q r bt):=λρ bw=>
  h.go' (f₁:=f) hi bf bg bq bh bw be (YF _ _ _ _ aM) (by show(F.put w v₁ wt₁ sm₁).heap[F.mu]? =_;rw [Pt _ _ _ _ h.L6];exact h.Je) (by show(F.put w v₁ wt₁ sm₁).heap[F.fd]? =_;rw [Pt _ _ _ _ h.JV];exact h.Gh)
   (λa b=>⟨aq.law.IL (.inl (n2 a b)),a5⟩) (λa b=>absurd b a) bp (λ_=>ba) (λe=>by subst e;exact hle) rfl (.refl _) rfl λbD=>SJ U (by rw [K];exact X4 O)
 cases Z with
 | ph q=>
  obtain⟨ρ,aK⟩:=aL;refine fin ρ ?_;obtain⟨bx,a0,_,_⟩:=n1 q rfl;refine .walk (by rw [ac,bx]) (λY=>by simp [loc,Hw,Y]) ?_;rw [br q rfl,ac];exact aK
 | gone d=>
  obtain⟨bz,Y⟩:=aL;exact fin (chain bz) (.gone (by rw [ac];exact(a6 d rfl).1) Y)
theorem XY{l:LP}{m m':M4}{q q':Nat}{es:Array Event}{o:Option LP}(K:(m',q',es,o)∈F.BR l m q):q'<=q∨∃b,l= .ER b:=by
 cases l <;> simp only [Fam.BR,List.mem_singleton,Prod.mk.injEq,List.not_mem_nil] at K
 case ER b=>exact .inr ⟨b,rfl⟩
 case G8=>split at K <;> simp only [List.mem_singleton,Prod.mk.injEq] at K <;> exact .inl (by omega)
 case Cd sv aw it old=>
  simp only [Fam.Fq,List.mem_append] at K;left;rcases K with K | K
  ·split at K
   ·split at K
    ·simp only [List.mem_singleton] at K;split at K <;> simp only [Prod.mk.injEq] at K <;> omega
    ·simp only [List.mem_singleton,Prod.mk.injEq] at K;omega
   ·simp at K
  ·split at K
   ·split at K
    ·simp only [List.mem_singleton,Prod.mk.injEq] at K;omega
    ·simp only [List.mem_cons,List.not_mem_nil,or_false,Prod.mk.injEq] at K;rcases K with K | K <;> omega
   ·simp only [List.mem_singleton,Prod.mk.injEq] at K;omega
 case FV=>
  simp only [List.mem_cons,List.not_mem_nil,or_false,Prod.mk.injEq] at K;left;rcases K with K | K <;> omega
 case Es sv=>split at K <;> simp only [List.mem_singleton,Prod.mk.injEq] at K <;> exact .inl (by omega)
 case Ez old=>split at K <;> simp only [List.mem_singleton,Prod.mk.injEq] at K <;> exact .inl (by omega)
 all_goals exact .inl (by omega)
theorem Wc{l:LP}{m m':M4}{q q':Nat}{es:Array Event}{o:Option LP}(K:(m',q',es,o)∈F.BR l m q):(∀p,o=some p->Gv p->Gv l)/\(o=none->Gv l):=by
 cases l <;> simp only [Fam.BR,List.mem_singleton,Prod.mk.injEq,List.not_mem_nil] at K
 case G8=>split at K <;> simp only [List.mem_singleton,Prod.mk.injEq] at K <;> obtain⟨-,-,-,rfl⟩:=K <;> simp [Gv]
 case Cd sv aw it old=>
  simp only [Fam.Fq,List.mem_append] at K;rcases K with K | K
  ·split at K
   ·split at K
    ·simp only [List.mem_singleton] at K;split at K <;> simp only [Prod.mk.injEq] at K <;> obtain⟨-,-,-,rfl⟩:=K <;> simp [Gv]
    ·simp only [List.mem_singleton,Prod.mk.injEq] at K;obtain⟨-,-,-,rfl⟩:=K;simp [Gv]
   ·simp at K
  ·split at K
   ·split at K
    ·simp only [List.mem_singleton,Prod.mk.injEq] at K;obtain⟨-,-,-,rfl⟩:=K;simp [Gv]
    ·simp only [List.mem_cons,List.not_mem_nil,or_false,Prod.mk.injEq] at K;rcases K with⟨-,-,-,rfl⟩ | ⟨-,-,-,rfl⟩ <;> simp [Gv]
   ·simp only [List.mem_singleton,Prod.mk.injEq] at K;obtain⟨-,-,-,rfl⟩:=K;simp [Gv]
 case FV=>
  simp only [List.mem_cons,List.not_mem_nil,or_false,Prod.mk.injEq] at K;rcases K with⟨-,-,-,rfl⟩ | ⟨-,-,-,rfl⟩ <;> simp [Gv]
 case Ck sv=>obtain⟨-,-,-,rfl⟩:=K;cases sv <;> simp [Gv]
 case Es sv=>split at K <;> simp only [List.mem_singleton,Prod.mk.injEq] at K <;> obtain⟨-,-,-,rfl⟩:=K <;> simp [Gv]
 all_goals first
  | (obtain⟨-,-,-,rfl⟩:=K;simp [Gv];done)
  | (exact⟨λ_ _ _=>trivial,λ_=>trivial⟩)
theorem Inv.BR(h:Inv P F B gs w t φ r bt S Sh j c v wt' sm m q f)(aT:∀k v E E',Le E E'->F.msg k v E->F.msg k v E'){i:Nat}{g:Goroutine}(hi:gs[i]? =some g){k:Nat}{l:LP}(K:φ i= .ph (.lk k l))(aU:l≠ .Fw)(ag:(i==0)=false){s₀:St}(aJ:Ca (S i) s₀)(aK:Stop P F (.lk k l) g s₀)
  (aV:∀sv,l= .Ck sv->q≠0):Ih P F B gs w sl t i (mu F gs.size φ m q r bt):=by
 have O:i<gs.size:=(Array.getElem?_eq_some_iff.1 hi).1;have aw:=h.lock.ok O K h.small aV;obtain⟨m',q',es,o,g',al,U,aW,Y,aX,aY⟩:=aK.law.lk k l rfl aU w m q h.Je aw;obtain⟨am,e2,aZ⟩:=W2 U;have aL:=h.B4.Gd F.mu h.Iu;have bl:=h.size;have bm:=h.Cr.pos;have Z:i≠0:=by simpa using ag
 obtain⟨k',a0,aM,_,aN⟩:∃k',k'<j/\i=B.N0+k'/\i≠0/\GJ F k' (φ i):=by
  rcases h.Et O with e | ⟨_,d,hd,_⟩ | e
  ·exact absurd e Z
  ·rw [K] at hd;cases hd
  ·exact e
 rw [K] at aN;obtain rfl:k=k':=aN;have a1:BP t w gs.size (upd S i s₀) Sh:=h.B4.ghost O aJ;have a2:BP (t++MemOp.ofEvents i g.frame.fn g.frame.place es) al gs.size (upd S i s₀) Sh:=by
  have:BP (t++MemOp.ofEvents i g.frame.fn g.frame.place es) (F.FC w m' q') gs.size (upd S i s₀) Sh:=by
   refine a1.ext (h.EA.noRace h.B4.clean O (.inr (by omega)) λe he=>(am e he).toS (λx=>x.elim)) (λop ay a az b hb=>?_) (λop ay=>?_) (Vv ..) (λb hb=>OY _ _ _ λe=>hb (e▸h.Iu))
   ·obtain⟨e,he,rfl⟩:=mem_ofEvents ay;obtain⟨⟨b',ac,aI⟩,_⟩:=(am e he).1 a az;rw [hb] at ac;cases ac;rcases aI with rfl | rfl
    ·exact h.HI
    ·exact h.Iu
   ·obtain⟨e,he,rfl⟩:=mem_ofEvents ay;exact aZ e he _ aL
  exact this.heap Y.1
 have a3:cU (.ph (Fam.CY k o))=1/\cL (.ph (Fam.CY k o))=0/\cS (.ph (Fam.CY k o))=0/\GJ F k (.ph (Fam.CY k o))/\(∀a,Nx.ph (Fam.CY k o)≠ .ph (.G7 a))/\Fam.Co (Fam.CY k o)=false/\Fam.Cx (Fam.CY k o)=false/\¬late (.ph (Fam.CY k o)):=by
  cases o with
  | none=>exact⟨rfl,rfl,rfl,trivial,by simp [Fam.CY],rfl,rfl,λx=>x⟩
  | some p=>exact⟨rfl,rfl,rfl,rfl,by simp [Fam.CY],rfl,rfl,λx=>x⟩
 obtain⟨a4,x2,a5,a6,a7,a8,aO,a9⟩:=a3;have ba:Cq F B.N0 (gs.size+c.toNat) j c (Cl c gs.size (upd φ i (.ph (Fam.CY k o)))) v wt' sm false:=by
  have ap:Cl c gs.size φ (B.N0+k)= .ph (.lk k l):=by rw [← aM,IJ Z (by omega)];exact K
  have:=h.Cr.Io (v':=v) (wt':=wt') (sm':=sm) (cl':=false) a0 (x:= .ph (Fam.CY k o)) a6 (λa=>by rw [ap];simp) a7 (by rw [ap,a4];rfl) λL S' aP aQ=>by
   rw [ap,x2] at aP;rw [ap,a5] at aQ;have bb:L=_:=aP;have be:S'=_:=aQ;rw [bb,be];exact h.Cr.mode
  rwa [← aM,MQ Z (by omega)] at this
 have bf:EO F B.N0 B.t0 gs.size j (upd φ i (.ph (Fam.CY k o))) (upd S i s₀) (t++MemOp.ofEvents i g.frame.fn g.frame.place es):=by
  refine h.EA.app O (by rw [K];rw [show FG (.ph (.lk k l))=dl l from rfl,e2];cases o <;> rfl) (λe he=>(am e he).keep (λx=>x.elim) h.JV h.JY) (.inl (.inr (by omega))) (λk' aq aR e he a b az hb hw=>?_) (λk' aq e aR=>absurd aR a9);obtain⟨⟨b',ac,aI⟩,_⟩:=(am e he).1 a az;rw [hb] at ac;cases ac;have aS:B.N0+k'<gs.size:=by omega
  rcases aI with rfl | rfl
  ·exact(h.B4.sh _ aS _ h.HI).2
  ·exact(h.B4.sh _ aS _ h.Iu).2
 obtain⟨ρ,bg⟩:=aY;have bh:loc (.ph (Fam.CY k o)) s₀=s₀:=by simp [loc,Hw,aO]
 refine h.go' (f₁:=f) hi (by rw [ag];exact aW) ba (h.lock.step O K h.small aw U) bf (ρ:=ρ) (by rw [bh];exact .walk (by rw [ag,a8]) (λe=>by rw [aO] at e;cases e) (by rw [ag];exact bg)) a2 ?_ ?_ ?_ (λa b=>absurd b a) (λa b=>?_) (λk' aq av=>?_) (λe=>absurd e Z) (λe=>absurd e Z) (Y.2.1) Y.2.2.1 Y.2.2.2 λbn=>Zt O K U aw
 ·show al.heap[F.wg]? =_;rw [Y.1,OY _ _ _ (Ne.symm h.L6)];exact h.wg
 ·show al.heap[F.mu]? =_;rw [Y.1];exact Xy _ _ _ aL
 ·show al.heap[F.fd]? =_;rw [Y.1,OY _ _ _ h.JY];exact h.Gh
 ·rcases XY U with e | ⟨bi,rfl⟩
  ·omega
  ·exact⟨aK.law.IL (.inr ⟨k,bi,rfl⟩),aX⟩
 ·by_cases e:B.N0+k'=i
  ·rw [e,upd_same] at av ⊢;obtain rfl:k'=k:=by omega
   have bj:Gv l:=by
    obtain⟨a,b⟩:=Wc U;cases o with
    | none=>exact b rfl
    | some p=>exact a p rfl av
   have:=h.Iv k' aq (by rw [e,K];exact bj);rw [e] at this;exact aT _ _ _ _ (λb o U=>aJ.ext b o U) this
  ·rw [upd_ne _ _ e] at av ⊢;exact h.Iv k' aq av
end
end Pal
namespace Pal
open Go Go.Conc
open Go.ConcN (upd upd_same upd_ne sumTo sumTo_upd sumTo_upd_out sumTo_congr le_sumTo sumTo_le fork_knows RelBy)
section
variable {P:Program}{F:Fam}{B:Base}{gs gs':Array Goroutine}{w w':World}{sl:Option (Nat×Nat)}{t:Trace}{φ:Nat->Nx}{r:Nat->Rk}{bt:Nat->Bool}{S:Nat->St}{Sh:Nat->Prop}{j:Nat}{c:Bool}{v wt' sm v₁ wt₁ sm₁:Nat}{m m₁:M4}{q q₁:Nat}{f f₁:Nat->Value}
theorem Inv.store(h:Inv P F B gs w t φ r bt S Sh j c v wt' sm m q f){i:Nat}{g:Goroutine}(hi:gs[i]? =some g){k:Nat}(O:φ i= .ph (.lk k .Fw))(ag:(i==0)=false){s₀:St}(aM:Ca (S i) s₀)(aN:Stop P F (.lk k .Fw) g s₀):
  Ih P F B gs w sl t i (mu F gs.size φ m q r bt):=by
 have U:i<gs.size:=(Array.getElem?_eq_some_iff.1 hi).1;obtain⟨v0,aO,g',a2,aP,aQ⟩:=aN.law.store k rfl;have aw:=h.B4.Gd F.fd h.IQ;have a3:=h.size;have a4:=h.Cr.pos;have Y:i≠0:=by simpa using ag
 obtain⟨k',al,Z,_,ay⟩:∃k',k'<j/\i=B.N0+k'/\i≠0/\GJ F k' (φ i):=by
  rcases h.Et U with e | ⟨_,d,hd,_⟩ | e
  ·exact absurd e Y
  ·rw [O] at hd;cases hd
  ·exact e
 rw [O] at ay;obtain rfl:k=k':=ay;have ac:∀e∈(#[⟨.cell ⟨F.fd,k,none⟩,true,false⟩]:Array Event),∀a,(MemAct.ofEvent e).touch? =some a->a=⟨.cell ⟨F.fd,k,none⟩,true,.plain⟩:=by
  intro e he a K;simp at he;subst he;simp [MemAct.ofEvent,MemAct.touch?] at K;exact K.symm
 have az:∀e∈(#[⟨.cell ⟨F.fd,k,none⟩,true,false⟩]:Array Event),e.loc≠ .mark (.release F.sA):=by
  intro e he;simp at he;subst he;simp
 have aR:∀e∈(#[⟨.cell ⟨F.fd,k,none⟩,true,false⟩]:Array Event),EvS F B.N0 j i e:=λe he=>
  ⟨λa K=>by have:=ac e he a K;subst this;exact⟨F.fd,rfl,.inr ⟨rfl,k,al,Z,rfl,rfl⟩⟩,az e he⟩
 have aS:BP t w gs.size (upd S i s₀) Sh:=h.B4.ghost U aM;have aT:BP (t++MemOp.ofEvents i g.frame.fn g.frame.place #[⟨.cell ⟨F.fd,k,none⟩,true,false⟩]) (F.He w (upd f k v0)) gs.size (upd S i s₀) Sh:=by
  refine aS.ext (h.EA.noRace h.B4.clean U (.inr (by omega)) aR) (λop am a aU b hb=>?_) (λop am=>?_) (Vd ..) (λb hb=>OX _ _ λe=>hb (e▸h.IQ))
  ·obtain⟨e,he,rfl⟩:=mem_ofEvents am;have:=ac e he a aU;subst this;have:b=F.fd:=by simpa [Cy] using hb.symm
   subst this;exact h.IQ
  ·obtain⟨e,he,rfl⟩:=mem_ofEvents am;simp at he;subst he;simp [MemAct.ofEvent,MemAct.low,Loc.low,aw]
 have aV:Cq F B.N0 (gs.size+c.toNat) j c (Cl c gs.size (upd φ i (.ph (.lk k .Gy)))) v wt' sm false:=by
  have ap:Cl c gs.size φ (B.N0+k)= .ph (.lk k .Fw):=by rw [← Z,IJ Y (by omega)];exact O
  have:=h.Cr.Io (v':=v) (wt':=wt') (sm':=sm) (cl':=false) al (x:= .ph (.lk k .Gy)) rfl (λa=>by rw [ap];simp) (by simp) (by rw [ap];rfl) λL S' aI aJ=>by
   rw [ap] at aI aJ;have aW:L=_:=aI;have aX:S'=_:=aJ;rw [aW,aX];exact h.Cr.mode
  rwa [← Z,MQ Y (by omega)] at this
 have aY:EO F B.N0 B.t0 gs.size j (upd φ i (.ph (.lk k .Gy))) (upd S i s₀) (t++MemOp.ofEvents i g.frame.fn g.frame.place #[⟨.cell ⟨F.fd,k,none⟩,true,false⟩]):=by
  refine h.EA.app U (by rw [O];rfl) (λe he=>⟨λa b K hb aZ=>?_,λa K hb=>?_,az e he⟩) (.inl (.inr (by omega))) (λk' aq aK e he a b K hb hw=>?_) (λk' aq e aK=>aK.elim)
  ·have:=ac e he a K;subst this;have av:b=F.fd:=by simpa [Cy] using hb.symm
   subst av;rcases aZ with e | e
   ·exact absurd e h.JV
   ·exact absurd e h.JY
  ·have:=ac e he a K;subst this;exact⟨k,al,Z,rfl,rfl⟩
  ·have:=ac e he a K;subst this;have av:b=F.fd:=by simpa [Cy] using hb.symm
   subst av;exact(h.B4.sh (B.N0+k') (by omega) _ h.IQ).2
 obtain⟨ρ,a0⟩:=aQ;have a1:LI gs.size (upd φ i (.ph (.lk k .Gy))) m q:=by
  refine h.lock.same U (λf=>?_) trivial;rw [O];by_cases e:f .Fw=f .Gy
  ·exact .inl e
  ·right;refine⟨?_,?_,?_,?_,?_,?_,?_,?_⟩ <;> rintro rfl <;> exact e rfl
 refine h.go' (f₁:=upd f k v0) hi (by rw [ag];exact aP w f h.Gh) aV a1 aY (ρ:=ρ) (.walk (by rw [ag];rfl) (λe=>by cases e) (by rw [ag];exact a0)) aT ?_ ?_ (Xe _ _ aw) (λa b=>absurd b a) (λa b=>absurd b a) (λk' aq aL=>?_) (λe=>absurd e Y) (λe=>absurd e Y) rfl (.refl _) rfl λa5=>SJ U (by rw [O];simp [wt,Hg])
 ·show(F.He w (upd f k v0)).heap[F.wg]? =_;rw [OX _ _ (Ne.symm h.JV)];exact h.wg
 ·show(F.He w (upd f k v0)).heap[F.mu]? =_;rw [OX _ _ (Ne.symm h.JY)];exact h.Je
 ·by_cases e:k'=k
  ·subst e;rw [← Z,upd_same,upd_same];exact aO
  ·rw [upd_ne _ _ e];rw [upd_ne _ _ (by omega)] at aL ⊢;exact h.Iv k' aq aL
theorem Ub{g g' o:Goroutine}(h:g'.status= .blocked):woken P g g' w o=o:=by
 unfold woken;rw [if_neg (by simp [h])]
theorem EO.Zl{N0 t0 N:Nat}(h:EO F N0 t0 N j φ S t){i:Nat}{s':St}(U:∀k,k<j->late (φ (N0+k))->N0+k≠i):EO F N0 t0 N j φ (upd S i s') t:=
 ⟨h.deaf,h.above,h.plain,h.said,h.Gh,h.over,h.norel,h.LZ,λk K O=>by rw [upd_ne _ _ (U k K O)];exact h.rel k K O⟩
theorem Inv.block(h:Inv P F B gs w t φ r bt S Sh j c v wt' sm m q f){i:Nat}{g:Goroutine}(hi:gs[i]? =some g){p:Ph}(K:φ i= .ph p)(aI:bt i=true)(ac:(i==0)=Fam.Co p){s₀:St}(ap:Ca (S i) s₀)(ag:Stop P F p g s₀)
  (al:(p= .Fs/\sm=0)∨((∃k sv,p= .lk k (.Ck sv))/\q=0)):Ih P F B gs w sl t i (mu F gs.size φ m q r bt):=by
 have Y:i<gs.size:=(Array.getElem?_eq_some_iff.1 hi).1;have aN:=h.size;have aJ:stepG P (i==0) g w= .go {g with status:= .blocked} w #[]:=by
  rw [ac];rcases al with⟨rfl,rfl⟩ | ⟨⟨k,sv,rfl⟩,rfl⟩
  ·exact ag.law.ES rfl w v wt' h.wg
  ·exact ag.law.Ck k sv rfl w m h.Je
 have Z:Pn p:=by
  rcases al with⟨rfl,_⟩ | ⟨⟨k,sv,rfl⟩,_⟩
  ·exact .inl rfl
  ·exact .inr ⟨k,sv,rfl⟩
 have aK:=Qk Z;have aq:=runT_crowd_go (P:=P) (sl:=sl) (i:=i) hi aJ;have aL:(gs.map (woken P g {g with status:= .blocked} w)).setIfInBounds i {g with status:= .blocked}=gs.setIfInBounds i {g with status:= .blocked}:=by
  have:(woken P g {g with status:= .blocked} w)=id:=by funext o;exact Ub rfl
  rw [this,Array.map_id]
 rw [aL,Mp] at aq;have O:(gs.setIfInBounds i {g with status:= .blocked}).size=gs.size:=by simp
 have av:t++(#[]:Trace)=t:=by simp
 have aM:∀k,k<j->late (φ (B.N0+k))->B.N0+k≠i:=by
  intro k aw ay e;rw [e,K] at ay;rcases Z with rfl | ⟨k',sv,rfl⟩
  ·rcases h.Et Y with av | ⟨_,d,hd,_⟩ | ⟨k',_,_,_,hw⟩
   ·have:=h.Cr.pos;omega
   ·rw [K] at hd;cases hd
   ·rw [K] at hw;exact hw
  ·exact ay
 refine⟨_,_,_,_,aq,.inl ⟨φ,r,upd bt i false,upd S i s₀,Sh,j,c,v,wt',sm,m,q,f,?_,?_⟩⟩
 ·rw [av];refine⟨by rw [O];exact h.Cr,by rw [O];exact h.lock,by rw [O];exact h.EA.Zl aM,λa o U=>?_,by rw [O];exact h.B4.ghost Y ap,h.HI,h.Iu,h.IQ,h.L6,h.JV,h.JY,h.HN,h.mn,h.wg,h.Je,h.Gh,λa az hb=>?_,λk aw am=>?_,?_,h.tape,h.os,h.output⟩
  ·by_cases e:a=i
   ·subst e;rw [Array.getElem?_setIfInBounds_self_of_lt Y] at U;obtain rfl:=Option.some.inj U;rw [upd_same,upd_same,K];have:loc (.ph p) s₀=s₀:=by simp [loc,Hw,aK]
    rw [this];exact .blk Z ac ag
   ·rw [Array.getElem?_setIfInBounds_ne (Ne.symm e)] at U;rw [upd_ne _ _ e,upd_ne _ _ e];exact h.Kv a o U
  ·by_cases e:a=i
   ·subst e;rcases al with⟨rfl,rfl⟩ | ⟨⟨k,sv,rfl⟩,rfl⟩
    ·have:a=0:=by simpa [Fam.Co] using ac
     subst this;exact .inl ⟨rfl,K,rfl⟩
    ·exact .inr ⟨⟨k,sv,K⟩,rfl⟩
   ·rw [upd_ne _ _ e] at hb;rw [O] at az;exact h.blk a az hb
  ·by_cases e:B.N0+k=i
   ·rw [e,K] at am;rcases Z with rfl | ⟨k',sv,rfl⟩ <;> exact am.elim
   ·rw [upd_ne _ _ e];exact h.Iv k aw am
  ·by_cases e:0=i
   ·subst e;rw [upd_same];exact λb o U=>ap.ext b o (h.le b o U)
   ·rw [upd_ne _ _ e];exact h.le
 ·rw [O];have:=sumTo_upd bt false bit Y;rw [aI] at this;exact .inr ⟨rfl,.inr ⟨rfl,.inr ⟨rfl,rfl,.inr ⟨rfl,by show(sumTo gs.size λa=>bit (upd bt i false a))<sumTo gs.size λa=>bit (bt a);simp only [bit] at this ⊢;simp only [if_true,Bool.false_eq_true,if_false] at this;omega⟩⟩⟩⟩
theorem LI.push{N:Nat}(h:LI N φ m q)(Z:0<N){p0:Ph}{j:Nat}(O:∀k p,φ 0≠ .ph (.lk k p))(U:∀k p,p0≠ .lk k p):LI (N+1) (upd (upd φ N (.ph (.lk j .FY))) 0 (.ph p0)) m q:=by
 have Y:LI (N+1) (upd φ N (.ph (.lk j .FY))) m q:=by
  have e:∀f,f LP.FY=0->Sg f (N+1) (upd φ N (.ph (.lk j .FY)))=Sg f N φ:=by
   intro f ac;unfold Sg;simp only [sumTo];have:=sumTo_upd_out φ (.ph (.lk j .FY)) (CX f) (i:=N) (j:=N) (Nat.le_refl _);rw [upd_same];show _+f .FY=_;omega
  refine⟨by rw [e pH rfl,e pN rfl,e pZ rfl,e pV rfl,e pT rfl,e pQ rfl,e pD rfl,e pX rfl];exact h.ln,λa ag=>?_⟩;by_cases K:a=N
  ·subst K;rw [upd_same];trivial
  ·rw [upd_ne _ _ K];exact h.loc a (by omega)
 exact Y.other (by omega) (by rw [upd_ne _ _ (by omega)];exact O) (λk p e=>U k p (Nx.ph.inj e))
theorem Inv.spawn(h:Inv P F B gs w t φ r bt S Sh j c v wt' sm m q f){g:Goroutine}(hi:gs[0]? =some g){K:Nat}(ac:φ 0= .ph (.FH K)){s₀:St}(aS:Ca (S 0) s₀)(aX:Stop P F (.FH K) g s₀):
  Ih P F B gs w sl t 0 (mu F gs.size φ m q r bt):=by
 have Y:0<gs.size:=(Array.getElem?_eq_some_iff.1 hi).1;obtain⟨rfl,bx,rfl⟩:K=j/\j<F.n/\c=false:=by
  obtain⟨p,aT,_,hh⟩:=h.main;rw [ac] at aT;cases aT;rcases hh with⟨e,hm⟩ | ⟨_,hm⟩
  ·exact⟨hm.1,hm.2.1,e⟩
  ·exact hm.elim
 obtain⟨g',child,bz,bA,aY,aZ,a0⟩:=aX.law.go _ rfl;have a2:=h.size;have bB:=h.Cr.pos;have aK:=runT_crowd_spawn (P:=P) (sl:=sl) (i:=0) hi (show stepG P (0==0) g w=_ from aY w);rw [Mp] at aK;generalize a3:({g:=0,fn:=g.frame.fn,pos:=g.frame.place,act:= .go gs.size}:MemOp)=x at aK;generalize a4:({g:=gs.size,fn:=child.frame.fn,pos:=g.frame.place,act:= .start}:MemOp)=y at aK;have am:x.g=0/\x.act= .go gs.size:=by subst a3;exact⟨rfl,rfl⟩
 have ap:y.g=gs.size/\y.act= .start:=by subst a4;exact⟨rfl,rfl⟩
 have a5:((#[]:Trace).push x).push y= #[x,y]:=rfl;have al:((gs.setIfInBounds 0 g').push child).size=gs.size+1:=by simp
 have a6:Fam.Co (F.Eu K)=true/\Fam.Cx (F.Eu K)=false/\FG (.ph (F.Eu K))=0/\(∀k p,F.Eu K≠ .lk k p):=by
  unfold Fam.Eu;split <;> exact⟨rfl,rfl,rfl,by simp⟩
 obtain⟨a7,x2,a8,a9⟩:=a6;let φ':Nat->Nx:=upd (upd φ gs.size (.ph (F.start K))) 0 (.ph (F.Eu K));have f0:φ' 0= .ph (F.Eu K):=upd_same _ _ _;have aq:φ' gs.size= .ph (F.start K):=by show upd _ _ _ _=_;rw [upd_ne _ _ (by omega),upd_same]
 have av:∀a,a≠0->a≠gs.size->φ' a=φ a:=λa ba aN=>by show upd _ _ _ _=_;rw [upd_ne _ _ ba,upd_ne _ _ aN]
 have hu:∀op∈(#[x,y]:Array MemOp),op.act.touch? =none/\∀m,op.act≠ .mark m:=by
  intro op O;simp only [List.mem_toArray,List.mem_cons,List.not_mem_nil,or_false] at O;rcases O with rfl | rfl
  ·rw [am.2];exact⟨rfl,by simp⟩
  ·rw [ap.2];exact⟨rfl,by simp⟩
 have aw:=h.Cr.spawn (by rw [I9];exact ac);rw [I9] at aw;simp only [Bool.toNat_false,Nat.add_zero] at aw;have aO:∃ay,Cq F B.N0 (gs.size+1+ay.toNat) (K+1) ay (Cl ay (gs.size+1) φ') v wt' sm false:=by
  by_cases e:K+1=F.n
  ·refine⟨true,?_⟩;have aP:F.Fl K= .GM:=by unfold Fam.Fl;rw [if_pos e]
   have e2:F.Eu K= .De:=by unfold Fam.Eu;rw [if_pos e]
   have:=aw.YN (by rw [upd_same,aP]);have bb:Cl true (gs.size+1) φ'=upd (upd (upd (upd φ gs.size (.ph (F.start K))) 0 (.ph (F.Fl K))) (gs.size+1) (.ph .De)) 0 (.ph (.FB [] [])):=by
    funext a;unfold Cl;by_cases aQ:a=gs.size+1
    ·subst aQ;rw [if_pos ⟨rfl,rfl⟩,upd_ne _ _ (by omega),upd_same,f0,e2]
    ·rw [if_neg (by simp [aQ])];by_cases ag:a=0
     ·subst ag;rw [if_pos ⟨rfl,rfl⟩,upd_same]
     ·rw [if_neg (by simp [ag]),upd_ne _ _ ag,upd_ne _ _ aQ];show upd _ _ _ _=_;rw [upd_ne _ _ ag,upd_ne _ _ ag]
   rw [bb];exact this
  ·refine⟨false,?_⟩;have aP:F.Fl K=F.Eu K:=by unfold Fam.Fl Fam.Eu;rw [if_neg e,if_neg e]
   rw [aP] at aw;rw [I9];exact aw
 obtain⟨ay,aO⟩:=aO;have aU:BP t w gs.size (upd S 0 s₀) Sh:=h.B4.ghost Y aS;have be:BP (t++ #[x,y]) w gs.size (upd S 0 s₀) Sh:=by
  refine aU.ext (λsaid=>?_) (λop O a az=>by rw [(hu op O).1] at az;cases az) (λop O=>?_) rfl λ_ _=>rfl
  ·have e:t++ #[x,y]=(t++ #[x])++ #[y]:=by apply Array.ext';simp
   rw [e];exact noRace_append (g:=gs.size) (noRace_append (g:=0) (h.B4.clean said) (λop O=>by simp at O;subst O;exact am.1) λz a _ op O b hb _=>by rw [(hu op (by simp at O ⊢;exact .inl O)).1] at hb;cases hb)
    (λop O=>by simp at O;subst O;exact ap.1) λz a _ op O b hb _=>by rw [(hu op (by simp at O ⊢;exact .inr O)).1] at hb;cases hb
  ·simp only [List.mem_toArray,List.mem_cons,List.not_mem_nil,or_false] at O;rcases O with rfl | rfl
   ·rw [am.2];trivial
   ·rw [ap.2];trivial
 have bf:Deaf t 0=0:=by rw [h.EA.deaf 0 Y,ac];rfl
 have bg:BP (t++ #[x,y]) w (gs.size+1) (upd (upd S 0 s₀) gs.size ⟨s₀.E,λ_=>none,false⟩) Sh:=by
  refine be.push (i:=0) Y (E:=s₀.E) (λb o aI=>by rw [upd_same];exact aI) λb hb z a bh bi bj=>?_;have hold:touchAt t z=some a:=by
   obtain⟨op,aI,aR⟩:=touch_of bh;rcases getElem?_append_cases aI with⟨_,bl⟩ | ⟨_,bm⟩
   ·rw [touchAt_of bl];exact aR
   ·rw [(hu op bm).1] at aR;cases aR
  exact fork_knows am ap bf (h.EA.above _ (Nat.le_refl _)) (aU.kE 0 Y b (by rw [upd_same];exact hb) z a hold bi bj)
 have aV:∀k,k<K->upd (upd S 0 s₀) gs.size ⟨s₀.E,λ_=>none,false⟩ (B.N0+k)=S (B.N0+k):=λk aW=>by rw [upd_ne _ _ (by omega),upd_ne _ _ (by omega)]
 have bn:EO F B.N0 B.t0 (gs.size+1) (K+1) φ' (upd (upd S 0 s₀) gs.size ⟨s₀.E,λ_=>none,false⟩) (t++ #[x,y]):=by
  refine h.EA.spawn Y a2 (λa az=>?_) (by rw [aq];rfl) (by rw [ac];rfl) (λk aW aL=>?_) am ap
  ·by_cases e:a=0
   ·subst e;rw [f0,ac,a8];rfl
   ·rw [av a e (by omega)]
  ·by_cases e:k=K
   ·subst e;rw [show B.N0+k=gs.size by omega,aq] at aL;exact aL.elim
   ·rw [av _ (by omega) (by omega)] at aL;exact⟨by omega,aL,by rw [aV k (by omega)]⟩
 obtain⟨bo,bp⟩:=a0;obtain⟨bq,br⟩:=aZ;have aJ:∀{α:Type} (f:Nat->α) (a b:α),upd (upd f 0 a) gs.size b 0=a:=λf a b=>by rw [upd_ne _ _ (by omega),upd_same]
 have bu:∀s:St,loc (.ph (F.Eu K)) s=s:=λs=>by simp [loc,Hw,x2]
 refine⟨_,_,_,_,aK,.inl ⟨φ',upd (upd r 0 bo) gs.size bq,upd (upd bt 0 true) gs.size true,upd (upd S 0 s₀) gs.size ⟨s₀.E,λ_=>none,false⟩,Sh,K+1,ay,v,wt',sm,m,q,f,?_,?_⟩⟩
 ·rw [a5];refine⟨by rw [al];exact aO,by rw [al];exact h.lock.push Y (λk p e=>by rw [ac] at e;cases e) a9,by rw [al];exact bn,λa o Z=>?_,by rw [al];exact bg,h.HI,h.Iu,h.IQ,h.L6,h.JV,h.JY,h.HN,(by rw [f0];unfold Fam.Eu;split <;> simp),h.wg,h.Je,h.Gh,λa az hb=>?_,λk aW aM=>?_,?_,h.tape,h.os,h.output⟩
  ·by_cases e:a=0
   ·subst e;rw [Array.getElem?_push_lt (by simpa using Y)] at Z;simp at Z;subst Z;rw [f0,aJ,aJ,aJ,bu];exact .walk a7.symm (λq=>by rw [x2] at q;cases q) bp
   ·by_cases U:a=gs.size
    ·subst U;have:child=o:=by
      rw [show gs.size=(gs.setIfInBounds 0 g').size by simp,Array.getElem?_push_size] at Z;exact Option.some.inj Z
     subst this;rw [aq,upd_same,upd_same,upd_same];have bv:(gs.size==0)=false:=by rw [beq_eq_false_iff_ne];omega
     rw [bv];exact .walk rfl (λq=>by cases q) br
    ·rw [av a e U,upd_ne _ _ U,upd_ne _ _ e,upd_ne _ _ U,upd_ne _ _ e,upd_ne _ _ U,upd_ne _ _ e];have:gs[a]? =some o:=by
      rw [Array.getElem?_push] at Z;simp [U] at Z;simpa [Array.getElem?_setIfInBounds_ne (Ne.symm e)] using Z
     exact h.Kv a o this
  ·rw [al] at az;by_cases e:a=0
   ·subst e;rw [aJ] at hb;cases hb
   ·by_cases U:a=gs.size
    ·subst U;rw [upd_same] at hb;cases hb
    ·rw [upd_ne _ _ U,upd_ne _ _ e] at hb;rcases h.blk a (by omega) hb with⟨ag,_⟩ | ⟨⟨k,sv,aN⟩,bw⟩
     ·exact absurd ag e
     ·exact .inr ⟨⟨k,sv,by rw [av a e U];exact aN⟩,bw⟩
  ·by_cases e:k=K
   ·subst e;rw [show B.N0+k=gs.size by omega,aq] at aM;exact aM.elim
   ·rw [av _ (by omega) (by omega)] at aM;rw [aV k (by omega)];exact h.Iv k (by omega) aM
  ·rw [aJ];exact h.le.trans λb o aI=>aS.ext b o aI
 ·rw [al];refine ZK ?_;simp only [sumTo];rw [aq];have a1:=sumTo_upd (upd φ gs.size (.ph (F.start K))) (.ph (F.Eu K)) (wt F.n) Y;rw [upd_ne _ _ (by omega),ac] at a1;have bC:=sumTo_upd_out φ (.ph (F.start K)) (wt F.n) (i:=gs.size) (j:=gs.size) (Nat.le_refl _);have bD:wt F.n (.ph (F.start K))=23:=rfl;have bE:wt F.n (.ph (.FH K))=5*F.n+85+50*(F.n - K):=rfl;have bF:wt F.n (.ph (F.Eu K))+30<=5*F.n+85+50*(F.n - K):=by
   unfold Fam.Eu;split <;> simp only [wt] <;> omega
  show(sumTo gs.size λi=>wt F.n (upd (upd φ gs.size (.ph (F.start K))) 0 (.ph (F.Eu K)) i))+_<_;omega
end
end Pal
namespace Pal
open Go Go.Conc
open Go.ConcN (upd upd_same upd_ne sumTo sumTo_upd sumTo_upd_out sumTo_congr le_sumTo sumTo_le fork_knows RelBy)
theorem BP.final{t:Trace}{w:World}{N:Nat}{S:Nat->St}{Sh:Nat->Prop}(h:BP t w N S Sh)(am:0<N){s':St}{fd:Nat}
  (Z:∀b o,s'.E b=some o->w.heap[b]? =some o/\¬Sh b/\∀x a,touchAt t x=some a->Cy a.loc=some b->a.write=true->Knows t 0 x)
  (ac:∀b o,s'.H b=some o->w.heap[b]? =some o/\(¬Sh b∨b=fd)/\∀x a,touchAt t x=some a->Cy a.loc=some b->Knows t 0 x)
  (hd:∀b,s'.E b≠none->s'.H b=none) (ap:s'.E fd=none):BP t w N (lone s') (λb=>Sh b/\b≠fd):=by
 have l0:lone s' 0=s':=rfl;have ln:∀i,i≠0->lone s' i= .quiet:=λi hi=>by simp [lone,hi]
 have Y:∀i b,i≠0->(lone s' i).E b=none:=λi b hi=>by rw [ln i hi];rfl
 have U:∀i b,i≠0->(lone s' i).H b=none:=λi b hi=>by rw [ln i hi];rfl
 refine⟨λi hi=>?_,λa b aq hb al x O=>?_,λi hi b hb=>?_,λb hb=>h.Gd b hb.1,h.clean,h.low,λi hi b hb x a O ag=>?_,λi hi b hb x a O ag hw=>?_⟩
 ·by_cases e:i=0
  ·subst e;rw [l0];exact⟨λb o K=>(Z b o K).1,λb o K=>(ac b o K).1,hd⟩
  ·exact⟨λb o K=>(by rw [Y i b e] at K;cases K),λb o K=>(by rw [U i b e] at K;cases K),λb hb=>U i b e⟩
 ·by_cases e:b=0
  ·subst e;rw [U a x al] at O;exact absurd rfl O
  ·exact⟨U b x e,Y b x e⟩
 ·by_cases e:i=0
  ·subst e;rw [l0];constructor
   ·cases O:s'.H b with
    | none=>rfl
    | some o=>rcases(ac b o O).2.1 with q | q;exact absurd hb.1 q;exact absurd q hb.2
   ·cases O:s'.E b with
    | none=>rfl
    | some o=>exact absurd hb.1 (Z b o O).2.1
  ·exact⟨U i b e,Y i b e⟩
 ·by_cases e:i=0
  ·subst e;obtain⟨o,K⟩:=HY (x:=s'.H b) hb;exact(ac b o K).2.2 x a O ag
  ·rw [U i b e] at hb;exact absurd rfl hb
 ·by_cases e:i=0
  ·subst e;obtain⟨o,K⟩:=HY (x:=s'.E b) hb;exact(Z b o K).2.2 x a O ag hw
  ·rw [Y i b e] at hb;exact absurd rfl hb
section
variable {P:Program}{F:Fam}{B:Base}{gs gs':Array Goroutine}{w w':World}{sl:Option (Nat×Nat)}{t:Trace}{φ:Nat->Nx}{r:Nat->Rk}{bt:Nat->Bool}{S:Nat->St}{Sh:Nat->Prop}{j:Nat}{c:Bool}{v wt' sm v₁ wt₁ sm₁:Nat}{m m₁:M4}{q q₁:Nat}{f f₁:Nat->Value}
theorem Inv.over(h:Inv P F B gs w t φ r bt S Sh j c v wt' sm m q f)(bj:∀k v E E',Le E E'->F.msg k v E->F.msg k v E'){g:Goroutine}(hi:gs[0]? =some g)(aQ:φ 0= .ph .Ge){s₀:St}(a2:Ca (S 0) s₀)(am:Stop P F .Ge g s₀)(bl:Mu):
  Ih P F B gs w sl t 0 bl:=by
 classical
 have ag:0<gs.size:=(Array.getElem?_eq_some_iff.1 hi).1;have bC:=h.size;have bD:=h.Cr.pos;obtain rfl:c=true:=by
  obtain⟨p,a3,_,hh⟩:=h.main;rw [aQ] at a3;cases a3;rcases hh with⟨_,hm⟩ | ⟨e,_⟩
  ·exact hm.elim
  ·exact e
 have bE:j=F.n:=h.Cr.cj rfl;have aR:∀i,i≠0->i<gs.size->∃d,φ i= .gone d:=by
  intro i aS aK;rcases h.Et aK with e | ⟨_,d,hd,_⟩ | ⟨k,Z,bm,_,_⟩
  ·exact absurd e aS
  ·exact⟨d,hd⟩
  ·have:=h.Cr.WW rfl (.inr (.inr (.inl (by rw [show B.N0+F.n=gs.size by omega,JE];exact aQ)))) k Z;rw [← bm,IJ aS (by omega)] at this;cases U:φ i with
   | gone d=>exact⟨d,rfl⟩
   | ph p=>rw [U] at this;exact this.elim
 obtain⟨g',bn,bo⟩:=am.law.fin rfl;have a4:=runT_crowd_go (P:=P) (sl:=sl) (i:=0) hi (show stepG P (0==0) g w=_ from bn w);have a5:Deaf t 0=0:=by rw [h.EA.deaf 0 ag,aQ];rfl
 have aT:MemOp.ofEvents 0 g.frame.fn g.frame.place #[Fam.Cs (.acquire F.sA)]= #[{g:=0,fn:=g.frame.fn,pos:=g.frame.place,act:= .mark (.acquire F.sA)}]:=by rw [ofEvents_eq];simp [Fam.Cs,MemAct.ofEvent]
 generalize hu:MemOp.ofEvents 0 g.frame.fn g.frame.place #[Fam.Cs (.acquire F.sA)]=u at a4;have ap:∀op∈u,op.act.touch? =none/\op.g=0/\op.act.low w.heap.size:=by
  intro op aq;rw [← hu,aT] at aq;simp at aq;subst aq;exact⟨rfl,rfl,h.B4.Gd F.wg h.HI⟩
 have aL:(t++u)[t.size]? =some {g:=0,fn:=g.frame.fn,pos:=g.frame.place,act:= .mark (.acquire F.sA)}:=by rw [← hu,aT];simp
 have bp:(t++u).heard t.size:=⟨0,by simp [Trace.g?,aL],by rw [deaf_old (Nat.le_refl _)];exact a5⟩;have bq:(t++u).g? t.size=some 0:=by simp [Trace.g?,aL]
 have br:∀x,B.t0<=x->(t++u).act? x≠some (.mark (.release F.sA)):=Oz h.EA.norel λop aq e=>by rw [← hu,aT] at aq;simp at aq;subst aq;cases e
 have aU:∀k,k<F.n->∃ρ,ρ<t.size/\RelBy F.sA t (B.N0+k) ρ/\KE t (S (B.N0+k)).E ρ/\HappensBefore (t++u) ρ t.size:=by
  intro k Z;obtain⟨d,hd⟩:=aR (B.N0+k) (by omega) (by omega);obtain⟨ρ,a,b,e⟩:=h.EA.rel k (by omega) (by rw [hd];trivial);have aM:ρ<t.size:=lt_of_act? b.act;refine⟨ρ,aM,b,e,.single (.inr ⟨.marked aM (.inr (by rw [act?_old aM];exact b.act)) (by rw [act?_of aL]) λz Y al=>br z (by omega),(heard_old aM).2 b.heard,bp⟩)⟩
 have a6:∀{x ρ},Before t x ρ->HappensBefore (t++u) ρ t.size->Knows (t++u) 0 x:=λY al=>⟨t.size,_,aL,rfl,.inr ((Y.app u).hb al)⟩;have a7:∀{x k},k<F.n->t.g? x=some (B.N0+k)->t.counts x->Knows (t++u) 0 x:=by
  intro x k Z ac av;obtain⟨ρ,Y,al,_,aJ⟩:=aU k Z;have hle:x<=ρ:=Nat.le_of_not_lt λay=>al.after x ay ac av;refine a6 (ρ:=ρ) ?_ aJ;rcases Nat.lt_or_ge x ρ with U | U
  ·exact .inr (.single (.inl ⟨U,_,ac,al.g⟩))
  ·exact .inl (by omega)
 have hold:∀{y a},touchAt (t++u) y=some a->touchAt t y=some a:=by
  intro y a U;obtain⟨op,O,aV⟩:=touch_of U;rcases getElem?_append_cases O with⟨ay,aW⟩ | ⟨_,aX⟩
  ·rw [touchAt_of aW];exact aV
  ·rw [(ap op aX).1] at aV;cases aV
 have aw:BP t w gs.size (upd S 0 s₀) Sh:=h.B4.ghost ag a2;have aY:BP (t++u) w gs.size (upd S 0 s₀) Sh:=aw.mute (g:=0) (λop O=>(ap op O).2.1) (λop O=>(ap op O).1) (λop O=>(ap op O).2.2) rfl;let K:Nat->Obj->Prop:=λb o=>s₀.E b=some o∨∃k,k<F.n/\(S (B.N0+k)).E b=some o;have aZ:∀b o,K b o->w.heap[b]? =some o:=by
  rintro b o (Y | ⟨k,Z,Y⟩)
  ·exact(aw.fits 0 ag).e b o (by rw [upd_same];exact Y)
  ·exact(h.B4.fits (B.N0+k) (by omega)).e b o Y
 let E':LH:=λb=>if hb:∃o,K b o then some (Classical.choose hb) else none
 have a0:∀b o,E' b=some o->K b o:=by
  intro b o O;simp only [E'] at O;split at O
  ·rename_i hb;have:=Classical.choose_spec hb;rw [Option.some.inj O] at this;exact this
  ·cases O
 have a8:∀b o,K b o->E' b=some o:=by
  intro b o O;have hb:∃o,K b o:=⟨o,O⟩;have bu:E' b=some (Classical.choose hb):=by simp only [E'];rw [dif_pos hb]
  have e2:=aZ b _ (Classical.choose_spec hb);rw [aZ b o O] at e2;rw [bu,← Option.some.inj e2]
 have a9:Le s₀.E E':=λb o O=>a8 b o (.inl O);have bv:∀k,k<F.n->Le (S (B.N0+k)).E E':=λk Z b o O=>a8 b o (.inr ⟨k,Z,O⟩);have ba:∀b o,K b o->¬Sh b:=by
  rintro b o (Y | ⟨k,Z,Y⟩) hb
  ·have:=(aw.sh 0 ag b hb).2;rw [upd_same,Y] at this;cases this
  ·have:=(h.B4.sh (B.N0+k) (by omega) b hb).2;rw [Y] at this;cases this
 have a1:E' F.fd=none:=by
  cases U:E' F.fd with
  | none=>rfl
  | some o=>exact absurd h.IQ (ba _ _ (a0 _ _ U))
 have bb:∀b,E' b≠none->s₀.H b=none:=by
  intro b hb;obtain⟨o,O⟩:=HY hb;rcases a0 b o O with Y | ⟨k,Z,Y⟩
  ·have:=(aw.fits 0 ag).d b (by rw [upd_same,Y];simp)
   rwa [upd_same] at this
  ·cases U:s₀.H b with
   | none=>rfl
   | some o'=>
    have:=(aw.hh 0 (B.N0+k) ag (by omega) (by omega) b (by rw [upd_same,U];simp)).2;rw [upd_ne _ _ (by omega),Y] at this;cases this
 have bw:∀k,k<F.n->F.msg k (f k) E':=λk Z=>by
  obtain⟨d,hd⟩:=aR (B.N0+k) (by omega) (by omega);exact bj _ _ _ _ (bv k Z) (h.Iv k (by omega) (by rw [hd];trivial))
 have bx:=bo E' f a9 a1 bb bw;have be:((gs.map (woken P g g' w)).setIfInBounds 0 g').size=gs.size:=by simp
 have bz:BP (t++u) w gs.size (lone ⟨E',F.Jw s₀.H f,false⟩) (λb=>Sh b/\b≠F.fd):=by
  refine aY.final ag (λb o O=>?_) (λb o O=>?_) (λb hb=>?_) a1
  ·have Z:=a0 b o O;refine⟨aZ b o Z,ba b o Z,λx a U az hw=>?_⟩;rcases Z with Y | ⟨k,Z,Y⟩
   ·exact aY.kE 0 ag b (by rw [upd_same,Y];simp) x a U az hw
   ·obtain⟨ρ,_,_,bA,aJ⟩:=aU k Z;exact a6 (bA b (by rw [Y];simp) x a (hold U) az hw) aJ
  ·simp only [Fam.Jw] at O;split at O
   ·rename_i e;subst e;cases O;refine⟨h.Gh,.inr rfl,λx a U az=>?_⟩;rcases h.EA.Gh x a (hold U) az with z | ⟨k,Z,ac,av,_⟩
    ·exact(z 0 ag (.inl rfl)).app u
    ·exact a7 (by omega) ac av
   ·refine⟨(aw.fits 0 ag).h b o (by rw [upd_same];exact O),.inl λhb=>?_,λx a U az=>aY.kH 0 ag b (by rw [upd_same,O];simp) x a U az⟩;have:=(aw.sh 0 ag b hb).1;rw [upd_same,O] at this;cases this
  ·simp only [Fam.Jw];rw [if_neg (λe=>by subst e;exact hb a1)];exact bb b hb
 have bB:∀i g,i≠0->gs[i]? =some g->∃q d,φ i= .gone d/\QuitsD P q d g:=by
  intro i g hi ac;obtain⟨d,hd⟩:=aR i hi (Array.getElem?_eq_some_iff.1 ac).1;have am:=h.Kv i g ac;rw [hd] at am;generalize U:Nx.gone d=x at am;generalize loc x (S i)=s at am;generalize r i=ρ at am;generalize bt i=bF at am;cases am with
  | gone _ aN=>cases U;exact⟨_,_,hd,aN⟩
  | _=>cases U
 have aN:∀i,∃q,∀g,i≠0->gs[i]? =some g->QuitsD P q (Deaf t i) g:=by
  intro i;by_cases hi:i≠0/\i<gs.size
  ·obtain⟨q,d,Y,al⟩:=bB i _ hi.1 (Array.getElem?_eq_getElem hi.2);refine⟨q,λg _ ac=>?_⟩;rw [Array.getElem?_eq_getElem hi.2] at ac;obtain rfl:=Option.some.inj ac;rw [h.EA.deaf i hi.2,Y];exact al
  ·exact⟨0,λg Y al=>absurd ⟨Y,(Array.getElem?_eq_some_iff.1 al).1⟩ hi⟩
 have bf:∀i,i≠0->Deaf (t++u) i=Deaf t i:=λi hi=>Deaf_other t (Ne.symm hi) u λop O=>(ap op O).2.1;refine⟨_,_,_,_,a4,.inr ⟨λi=>Classical.choose (aN i),λb=>Sh b/\b≠F.fd,g',⟨E',F.Jw s₀.H f,false⟩,⟨by simp [ag],⟨λi x aS U=>?_,λi aK=>?_⟩,by rw [be];exact bz,λx aO ac aI av=>?_,?_⟩,bx,?_,h.tape,h.os,h.output⟩⟩
 ·have aI:i≠0:=by omega
  rw [Array.getElem?_setIfInBounds_ne (Ne.symm aI),Array.getElem?_map] at U;obtain⟨o',aW,rfl⟩:=Option.map_eq_some_iff.1 U;have bg:=Classical.choose_spec (aN i) o' aI aW;rw [woken_quitsD bg,bf i aI];exact bg
 ·rw [be] at aK;rw [bf i (by omega)];exact h.EA.above i aK
 ·have:=OK h.EA.over (u:=u) (N0:=B.N0) (N:=gs.size) (λop O=> .inl (ap op O).2.1) x aO ac aI av;rcases this with z | ⟨z1,bG⟩
  ·exact z
  ·have aP:x<t.size:=by
    rcases Nat.lt_or_ge x t.size with z | z
    ·exact z
    ·obtain⟨op,O,bh⟩:=Option.map_eq_some_iff.1 ac;rcases getElem?_append_cases O with⟨ay,_⟩ | ⟨_,aX⟩
     ·exact ay
     ·rw [(ap op aX).2.1] at bh;exact absurd bh.symm aI
   obtain⟨bH,z,bI,bJ,bK⟩:=a7 (k:=aO - B.N0) (by omega) (by rw [← g?_old (u:=u) aP,ac];congr 1;omega) ((counts_old aP).1 av);refine⟨t.size,bq,?_⟩;obtain⟨ρ,Y,al,_,aJ⟩:=aU (aO - B.N0) (by omega);have bi:t.g? x=some (B.N0+(aO - B.N0)):=by rw [← g?_old (u:=u) aP,ac];congr 1;omega
   have hle:x<=ρ:=Nat.le_of_not_lt λay=>al.after x ay bi ((counts_old aP).1 av);have hb:Before t x ρ:=by
    rcases Nat.lt_or_ge x ρ with U | U
    ·exact .inr (.single (.inl ⟨U,_,bi,al.g⟩))
    ·exact .inl (by omega)
   exact(hb.app u).hb aJ
 ·have:=Deaf_own t 0 g.frame.fn g.frame.place #[Fam.Cs (.acquire F.sA)];rw [hu] at this;rw [this,a5];rfl
 ·exact(h.le.trans λb o O=>a2.ext b o O).trans a9
end
end Pal
namespace Pal
open Go Go.Conc
open Go.ConcN (upd upd_same upd_ne sumTo sumTo_upd sumTo_upd_out sumTo_congr le_sumTo sumTo_le fork_knows RelBy)
theorem LN.busy{m:M4}{h rn rs v t s d x:Nat}(Z:LN m 0 h rn rs v t s d x)(am:1<=s):1<=h+rn+rs+v+t+d+x:=by
 obtain⟨O,ac,ag⟩:=Z;cases hm:m.s with
 | true=>have:=(ag hm).2.2.2.1;rw [← O] at this;omega
 | false=>
  obtain⟨a1,ap,K,aq,al⟩:=ac hm;cases Y:m.l with
  | true=>rw [Y] at O;simp at O;omega
  | false=>
   cases U:m.k with
   | true=>rw [U] at K;simp at K;omega
   | false=>
    rw [U] at K;simp at K;have:=al Y U (by omega);omega
section
variable {P:Program}{F:Fam}{B:Base}{gs gs':Array Goroutine}{w w':World}{sl:Option (Nat×Nat)}{t:Trace}{φ:Nat->Nx}{r:Nat->Rk}{bt:Nat->Bool}{S:Nat->St}{Sh:Nat->Prop}{j:Nat}{c:Bool}{v wt' sm v₁ wt₁ sm₁:Nat}{m m₁:M4}{q q₁:Nat}{f f₁:Nat->Value}
theorem Vz{N:Nat}{f:Nat->Nat}(h:1<=sumTo N f):∃i,i<N/\1<=f i:=by
 induction N with
 | zero=>simp [sumTo] at h
 | succ N K=>
  simp only [sumTo] at h;by_cases e:1<=f N
  ·exact⟨N,by omega,e⟩
  ·obtain⟨i,hi,O⟩:=K (by omega);exact⟨i,by omega,O⟩
theorem Inv.runs(h:Inv P F B gs w t φ r bt S Sh j c v wt' sm m q f):∃(i:Nat) (g:Goroutine),gs[i]? =some g/\g.status= .running:=by
 have a0:=h.Cr.pos;have a1:=h.size;have aq:0<gs.size:=by omega
 have ag:∀i (hi:i<gs.size) p,φ i= .ph p->bt i=true->∃(i:Nat) (g:Goroutine),gs[i]? =some g/\g.status= .running:=by
  intro i hi p U hb;refine⟨i,_,Array.getElem?_eq_getElem hi,?_⟩;have K:=h.Kv i _ (Array.getElem?_eq_getElem hi);rw [U,hb] at K;generalize loc (Nx.ph p) (S i)=s at K;generalize aO:Nx.ph p=x at K;generalize aP:true=b at K;generalize gs[i]=o at K ⊢;generalize r i=ρ at K;cases K with
  | walk _ _ av=>exact av.running
  | blk _ _ _=>cases aP
  | gone _ _=>cases aO
 obtain⟨p0,ac,aQ,hh⟩:=h.main;cases aw:bt 0 with
 | true=>exact ag 0 aq p0 ac aw
 | false=>
  obtain⟨U,a2⟩:φ 0= .ph .Fs/\sm=0:=by
   rcases h.blk 0 aq aw with⟨_,a,b⟩ | ⟨⟨k,sv,a⟩,_⟩
   ·exact⟨a,b⟩
   ·rw [ac] at a;cases a;cases aQ
  rw [U] at ac;cases ac;obtain⟨rfl⟩:c=true:=by
   rcases hh with⟨_,hm⟩ | ⟨e,_⟩
   ·exact hm.elim
   ·exact e
  have av:j=F.n:=h.Cr.cj rfl;have ay:=h.Cr.mode;rw [if_pos rfl,show B.N0+F.n=gs.size by omega,JE,U] at ay;obtain⟨aR,_,_⟩:=ay;have al:=h.Cr.cnt;have az:Cl true gs.size φ 0= .ph (.FB [] []):=by simp [Cl];omega
  rw [az] at al;simp only [pend,Nat.add_zero] at al;have hex:∃i,i<gs.size+1/\1<=cU (Cl true gs.size φ i)+cL (Cl true gs.size φ i)+cS (Cl true gs.size φ i):=by
   apply Classical.byContradiction;intro aS;have am:∀i,i<gs.size+1->cU (Cl true gs.size φ i)=0/\cL (Cl true gs.size φ i)=0/\cS (Cl true gs.size φ i)=0:=λi hi=>by
    have:¬1<=cU (Cl true gs.size φ i)+cL (Cl true gs.size φ i)+cS (Cl true gs.size φ i):=λq=>aS ⟨i,hi,q⟩;omega
   have zero:∀f:Nat->Nat,(∀i,i<gs.size+1->f i=0)->sumTo (gs.size+1) f=0:=λf aT=>by
    have:=sumTo_le (f:=f) (c:=0) (j:=gs.size+1) (λi hi=>by rw [aT i hi];exact Nat.le_refl _);omega
   have z1:=zero (λi=>cU (Cl true gs.size φ i)) λi hi=>(am i hi).1;have a3:=zero (λi=>cL (Cl true gs.size φ i)) λi hi=>(am i hi).2.1;have a4:=zero (λi=>cS (Cl true gs.size φ i)) λi hi=>(am i hi).2.2;simp only [Bool.toNat_true] at aR al;omega
  obtain⟨i,hi,O⟩:=hex;have aI:i≠0:=by rintro rfl;rw [az] at O;simp [cU,cL,cS] at O
  have aU:i≠gs.size:=by rintro rfl;rw [JE,U] at O;simp [cU,cL,cS] at O
  rw [IJ aI aU] at O;have ap:i<gs.size:=by omega
  cases aJ:φ i with
  | gone d=>rw [aJ] at O;simp [cU,cL,cS] at O
  | ph pi=>
   cases aK:bt i with
   | true=>exact ag i ap pi aJ aK
   | false=>
    obtain⟨⟨k,sv,aV⟩,aW⟩:(∃k sv,φ i= .ph (.lk k (.Ck sv)))/\q=0:=by
     rcases h.blk i ap aK with⟨e,_⟩ | e
     ·exact absurd e aI
     ·exact e
    subst aW;have aX:1<=Sg pQ gs.size φ:=by
     have:=le_sumTo (f:=λa=>CX pQ (φ a)) ap;have e:CX pQ (φ i)=1:=by rw [aV];rfl
     simp only [e] at this;exact this
    have hb:=h.lock.ln.busy aX;have aY:1<=Sg (λp=>(((((pH p+pN p)+pZ p)+pV p)+pT p)+pD p)+pX p) gs.size φ:=by
     rw [Jx,Jx,Jx,Jx,Jx,Jx];exact hb
    obtain⟨a,aL,Y⟩:=Vz aY;cases Z:φ a with
    | gone d=>rw [Z] at Y;simp [CX] at Y
    | ph aZ=>
     rw [Z] at Y;cases aZ <;> (try (simp [CX] at Y;done))
     rename_i k' l;cases aM:bt a with
     | true=>exact ag a aL _ Z aM
     | false=>
      rcases h.blk a aL aM with⟨e,aN,_⟩ | ⟨⟨a5,a6,e⟩,_⟩
      ·subst e;rw [Z] at aN;cases aN
      ·rw [Z] at e;cases e;simp [CX,pH,pN,pZ,pV,pT,pD,pX] at Y
theorem Inv.step(h:Inv P F B gs w t φ r bt S Sh j c v wt' sm m q f)(am:∀k v E E',Le E E'->F.msg k v E->F.msg k v E'):
  ∃gs' w' av u,stepT P (crowd gs w sl)=(.next (crowd gs' w' av),u)/\
  ((∃φ' r' aN S' aV ap aW v' aX sm' m' q' aY,Inv P F B gs' w' (t++u) φ' r' aN S' aV ap aW v' aX sm' m' q' aY/\Mu.lt (mu F gs'.size φ' m' q' r' aN) (mu F gs.size φ m q r bt))∨PX P F B gs' w' (t++u)):=by
 have bf:=h.size;have aZ:∀x∈gs,awake x:=by
  intro x K;obtain⟨i,hi,rfl⟩:=Array.mem_iff_getElem.1 K;exact(h.Kv i _ (Array.getElem?_eq_getElem hi)).awake
 obtain⟨i,g,d,av,hi,aO,a0⟩:=crowd_pick (P:=P) (w:=w) (sl:=sl) aZ h.runs
 suffices Ih P F B gs (w.at d) av t i (mu F gs.size φ m q r bt) by
  obtain⟨gs',w',a1,u,aw,ay⟩:=this;exact⟨gs',w',a1,u,a0.trans aw,ay⟩
 have O:=h.at_ d;have aP:i<gs.size:=(Array.getElem?_eq_some_iff.1 hi).1;have ac:=h.Kv i g hi;generalize K:φ i=x at ac;generalize aQ:r i=ρ at ac;generalize hb:bt i=b at ac;generalize aR:loc x (S i)=s at ac;cases ac with
 | blk _ _ _=>cases aO
 | gone hm aS=>exact O.slip hi aO K aQ hm aS
 | @walk p _ _ _ hm aS az=>
  have a2:JQ (Stop P F p) g s∨∃f,ρ= .node f/\(∀w,Fits s w->∃g' s' w' es,stepG P (i==0) g w= .go g' w' es/\Jr P (i==0) (JQ (Stop P F p)) (f w) g' s'/\Fits s' w'/\Fr s w s' w'/\(∀e∈es,Ev s w w' e)/\(s= .quiet->s'= .quiet/\w'=w/\es= #[])):=by
   cases ρ with
   | leaf=>exact .inl az
   | node f=>
    rcases az with q | ⟨_,q⟩
    ·exact .inl q
    ·exact .inr ⟨f,rfl,q⟩
  rcases a2 with⟨s₀,aT,U⟩ | ⟨f0,rfl,hgo⟩
  ·subst aR;have Y:Fam.Cx p=false->Ca (S i) s₀:=λe=>by simpa [loc,Hw,e] using aT
   by_cases c1:∃k l,p= .lk k l
   ·obtain⟨k,l,rfl⟩:=c1;by_cases c2:l= .Fw
    ·subst c2;exact O.store hi K hm (Y rfl) U
    by_cases c3:(∃sv,l= .Ck sv)/\q=0
    ·obtain⟨⟨sv,rfl⟩,c3⟩:=c3;exact O.block hi K hb hm (Y rfl) U (.inr ⟨⟨k,sv,rfl⟩,c3⟩)
    exact O.BR am hi K c2 hm (Y rfl) U λsv e aI=>c3 ⟨⟨sv,e⟩,aI⟩
   by_cases c2:∃ap,p= .FH ap
   ·obtain⟨ap,rfl⟩:=c2;have ag:i=0:=by simpa [Fam.Co] using hm
    subst ag;exact O.spawn hi K (Y rfl) U
   by_cases c3:p= .Ge
   ·subst c3;have ag:i=0:=by simpa [Fam.Co] using hm
    subst ag;exact O.over am hi K (Y rfl) U _
   by_cases c4:p= .Fs/\sm=0
   ·obtain⟨rfl,c4⟩:=c4;exact O.block hi K hb hm (Y rfl) U (.inl ⟨rfl,c4⟩)
   have a3:∃aJ,aJ<gs.size+c.toNat/\Cl c gs.size φ aJ= .ph p:=by
    by_cases e:i=0
    ·subst e;cases c with
     | false=>exact⟨0,by omega,by rw [I9];exact K⟩
     | true=>exact⟨gs.size,by simp,by rw [JE];exact K⟩
    ·exact⟨i,by omega,by rw [IJ e (by omega)];exact K⟩
   have a4:p= .Fs->sm=1:=by
    rintro rfl;have ag:i=0:=by simpa [Fam.Co] using hm
    subst ag;obtain⟨p0,al,_,hh⟩:=h.main;rw [K] at al;cases al;obtain rfl:c=true:=by
     rcases hh with⟨_,hm⟩ | ⟨e,_⟩
     ·exact hm.elim
     ·exact e
    have az:=h.Cr.cj rfl;have aU:=h.Cr.mode;rw [if_pos rfl,show B.N0+F.n=gs.size by omega,JE,K] at aU;obtain⟨bg,_⟩:=aU;have:sm≠0:=λq=>c4 ⟨rfl,q⟩;omega
   obtain⟨aJ,a5,a6⟩:=a3;have aq:(∀k,p≠ .G7 k)/\p≠ .GM/\(∀aK vs,p≠ .FB aK vs)/\p≠ .Hx:=by
    by_cases e:i=0
    ·subst e;have aL:=h.mn;rw [K] at aL;obtain⟨p0,al,_,hh⟩:=h.main;rw [K] at al;cases al;refine⟨λk e=>?_,λe=>?_,λaK vs e=>?_,λe=>?_⟩
     ·subst e;rcases hh with⟨_,Z⟩ | ⟨_,Z⟩ <;> exact Z.elim
     ·subst e;exact aL.1 rfl
     ·subst e;rcases hh with⟨e,Z⟩ | ⟨_,Z⟩
      ·have:=Z.2;rw [e] at this;cases this
      ·exact Z.elim
     ·subst e;exact aL.2 rfl
    ·rcases h.Et aP with aI | ⟨_,d,hd,_⟩ | ⟨k',bh,bi,_,hw⟩
     ·exact absurd aI e
     ·rw [K] at hd;cases hd
     ·rw [K] at hw;refine⟨λk e=>?_,λe=>?_,λaK vs e=>?_,λe=>?_⟩ <;> subst e
      ·exact absurd hw.2 Bool.false_ne_true
      all_goals exact hw.elim
   obtain⟨v',w',sm',es,bj,a7⟩:=h.Cr.enabled a5 a6 aq.1 (λk e=>c2 ⟨k,e⟩) aq.2.1 aq.2.2.1 aq.2.2.2 a4 c3 λk l e=>c1 ⟨k,l,e⟩;exact O.act am hi K hm aT U a7
  ·subst aR;have a8:Fits (loc (.ph p) (S i)) (w.at d):=by
    have:=O.B4.fits i aP;unfold loc;split
    ·exact⟨λb o aM=>(by cases aM),λb o aM=>(by cases aM),λb hb=>rfl⟩
    ·exact this
   obtain⟨g',s',w',es,aw,ay,a9,ba,bb,be⟩:=hgo (w.at d) a8;exact O.own am hi K hm aw ay a9 ba bb be (by rw [aQ];exact⟨f0,_,rfl,rfl⟩)
theorem Inv.run(Z:∀k v E E',Le E E'->F.msg k v E->F.msg k v E'):∀(K:Mu) (gs:Array Goroutine) (w:World) (sl:Option (Nat×Nat)) (t:Trace) (φ:Nat->Nx) (r:Nat->Rk) (bt:Nat->Bool) (S:Nat->St) (Sh:Nat->Prop) (j:Nat) (c:Bool) (v wt' sm:Nat) (m:M4) (q:Nat) (f:Nat->Value),
  mu F gs.size φ m q r bt=K->Inv P F B gs w t φ r bt S Sh j c v wt' sm m q f->∃n gs' w' O U,runNT P n (crowd gs w sl) t=(.next (crowd gs' w' O),U)/\PX P F B gs' w' U:=by
 intro K
 induction K using Mu.wf.induction with
 | _ K ac=>
  intro gs w sl t φ r bt S Sh j c v wt' sm m q f ag h;obtain⟨gs',w',O,u,Y,hh⟩:=h.step (sl:=sl) Z;rcases hh with⟨φ',r',al,S',am,ap,aq,v',av,sm',m',q',aw,ay,az⟩ | aI
  ·obtain⟨n,aJ,aK,aL,aM,aN,aO⟩:=ac _ (ag▸az) gs' w' O (t++u) φ' r' al S' am ap aq v' av sm' m' q' aw rfl ay;exact⟨n+1,aJ,aK,aL,aM,Mx Y aN,aO⟩
  ·exact⟨1,gs',w',O,t++u,Mx Y rfl,aI⟩
end
def Ju(H:LH)(a b c:Nat):LH:=λx=>if x=c then none else if x=b then none else if x=a then none else H x
theorem Xd{P:Program}(F:Fam){Q:GP}{g:Goroutine}{s:St}{f₀:Nat->Value}(aw:1<=F.n)(aN:F.n<134217728)(aO:∀k v E E',Le E E'->F.msg k v E->F.msg k v E')
  (ay:F.mu≠F.wg) (az:F.fd≠F.wg) (aI:F.fd≠F.mu) (ac:s.H F.wg=some (F.HM 0 0)) (ag:s.H F.mu=some (F.HL 0 0)) (am:s.H F.fd=some (F.Is f₀))
  (aP:Way P true (Stop P F (.Gf 0)) g ⟨s.E,Ju s.H F.wg F.mu F.fd,false⟩) (aQ:∀g s,F.fin g s->(GG P).ok Q g s):(GG P).ok Q g s:=by
 intro gs w sl t q Sh hC;have Y:0<gs.size:=(Array.getElem?_eq_some_iff.1 hC.main).1;let s1:St:={s with H:=λb=>if b=F.wg then none else s.H b}
 let s2:St:={s with H:=λb=>if b=F.mu then none else s1.H b}
 have aJ:lone s 0=s:=rfl;have c1:BP t w gs.size (upd (lone s) 0 s1) (λb=>Sh b∨b=F.wg):=by
  have:=hC.B4.share (i:=0) Y (b₀:=F.wg) (o₀:=F.HM 0 0) (by rw [aJ];exact ac);exact this
 have c2:BP t w gs.size (upd (upd (lone s) 0 s1) 0 s2) (λb=>(Sh b∨b=F.wg)∨b=F.mu):=by
  have:=c1.share (i:=0) Y (b₀:=F.mu) (o₀:=F.HL 0 0) (by rw [upd_same];simp [s1,ay,ag]);refine this.congr λi hi=>?_;by_cases e:i=0
  ·subst e;simp only [upd_same];exact⟨rfl,rfl⟩
  ·have h:∀(f:Nat->St) (x:St),upd f 0 x i=f i:=λf x=>upd_ne f x e;constructor <;> simp only [h]
 have c3:BP t w gs.size (upd (upd (upd (lone s) 0 s1) 0 s2) 0 ⟨s.E,Ju s.H F.wg F.mu F.fd,false⟩) (λb=>((Sh b∨b=F.wg)∨b=F.mu)∨b=F.fd):=by
  have:=c2.share (i:=0) Y (b₀:=F.fd) (o₀:=F.Is f₀) (by rw [upd_same];simp [s2,s1,az,aI,am]);refine this.congr λi hi=>?_;by_cases e:i=0
  ·subst e;simp only [upd_same];exact⟨rfl,rfl⟩
  ·have h:∀(f:Nat->St) (x:St),upd f 0 x i=f i:=λf x=>upd_ne f x e;constructor <;> simp only [h]
 have Z:∀b,s.H b≠none->∀x a,touchAt t x=some a->Cy a.loc=some b->Knows t 0 x:=λb hb=>hC.B4.kH 0 Y b (by rw [aJ];exact hb);have ap:=hC.B4.fits 0 Y;obtain⟨ρ,aR⟩:=aP;let φ:Nat->Nx:=λi=>if i=0 then .ph (.Gf 0) else .gone (Deaf t i)
 have z:∀f:Nx->Nat,(∀d,f (.gone d)=0)->f (.ph (.Gf 0))=0->(sumTo gs.size λi=>f (φ i))=0:=by
  intro f aK aL;have:=sumTo_le (f:=λi=>f (φ i)) (c:=0) (j:=gs.size) λi _=>by
   show f (φ i)<=0;by_cases e:i=0
   ·simp [φ,e,aL]
   ·simp [φ,e,aK]
  omega
 have O:∀f:LP->Nat,Sg f gs.size φ=0:=λf=>z (CX f) (λ_=>rfl) rfl;have aS:∀i,(upd (upd (upd (lone s) 0 s1) 0 s2) 0 ⟨s.E,Ju s.H F.wg F.mu F.fd,false⟩) i=if i=0 then⟨s.E,Ju s.H F.wg F.mu F.fd,false⟩ else .quiet:=by
  intro i;by_cases e:i=0
  ·subst e;rw [upd_same];rfl
  ·rw [upd_ne _ _ e,upd_ne _ _ e,upd_ne _ _ e];simp [lone,e]
 have aT:F.HM (Fam.word 0 0) (0:Nat)=F.HM 0 0:=by simp [Fam.word]
 have aU:F.HL M4.zero.num (0:Nat)=F.HL 0 0:=by simp [M4.num,M4.zero]
 have aM:∀i,i<gs.size->(i=0∨gs.size<=i)->i=0:=λi hi al=>by omega
 have aV:Inv P F ⟨gs.size,t.size,s.E,w⟩ gs w t φ (λi=>if i=0 then ρ else chain (q i)) (λ_=>true) (upd (upd (upd (lone s) 0 s1) 0 s2) 0 ⟨s.E,Ju s.H F.wg F.mu F.fd,false⟩) (λb=>((Sh b∨b=F.wg)∨b=F.mu)∨b=F.fd) 0 false 0 0 0 M4.zero 0 f₀:=by
  refine⟨?_,⟨?_,λi hi=>?_⟩,⟨λi hi=>?_,λi hi=>hC.lv.above i hi,λx a b K hb aq U i hi al=>?_,λx a b K hb aq U=>?_,λx a K hb=> .inl λi hi al=>?_,λx g aW aX aY=> .inl (hC.over x g aW aX aY),λx K e=>?_,Nat.le_refl _,λk U=>by omega⟩,λi g' av=>?_,c3,.inl (.inl (.inr rfl)),.inl (.inr rfl),.inr rfl,ay,az,aI,aN,by simp [φ],?_,?_,ap.h _ _ am,λi hi hb=>(by cases hb),λk U=>(by omega),?_,rfl,.refl _,rfl⟩
  ·rw [I9];refine⟨Y,aw,by omega,by simp,Nat.zero_le _,by simp,⟨.Gf 0,rfl,rfl,aw,rfl⟩,λi aK aL=>?_,λk U=>by omega,by simp,?_,by simp [φ,pend],?_,λk U=>by omega,.nil,λk U=>by cases U⟩
   ·have:i≠0:=by omega
    simp [φ,this,Nc]
   ·have:=z cU (λ_=>rfl) rfl;simp only [Bool.toNat_false,Nat.add_zero];rw [this];simp [φ,pend]
   ·simp only [Bool.false_eq_true,if_false,Dm];exact⟨z cL (λ_=>rfl) rfl,z cS (λ_=>rfl) rfl,trivial,trivial,trivial⟩
  ·rw [O,O,O,O,O,O,O,O];simp [LN,M4.zero]
  ·by_cases e:i=0
   ·simp [φ,e,NM]
   ·simp [φ,e,NM]
  ·by_cases e:i=0
   ·subst e;simp [φ,FG];exact hC.hears
   ·simp [φ,e,FG]
  ·obtain rfl:=aM i hi al;rcases aq with rfl | rfl
   ·exact Z _ (by rw [ac];simp) x a K hb
   ·exact Z _ (by rw [ag];simp) x a K hb
  ·rcases aq with rfl | rfl
   ·exact Z _ (by rw [ac];simp) x a K hb
   ·exact Z _ (by rw [ag];simp) x a K hb
  ·obtain rfl:=aM i hi al;exact Z _ (by rw [am];simp) x a K hb
  ·have:=lt_of_act? e;have bm:t.size<=x:=K;omega
  ·rw [aS];by_cases e:i=0
   ·subst e;rw [hC.main] at av;obtain rfl:=Option.some.inj av;simp only [if_true,φ];exact .walk rfl (λh=>by cases h) aR
   ·have hm:(i==0)=false:=by rw [beq_eq_false_iff_ne];exact e
    simp only [e,if_false,φ];exact .gone hm (hC.lv.old i g' (by omega) av)
  ·show w.heap[F.wg]? =_;rw [aT];exact ap.h _ _ ac
  ·show w.heap[F.mu]? =_;rw [aU];exact ap.h _ _ ag
  ·rw [upd_same];exact Le.refl _
 obtain⟨n,gs',w',aZ,a0,a1,q',a2,g',s',a3,a4,hle,a5,a6,a7⟩:=Inv.run aO _ _ _ sl _ _ _ _ _ _ _ _ _ _ _ _ _ _ rfl aV;obtain⟨n2,a8,w2,a9,t2,ba,bb,g2,be,k1,bf,bg,bh,bi,bj,bl⟩:=aQ g' s' a4 gs' w' aZ a0 q' a2 a3;refine⟨n+n2,a8,w2,a9,t2,ba,bb,g2,be,?_,bf,bg,λb o h=>bh b o (hle b o h),bi.trans a5,a6.trans bj,bl.trans a7⟩;rw [runNT_add,a1];exact k1
end Pal
namespace Pal
open Go Go.Conc
section
variable {P:Program}{F:Fam}{J:Judge P}{Q:GP}{n:Nat}{L L':Env}{ds:Ld_}{k:Li_}{cs:Lf_}{s s':St}{b:Frame}{main:Bool}
theorem BC(hb:b.roundOf=none)(T:Av_)(todo:Li_):fr b T ds todo=b.at ⟨T,ds⟩ todo:=by simp [fr,Frame.at,hb]
theorem KJ(hb:b.roundOf=none)(T:Av_)(todo:Li_):Eg b T ds todo={b.at ⟨T,ds⟩ todo with mode:= .returning}:=by simp [Eg,Frame.at,hb]
theorem Ex(T:Av_)(ds:Ld_)(x:Operand):(⟨T,ds⟩:Act).eval x=Bs T x:=by cases x <;> rfl
theorem DL(T:Av_)(ds:Ld_)(d:Option Tmp)(v:Value):(⟨T,ds⟩:Act).put d v=⟨Cv T d v,ds⟩:=by cases d <;> rfl
def JO(J:Judge P)(Q:GP)(b:Frame)(n:Nat)(L:Env)(ds:Ld_)(cs:Lf_)(s:St):Prop:=
 ∀T,Has n L T->∀todo,J.ok Q (G (Eg b T ds todo) cs) s
theorem JL.out(K:b.roundOf=none)(h:JO J Q b n L ds cs s):JL J Q b n L ds [] cs s:=λT O=>
 Judge.CZ rfl (λw=>by simp [G,stepG,stepG.exec,fr,Eg,K]) (h T O [])
theorem HZ(K:b.roundOf=none)(h:JO J Q b n L ds cs s):JL J Q b n L ds (.code .ret::k) cs s:=λT O=>
 Judge.CZ rfl (λw=>by simp [G,stepG,stepG.exec,fr,Eg,K]) (h T O (.code .ret::k))
theorem JO.leave{c:Frame}{v:Value}(O:b.kind= .normal)(K:Bx P b.fn L n s v)(h:J.ok Q (G (c.finish v) cs) s):JO J Q b n L [] (c::cs) s:=λT U todo=>by
 obtain⟨fn,Y,K⟩:=K
 exact Judge.leave O Y (K T U) h
theorem JO.leaveD{c:Frame}{fn:Func}(O:b.kind= .deferred)(U:P.funcs[b.fn]? =some fn)(K:fn.results= #[])(Y:c.mode= .returning∨c.mode= .panicking [goexitEntry])(h:J.ok Q (G c cs) s):JO J Q b n L [] (c::cs) s:=λT ac todo=>by
 refine Judge.CZ rfl (λw=>?_) h
 have Z:=results_none K T P w
 have e2:=λ(x:Array Event)=>events_results_none (P:=P) (w:=w) K T x
 rcases Y with e | e <;> simp [G,stepG,unwind,Eg,U,Z,e2,doReturn,O,GStep.after,seen_none,e,goexitEntry]
theorem JO.enter{f:FuncId}{fn:Func}{c:Code}{vs:Lv_}(O:b.roundOf=none)(Y:P.funcs[f]? =some fn)(Z:(fn.name== "runtime.NumGoroutine")=false)(hb:fn.body=some c)(am:vs.length<=fn.ntmps)
  (h:∀T,Has n L T->∀todo,JL J Q (baseD f) fn.ntmps (Ga 0 vs) [] [.code c] (Eg b T ds todo::cs) s):JO J Q b n L (dcall f vs.toArray::ds) cs s:=λT ac todo=>by
 refine Judge.CZ rfl (λw=>?_) (h T ac todo (vs.toArray++Array.replicate (fn.ntmps - vs.length) undef) ⟨by simp;omega,λt v ag=>?_⟩)
 ·rw [KJ O,stepG_unwind_enter (a:=⟨T,dcall f vs.toArray::ds⟩) rfl Y Z hb,KJ O]
  rw [BC (b:=baseD f) rfl];simp
 ·obtain⟨_,K⟩:=Jo ag;have al:t<vs.length:=by
   rcases Nat.lt_or_ge t vs.length with U | U
   ·exact U
   ·simp at K;have:=(List.getElem?_eq_some_iff.1 K).1;omega
  rw [Array.getD_eq_getD_getElem?,Array.getElem?_append_left (by simpa using al)];simp at K;simp [K]
theorem JL.defer{ops:Ao_}{i:Nat}{rest:List Nat}{d:Option Tmp}{f:FuncId}{args:Array Operand}{ats:Array TypeId}{ty:TypeId}{p:String}{af:Ae_}{g:On_}{vs:Lv_}
  (U:ops[i]? =some ⟨d,.defer ⟨.value (.func f),args,ats⟩,ty,p,af,g⟩) (Y:b.roundOf=none) (hw:AJ L ops ⟨d,.defer ⟨.value (.func f),args,ats⟩,ty,p,af,g⟩=some true) (K:((b.kind != .early)&&Bd n d)=true)
  (Z:evs L args.toList=some vs) (h:JL J Q b n (As L d undef) (dcall f vs.toArray::ds) (.inRegion ops rest::k) cs s):
  JL J Q b n L ds (.inRegion ops (i::rest)::k) cs s:=λT O=>by
 simp only [Bool.and_eq_true] at K
 have ac:args.map (Bs T)=vs.toArray:=by
  rw [← Gr O.Gb Z];apply Array.ext';simp
 refine Judge.oper U (B3 O hw) (by simpa using K.1) (.inl Y) ?_;have hd:execOp (Bs T) ⟨d,.defer ⟨.value (.func f),args,ats⟩,ty,p,af,g⟩= .pure (.defer (dcall f vs.toArray)):=by
  simp only [execOp,resolve,bind,Sem.bind,Deferred.ofValue,Bs,pure,dcall];rw [ac];simp
 rw [hd];exact h _ (O.put K.2 undef)
def KU:Ph->Bool
 | .G7 _ | .FH _ | .GM | .FB _ _ | .Hx | .Fs | .Ge | .lk _ _=>false
 | _=>true
theorem ID{p:Ph}{g:Goroutine}(K:KU p=true)(Y:g.status= .running)(Z:g.offers=none)(O:if Fam.Cx p=true then s= .quiet else s.q=false)(ac:p= .Fa->mayWake P g=true)
  (h:∀v wt sm v' wt' sm' es U,F.act p v wt sm=some ((v',wt',sm'),es,U)->∃g',(∀w,F.WG w v wt sm->stepG P (Fam.Co p) g w= .go g' (F.put w v' wt' sm') es)/\g'.status= .running/\L4 P (Stop P F) (Fam.Co p) U g' (Fam.Jg p s)):Stop P F p g s:=
 GV.stop {
  run:=Y
  offers:=Z
  quiet:=λe=>by rw [if_pos e] at O;exact O
  live:=λe=>by rw [if_neg (by rw [e];simp)] at O;exact O
  act:=h
  IL:=λe=>by rcases e with e | ⟨k,b,e⟩;exact ac e;subst e;cases K
  ES:=λe=>by subst e;cases K
  go:=λj e=>by subst e;cases K
  lk:=λk l e=>by subst e;cases K
  Ck:=λk sv e=>by subst e;cases K
  store:=λk e=>by subst e;cases K
  fin:=λe=>by subst e;cases K}
theorem KI{w:World}{v wt sm:Nat}(h:F.WG w v wt sm):F.put w v wt sm=w:=by
 unfold Fam.put;have:w.heap.setIfInBounds F.wg (F.HM (Fam.word v wt) sm)=w.heap:=by
  apply Array.ext_getElem?;intro i;by_cases e:F.wg=i
  ·subst e;unfold Fam.WG at h;have O:F.wg<w.heap.size:=by
    rcases Nat.lt_or_ge F.wg w.heap.size with K | K
    ·exact K
    ·simp [Array.getElem?_eq_none K] at h
   rw [Array.getElem?_setIfInBounds_self_of_lt O,h]
  ·rw [Array.getElem?_setIfInBounds_ne e]
 rw [this]
theorem IF{w:World}{v wt sm:Nat}(h:F.WG w v wt sm):w.cell? F.sA=some (.int .u64 (Fam.word v wt))/\w.cell? F.mA=some (.int .u32 sm)/\w.frozen? F.sA=false/\w.frozen? F.mA=false:=by
 unfold Fam.WG Fam.HM at h;refine⟨?_,?_,?_,?_⟩
 ·simp [World.cell?,Fam.sA,h]
 ·simp [World.cell?,Fam.mA,h]
 ·simp [World.frozen?,Fam.sA,h]
 ·simp [World.frozen?,Fam.mA,h]
theorem Mv{w:World}{v wt sm v' wt':Nat}(h:F.WG w v wt sm):w.setCell F.sA (.int .u64 (Fam.word v' wt'))=F.put w v' wt' sm:=by
 unfold Fam.put World.setCell;congr 1;apply Array.ext_getElem?;intro i;unfold Fam.WG Fam.HM at h;rw [Array.getElem?_modify];have O:F.wg<w.heap.size:=by
  rcases Nat.lt_or_ge F.wg w.heap.size with K | K
  ·exact K
  ·simp [Array.getElem?_eq_none K] at h
 by_cases e:F.wg=i
 ·subst e;rw [Array.getElem?_setIfInBounds_self_of_lt O,h];simp [Fam.sA,Fam.HM]
 ·rw [Array.getElem?_setIfInBounds_ne e];simp [Fam.sA,e]
theorem QA{w:World}{v wt sm sm':Nat}(h:F.WG w v wt sm):w.setCell F.mA (.int .u32 sm')=F.put w v wt sm':=by
 unfold Fam.put World.setCell;congr 1;apply Array.ext_getElem?;intro i;unfold Fam.WG Fam.HM at h;rw [Array.getElem?_modify];have O:F.wg<w.heap.size:=by
  rcases Nat.lt_or_ge F.wg w.heap.size with K | K
  ·exact K
  ·simp [Array.getElem?_eq_none K] at h
 by_cases e:F.wg=i
 ·subst e;rw [Array.getElem?_setIfInBounds_self_of_lt O,h];simp [Fam.mA,Fam.HM]
 ·rw [Array.getElem?_setIfInBounds_ne e];simp [Fam.mA,e]
structure BY (P:Program) (f:FuncId) (e:Av_->Sem Value):Prop where
 h:∃fn,P.funcs[f]? =some fn/\(fn.name== "runtime.NumGoroutine")=false/\fn.body.isNone=true/\Extern.findNext fn=none/\Extern.find fn=some e
section
variable {ops:Ao_}{i:Nat}{rest:List Nat}{d:Option Tmp}{f:FuncId}{args:Array Operand}{ats:Array TypeId}{ty:TypeId}{pp:String}{af:Ae_}{g:On_}{vs:Lv_}{p q:Ph}
theorem JJ{T:Av_}(K:Has n L T)(O:evs L args.toList=some vs):args.map (⟨T,ds⟩:Act).eval=vs.toArray:=by
 have:(⟨T,ds⟩:Act).eval=Bs T:=funext λx=>Ex T ds x;rw [this,← Gr K.Gb O];apply Array.ext';simp
theorem Lz{m:Mark}(Z:KU p=true)(ac:if Fam.Cx p=true then s= .quiet else s.q=false)(ag:p≠ .Fa)(al:∀v wt sm,F.act p v wt sm=some ((v,wt,sm),#[Fam.Cs m],.ph q))(am:Fam.Jg p s=s)
  (ap:ops[i]? =some ⟨d,.call ⟨.value (.func f),args,ats⟩,ty,pp,af,g⟩) (O:b.roundOf=none) (hw:AJ L ops ⟨d,.call ⟨.value (.func f),args,ats⟩,ty,pp,af,g⟩=some true) (K:((b.kind != .early)&&Bd n d)=true)
  (hm:∀x,m≠ .extern x) (he:BY P f (λ_=>do mark m;pure Extern.Race.none_))
  (h:JL (AP P (Fam.Co p)) (Stop P F q) b n (As L d (.tuple #[])) ds (.inRegion ops rest::k) cs s):
  JL (AP P (Fam.Co p)) (Stop P F p) b n L ds (.inRegion ops (i::rest)::k) cs s:=λT U=>by
 simp only [Bool.and_eq_true] at K
 obtain⟨fn,aq,av,hb,aw,he⟩:=he.h
 refine(AP P _).stop (ID Z rfl rfl ac (λe=>absurd e ag) λv wt sm v' wt' sm' es az Y=>?_)
 rw [al] at Y;cases Y
 refine⟨_,λw ay=>?_,rfl,by rw [am];exact h _ (U.put K.2 _)⟩
 rw [BC O,BC O,stepG_mark0 (a:=⟨T,ds⟩) m hm ap (B3 U hw) (by simpa using K.1) rfl aq av hb aw he,KI ay,DL]
 rfl
theorem Ov{mk:Addr->Mark}{ad:Addr}(Z:KU p=true)(ac:if Fam.Cx p=true then s= .quiet else s.q=false)(ag:p≠ .Fa)(al:∀v wt sm,F.act p v wt sm=some ((v,wt,sm),#[Fam.Cs (mk ad)],.ph q))
  (am:ops[i]? =some ⟨d,.call ⟨.value (.func f),args,ats⟩,ty,pp,af,g⟩) (U:b.roundOf=none) (hw:AJ L ops ⟨d,.call ⟨.value (.func f),args,ats⟩,ty,pp,af,g⟩=some true) (K:((b.kind != .early)&&Bd n d)=true)
  (hm:∀ad x,mk ad≠ .extern x) (he:BY P f (Extern.Race.marked mk)) (ap:evs L args.toList=some vs) (aq:vs[0]? =some (.pointer (some ad)))
  (h:JL (AP P (Fam.Co p)) (Stop P F q) b n (As L d (.tuple #[])) ds (.inRegion ops rest::k) cs (Fam.Jg p s)):
  JL (AP P (Fam.Co p)) (Stop P F p) b n L ds (.inRegion ops (i::rest)::k) cs s:=λT O=>by
 simp only [Bool.and_eq_true] at K
 obtain⟨fn,av,aw,hb,ay,he⟩:=he.h
 refine(AP P _).stop (ID Z rfl rfl ac (λe=>absurd e ag) λv wt sm v' wt' sm' es aI Y=>?_)
 rw [al] at Y;cases Y
 refine⟨_,λw az=>?_,rfl,h _ (O.put K.2 _)⟩
 rw [BC U,BC U,stepG_markAt (a:=⟨T,ds⟩) mk hm am (B3 O hw) (by simpa using K.1) rfl av aw hb ay he (ad:=ad) (by rw [JJ O ap];simpa using aq),KI az,DL]
 rfl
end
end
end Pal
namespace Pal
open Go Go.Conc
section
variable {E H:LH}{S:List Seg}{j l:Nat}{o o':Obj}
theorem Kf(ap:Aq E H S)(Y:S[j]? =some [(l,o)])(o':Obj):(Aj E H S).upd l o'=Aj E H (S.set j [(l,o')])/\Aq E H (S.set j [(l,o')]):=by
 obtain⟨K,Z⟩:=G4 ap Y;have U:=Nd.iff.1 Z;have ac:E l=none:=(U.2 (l,o) (by simp)).1;have aq:H l=none:=(U.2 (l,o) (by simp)).2;have ag:Nd E H (S.set j []).flatten:=J8.Nd.left Z;have av:∀q∈(S.set j []).flatten,q.1≠l:=λq O e=>by
  have:=U.1;rw [List.map_append,List.nodup_append] at this;exact this.2.2 q.1 (List.mem_map_of_mem O) l (by simp) e
 have al:A9 (S.set j []).flatten H l=none:=by
  have key:∀(B:List (Nat×Obj)),(∀q∈B,q.1≠l)->A9 B H l=none:=by
   intro B
   induction B with
   | nil=>intro _;exact aq
   | cons q B aw=>
    intro O;obtain⟨c,ay⟩:=q;have am:l≠c:=λe=>O (c,ay) (by simp) e.symm;have K:=aw λq' az=>O q' (List.mem_cons_of_mem _ az);simp only [A9]
    first
    | rw [if_neg am];exact K
    | rw [if_neg (Ne.symm am)];exact K
  exact key _ av
 have f1:=Kd (E:=E) (H:=H) (B:=(S.set j []).flatten) (r:=l) ac al o ag;have f2:=Kd (E:=E) (H:=H) (B:=(S.set j []).flatten) (r:=l) ac al o' ag;obtain⟨aI,g2⟩:=I7 (seg:= [(l,o)]) Y f2.1;refine⟨?_,g2⟩;rw [K,← aI,← f1.2,← f2.2];unfold St.upd;congr 1;funext x;by_cases aJ:x=l <;> simp [aJ]
end
section
variable {P:Program}{J:Judge P}{Q:Gs_}{b:Frame}{n:Nat}{L:Env}{ds:Ld_}{k:Li_}{cs:Lf_}{E H:LH}{S:List Seg}{j l:Nat}
theorem Judge.ES{α:Type}{g:Goroutine}{g':α->Goroutine}{s:St}(x:Sem α)(ac:s.q=false)(ag:g.status= .running)
  (al:∀w a w',x.run P w= .ok a w'->∃es,stepG P J.main g w= .go (g' a) w' es/\∀e∈es,e∈x.events P w #[])
  (h:lp P x s (λa s'=>J.ok Q (g' a) s') (λ_ _=>False)):J.ok Q g s:=by
 refine J.step ⟨ag,λw f=>?_,λe=>by subst e;cases ac⟩;obtain⟨s',O,U,Y,K⟩:=MG _ h f;cases Z:x.run P w with
 | ok a w'=>
  rw [Z] at O U Y K;simp only [Kq] at O U Y;obtain⟨es,he,hm⟩:=al w a w' Z;exact⟨g' a,s',w',es,he,K,O,U,λe am=>Y e (hm e am)⟩
 | halt a w'=>rw [Z] at K;exact K.elim
theorem Ms{r:Loop}{s:St}{K:Loop->St->Prop}{X:Halt->St->Prop}(h:s.get l=some (.loop r))(k:K r s):lp P (Instr.getLoop l) s K X:=by
 unfold Instr.getLoop getObj;simp only [bind,Sem.bind,lp];exact⟨_,h,rfl,k⟩
theorem Ur{r:Loop}{T:Av_}(j:Nat)(K:Aq E H S)(O:S[j]? =some [(l,.loop r)])(U:(r.state== .busy)=false)(Y:r.pending=none)
  (h:Aq E H (S.set j [(l,.loop {r with state:= .exhausted})])->J.ok Q (G (fr b T ds k) cs) (Aj E H (S.set j [(l,.loop {r with state:= .exhausted})]))):
  J.ok Q (G (fr b T ds (.endRangeFunc l::k)) cs) (Aj E H S):=by
 obtain⟨Z,ac⟩:=Kf K O (.loop {r with state:= .exhausted});have ag:lp P (Instr.endLoop l) (Aj E H S) (λa s'=>a=none/\s'=Aj E H (S.set j [(l,.loop {r with state:= .exhausted})])) (λ_ _=>False):=by
  unfold Instr.endLoop;refine Au _ _ (Ms (DF (i:=0) K O rfl) ?_);rw [if_neg (by rw [U];simp)];have al:(Aj E H S).H l=some (.loop r):=by
   have:=DF (i:=0) K O rfl;have am:E l=none:=M9 K O;unfold St.get at this;rw [show(Aj E H S).E l=none from am] at this;exact this
  simp only [bind,Sem.bind,lp,setObj,pure];refine⟨⟨_,al,rfl⟩,rfl,Y,?_⟩;exact Z
 refine Judge.ES (g':=λap=>G (fr b T ds ((ap.map Item.code).toList++k)) cs) (Instr.endLoop l) rfl rfl (λw a w' aq=>?_) (Ee _ ag (λa s' ⟨av,aw⟩=>by subst av aw;exact h ac) (λ_ _ h=>h));refine⟨seen P b.fn ((Instr.endLoop l).events P w #[])++ #[],?_,λe he=>?_⟩
 ·simp [G,stepG,stepG.exec,fr,aq,GStep.after]
 ·exact mem_seen (by simpa using he)
def TK(l:Nat)(f:FuncId):Frame:={(default:Frame) with fn:=f,kind:= .normal,roundOf:=some l}
theorem FZ.yield{r:Loop}{t:Tmp}{v:Value}{B:Seg}{R:Value->LH->Seg->Prop}{i:Nat}(K:B[i]? =some (l,.loop r))(O:r.params= #[t])
  (h:∀(Q:Gs_) (U:Frame) (cs:Lf_) (H:LH),Aq E H [B]->(∀w E' S' B',Le E E'->S'.flatten=B'->R w E' B'->Aq E' H S'->J.ok Q (G (U.finish w) cs) (Aj E' H S'))->
   J.ok Q (G (fr (TK l r.fn) (r.tmps.setIfInBounds t v) [] [.code r.assign,.beginRound,.code r.body]) (U::cs)) (Aj E H [B])):
  FZ J (.func (.yield l) #[] #[]) [v] E B R:=λH Y Q c cs Z=>by
 have ac:(mk E H B).get l=some (.loop r):=Ol Y K
 simp only [Deferred.ofValue,bind,Sem.bind,pure,invoke]
 unfold Instr.yield
 refine Au _ _ (Ms ac ?_)
 have ag:¬((#[]:Av_)++ [v].toArray).size≠r.params.size:=by rw [O];simp
 rw [if_neg ag];have e2:((r.params.zip ((#[]:Av_)++ [v].toArray)).foldl (λtmps (t,a)=>tmps.setIfInBounds t a) r.tmps)=r.tmps.setIfInBounds t v:=by rw [O];simp [Array.zip,Array.zipWith,Array.zipWithMAux]
 simp only [lp,pure];have al:mk E H B=Aj E H [B]:=by unfold Aj;simp
 rw [e2,al];exact h Q c cs H (by unfold Aq;simpa using Y) λw E' S' B' hle K am ap=>by
  subst K;exact Z w _ ⟨E',S'.flatten,hle,am,ap,rfl⟩
theorem JL.beginRound{r:Loop}(j:Nat)(U:b.roundOf=some l)(Y:b.kind= .normal)(K:Aq E H S)(O:S[j]? =some [(l,.loop r)])(Z:r.state= .ready)
  (h:Aq E H (S.set j [(l,.loop {r with state:= .busy})])->JL J Q b n L ds k cs (Aj E H (S.set j [(l,.loop {r with state:= .busy})]))):
  JL J Q b n L ds (.beginRound::k) cs (Aj E H S):=λT ac=>by
 obtain⟨ag,al⟩:=Kf K O (.loop {r with state:= .busy})
 have am:lp P (Instr.beginRound l) (Aj E H S) (λ_ s'=>s'=Aj E H (S.set j [(l,.loop {r with state:= .busy})])) (λ_ _=>False):=by
  unfold Instr.beginRound;refine Au _ _ (Ms (DF (i:=0) K O rfl) ?_);have ap:(Aj E H S).H l=some (.loop r):=by
   have:=DF (i:=0) K O rfl;have aq:E l=none:=M9 K O;unfold St.get at this;rw [show(Aj E H S).E l=none from aq] at this;exact this
  simp only [bind,Sem.bind,lp,setObj,pure,Z];exact⟨⟨_,ap,rfl⟩,rfl,ag⟩
 refine Judge.ES (g':=λ_=>G (fr b T ds k) cs) (Instr.beginRound l) rfl rfl (λw a w' av=>?_) (Ee _ am (λa s' aw=>by subst aw;exact h al T ac) (λ_ _ h=>h));refine⟨seen P b.fn ((Instr.beginRound l).events P w #[])++ #[],?_,λe he=>?_⟩
 ·simp [G,stepG,stepG.exec,fr,stepG.apply,U,Y,av,GStep.after,Frame.finish]
 ·exact mem_seen (by simpa using he)
theorem JK{o:Obj}{seg:Seg}(K:Aq E H S)(O:S[j]? =some ((l,o)::seg)):(Aj E H S).H l=some o:=by
 have:=DF (i:=0) K O rfl;have U:E l=none:=M9 K O;unfold St.get at this;rw [show(Aj E H S).E l=none from U] at this;exact this
theorem JL.endRound{r:Loop}{c:Frame}(j:Nat)(U:b.roundOf=some l)(Y:b.kind= .normal)(K:Aq E H S)(O:S[j]? =some [(l,.loop r)])
  (h:Aq E H (S.set j [(l,.loop {r with state:= .ready,pending:=none})])->J.ok Q (G (c.finish (.bool true)) cs) (Aj E H (S.set j [(l,.loop {r with state:= .ready,pending:=none})]))):
  JL J Q b n L [] [] (c::cs) (Aj E H S):=λT aq=>by
 obtain⟨Z,ac⟩:=Kf K O (.loop {r with state:= .ready,pending:=none})
 have ag:lp P (Instr.endRound l none) (Aj E H S) (λa s'=>a= .bool true/\s'=Aj E H (S.set j [(l,.loop {r with state:= .ready,pending:=none})])) (λ_ _=>False):=by
  unfold Instr.endRound;refine Au _ _ (Ms (DF (i:=0) K O rfl) ?_);simp only [bind,Sem.bind,lp,setObj,pure];exact⟨⟨_,JK K O,rfl⟩,rfl,rfl,Z⟩
 refine Judge.ES (g':=λv=>G (c.finish v) cs) (Instr.endRound l none) rfl rfl (λw a w' al=>?_) (Ee _ ag (λa s' ⟨am,ap⟩=>by subst am ap;exact h ac) (λ_ _ h=>h));refine⟨seen P b.fn ((Instr.endRound l none).events P w #[])++ #[],?_,λe he=>?_⟩
 ·simp [G,stepG,stepG.exec,fr,U,Y,al,GStep.after,doReturn]
 ·exact mem_seen (by simpa using he)
theorem JL.rangeFunc{x:Operand}{params:Array Tmp}{as O:Code}{f:FuncId}{caps:Lv_}(aq:b.roundOf=none)(av:b.kind≠ .early)(ag:ev L x=some (.func (.func f) #[] caps.toArray))(hb:Dv P f=true)(aw:Aq E H S)
  (h:∀K l T,Has n L T->Aq E H (S++ [[(K,.deferred (some []))]]++ [[(l,.loop ⟨.ready,none,b.fn,T,params,as,O,K⟩)]])->
   J.ok Q (G (Frame.enter P f (.func (.yield l) #[] #[]::caps).toArray .normal) (fr b T (⟨.collected K,#[]⟩::ds) (.inRangeFunc l::k)::cs)) (Aj E H (S++ [[(K,.deferred (some []))]]++ [[(l,.loop ⟨.ready,none,b.fn,T,params,as,O,K⟩)]]))):
  JL J Q b n L ds (.code (.rangeFunc x params as O)::k) cs (Aj E H S):=λT al=>by
 have ay:lp P (Instr.enterLoop b.fn T params as O b.roundOf) (Aj E H S) (λq s'=>∃K,q.2= [⟨.collected K,#[]⟩]/\Aq E H (S++ [[(K,.deferred (some []))]]++ [[(q.1,.loop ⟨.ready,none,b.fn,T,params,as,O,K⟩)]])/\s'=Aj E H (S++ [[(K,.deferred (some []))]]++ [[(q.1,.loop ⟨.ready,none,b.fn,T,params,as,O,K⟩)]])) (λ_ _=>False):=by
  unfold Instr.enterLoop;rw [aq];simp only [newObj,bind,Sem.bind,lp,pure];refine⟨rfl,λK Y Z=>?_⟩;obtain⟨ac,az⟩:=Kd Y Z (.deferred (some [])) aw;obtain⟨aI,p2⟩:=Fz ac;have aJ:(Aj E H S).upd K (.deferred (some []))=Aj E H (S++ [[(K,.deferred (some []))]]):=by rw [← aI,← az];rfl
  rw [aJ];refine⟨rfl,λl aK aL=>?_⟩;obtain⟨aM,aN⟩:=Kd aK aL (.loop ⟨.ready,none,b.fn,T,params,as,O,K⟩) p2;obtain⟨p3,p4⟩:=Fz aM;exact⟨K,rfl,p4,by rw [← p3,← aN];rfl⟩
 refine Judge.ES (g':=λq=>G (Frame.enter P f (.func (.yield q.1) #[] #[]::caps).toArray .normal) (fr b T (q.2++ds) (.inRangeFunc q.1::k)::cs)) (Instr.enterLoop b.fn T params as O b.roundOf) rfl rfl (λw a w' aO=>?_) (Ee _ ay (λa s' ⟨K,Y,Z,ac⟩=>by subst ac;simp only [Y];exact h K a.1 T al Z) (λ_ _ h=>h));obtain⟨l,mk⟩:=a;have aP:Bs T x= .func (.func f) #[] caps.toArray:=al.ev ag;obtain⟨fn,U,aQ,am⟩:∃fn,P.funcs[f]? =some fn/\(fn.name== "runtime.NumGoroutine")=false/\fn.body.isNone=false:=by
  unfold Dv at hb;cases U:P.funcs[f]? with
  | none=>rw [U] at hb;cases hb
  | some fn=>
   rw [U] at hb;simp only [Bool.and_eq_true,Bool.not_eq_true'] at hb;exact⟨fn,rfl,hb.1,by cases ag:fn.body <;> simp_all⟩
 refine⟨seen P b.fn ((Instr.enterLoop b.fn T params as O b.roundOf).events P w #[])++ #[],?_,λe he=>?_⟩
 ·have ap:=Rf (b:=b) (ds:=mk++ds) T (.inRangeFunc l::k);simp only [fr] at ap;have aR:¬fn.name= "runtime.NumGoroutine" :=by simpa using aQ
  have aS:¬fn.body=none:=by intro e;rw [e] at am;cases am
  have aT:Bs T (.const (.func (.yield l) #[] #[]))= .func (.yield l) #[] #[]:=rfl;simp [G,stepG,stepG.exec,fr,aO,GStep.after,stepG.apply,resolve,ap,aP,Deferred.ofValue,invoke,callFunc,U,aR,aS,av,aT,seen_none]
 ·exact mem_seen (by simpa using he)
theorem JO.collected{K:Nat}(j:Nat)(aq:b.roundOf=none)(O:Aq E H S)(U:S[j]? =some [(K,.deferred (some []))])
  (h:Aq E H (S.set j [(K,.deferred none)])->JO J Q b n L ds cs (Aj E H (S.set j [(K,.deferred none)]))):JO J Q b n L (⟨.collected K,#[]⟩::ds) cs (Aj E H S):=λT Y todo=>by
 obtain⟨Z,ac⟩:=Kf O U (.deferred none)
 have ag:lp P (Instr.takeDeferred K) (Aj E H S) (λa s'=>a= []/\s'=Aj E H (S.set j [(K,.deferred none)])) (λ_ _=>False):=by
  unfold Instr.takeDeferred getObj;simp only [bind,Sem.bind,lp,setObj,pure];exact⟨_,DF (i:=0) O U rfl,rfl,⟨_,JK O U,rfl⟩,rfl,rfl,Z⟩
 refine Judge.ES (g':=λl=>G (Eg b T (l++ds) todo) cs) (Instr.takeDeferred K) rfl rfl (λw a w' al=>?_) (Ee _ ag (λa s' ⟨am,ap⟩=>by subst am ap;exact h ac T Y todo) (λ_ _ h=>h));refine⟨seen P b.fn ((Instr.takeDeferred K).events P w #[])++ #[],?_,λe he=>?_⟩
 ·simp [G,stepG,unwind,Eg,al,GStep.after]
 ·exact mem_seen (by simpa using he)
def Kp(f:FuncId)(args caps:Av_):Deferred:={target:= .fn (.func f) caps,args:=args}
theorem JO.Pb{f:FuncId}{fn:Func}{c:Code}{vs caps:Lv_}(ap:b.roundOf=none)(O:P.funcs[f]? =some fn)(Y:(fn.name== "runtime.NumGoroutine")=false)(hb:fn.body=some c)(Z:(vs++caps).length<=fn.ntmps){s:St}
  (h:∀T,Has n L T->∀todo,JL J Q (baseD f) fn.ntmps (Ga 0 (vs++caps)) [] [.code c] (Eg b T ds todo::cs) s):JO J Q b n L (Kp f vs.toArray caps.toArray::ds) cs s:=λT ac todo=>by
 have ag:¬fn.name= "runtime.NumGoroutine" :=by simpa using Y
 refine Judge.CZ rfl (λw=>?_) (h T ac todo ((vs++caps).toArray++Array.replicate (fn.ntmps - (vs++caps).length) undef) ⟨by simp;simp at Z;omega,λt v al=>?_⟩)
 ·rw [BC (b:=baseD f) rfl];have:=enter_atD (P:=P) (vs++caps).toArray O hb;simp only [List.size_toArray] at this;rw [← this];simp [G,stepG,unwind,callDeferred,Eg,Kp,invoke,callFunc,O,ag,hb,GStep.after,seen_none]
 ·obtain⟨_,K⟩:=Jo al;have am:t<(vs++caps).length:=by
   rcases Nat.lt_or_ge t (vs++caps).length with U | U
   ·exact U
   ·simp only [Nat.sub_zero] at K;have:=(List.getElem?_eq_some_iff.1 K).1;omega
  rw [Array.getD_eq_getD_getElem?,Array.getElem?_append_left (by simpa using am)];simp only [Nat.sub_zero] at K;rw [List.getElem?_toArray,K];rfl
theorem UY{ops:Ao_}{i:Nat}{rest:List Nat}{d:Option Tmp}{x:Operand}{f:FuncId}{caps:Lv_}{args:Array Operand}{ats:Array TypeId}{ty:TypeId}{p:String}{af:Ae_}{g:On_}{vs:Lv_}{s:St}
  (U:ops[i]? =some ⟨d,.defer ⟨.value x,args,ats⟩,ty,p,af,g⟩) (Y:b.roundOf=none) (hw:AJ L ops ⟨d,.defer ⟨.value x,args,ats⟩,ty,p,af,g⟩=some true) (O:((b.kind != .early)&&Bd n d)=true)
  (Z:ev L x=some (.func (.func f) #[] caps.toArray)) (ac:evs L args.toList=some vs) (h:JL J Q b n (As L d undef) (Kp f vs.toArray caps.toArray::ds) (.inRegion ops rest::k) cs s):
  JL J Q b n L ds (.inRegion ops (i::rest)::k) cs s:=λT K=>by
 simp only [Bool.and_eq_true] at O
 have ag:args.map (Bs T)=vs.toArray:=by
  rw [← Gr K.Gb ac];apply Array.ext';simp
 refine Judge.oper U (B3 K hw) (by simpa using O.1) (.inl Y) ?_;have hd:execOp (Bs T) ⟨d,.defer ⟨.value x,args,ats⟩,ty,p,af,g⟩= .pure (.defer (Kp f vs.toArray caps.toArray)):=by
  simp only [execOp,resolve,bind,Sem.bind,Deferred.ofValue,K.ev Z,pure,Kp];rw [ag];simp
 rw [hd];exact h _ (K.put O.2 undef)
end
end Pal
namespace Pal
open Go Go.Conc
section
variable {P:Program}{s:St}{ρ:Operand->Value}{x y z:Operand}{d:Option Tmp}{t u ty e:TypeId}{p:String}{af:Ae_}{g:On_}{a:Option Addr}{l c:Nat}
theorem MB(K:P.underlying t=some (.slice e))(O:ρ x= .slice a l c)(U:ρ (.const (.slice none 0 0))= .slice none 0 0):Yl P ⟨d,.binOp .eql t x (.const (.slice none 0 0)) u,ty,p,af,g⟩ ρ s (.bool a.isNone):=by
 refine FO (sm:=do eqGuard .eql t x (.const (.slice none 0 0)) (ρ x) (ρ (.const (.slice none 0 0)));binOp .eql t (ρ x) (ρ (.const (.slice none 0 0)))) rfl ?_
 rw [O,U];have Y:lp P (eqGuard .eql t x (.const (.slice none 0 0)) (.slice a l c) (.slice none 0 0)) s (λ_ s'=>s'=s) (λ_ _=>False):=by
  simp [eqGuard,lp,pure]
 refine Au _ _ (Ee _ Y ?_ (λ_ _ h=>h));rintro _ _ rfl;have hb:binOp .eql t (.slice a l c) (.slice none 0 0)=(do pure (.bool (← Op.equal t (.slice a l c) (.slice none 0 0)))):=rfl
 rw [hb];refine Au (x:=Op.equal t (.slice a l c) (.slice none 0 0)) _ ?_;unfold Op.equal Op.maxDepth Op.equalIn;refine Au _ _ (Cg K ?_);cases a <;> exact⟨rfl,rfl⟩
end
section
variable {P:Program}{J:Judge P}{Q:Gs_}{b:Frame}{n:Nat}{L:Env}{ds:Ld_}{k:Li_}{cs:Lf_}{s:St}
end
section
variable {P:Program}{J:Judge P}{Q:Gs_}{b:Frame}{n:Nat}{ds:Ld_}{ops:Ao_}{k:Li_}{cs:Lf_}{m fuel:Nat}{listed:Array Bool}{L:Env}{E H:LH}{S:List Seg}
variable {d:Option Tmp}{x y:Operand}{t u ty e:TypeId}{p:String}{af:Ae_}{g:On_}{v:Value}{i:Nat}
end
end Pal
namespace Pal
open Go Go.Conc
def IM(P:Program)(d:Nat):GP:=λg _=>∃q,QuitsD P q d g
def K6(P:Program):Frame:={(default:Frame) with fn:=P.funcs.size,defers:= [],mode:= .panicking [goexitEntry]}
section
variable {P:Program}{F:Fam}{J:Judge P}{Q:GP}{n:Nat}{L L':Env}{ds:Ld_}{k:Li_}{cs:Lf_}{s s':St}{b:Frame}{main:Bool}
theorem Lv.quits{d:Nat}:∀{m:Nat} {g:Goroutine},Lv P (IM P d) m g->∃q,QuitsD P q d g
 | 0,_,h=>h
 | m+1,_,h=>by
  rcases h with h | ⟨K,g',O,h⟩
  ·exact h
  ·obtain⟨q,U⟩:=h.quits;exact⟨q+1,.ctl K O U⟩
theorem Oh{d:Nat}{g:Goroutine}(h:(H2 P).ok (IM P d) g .quiet):∃q,QuitsD P q d g:=by
 obtain⟨m,hm⟩:=h rfl;exact hm.quits
theorem Uy:(H2 P).ok (IM P 0) (G (K6 P) []) .quiet:=by
 refine Judge.CZ (g':={frame:=K6 P,callers:= [],status:= .finished,dying:=none}) rfl (λw=>?_) ((H2 P).stop ⟨0,rfl,rfl⟩);have K:(default:Frame).todo= []:=rfl;have O:∀(m:FrameMode),Frame.catches P {fn:=P.funcs.size,tmps:=(default:Frame).tmps,todo:= [],defers:= [],mode:=m,kind:=(default:Frame).kind,roundOf:=(default:Frame).roundOf}=false:=λm=>by simp [Frame.catches]
 simp [G,stepG,unwind,K6,goexitEntry,K,O]
theorem Rl{ops:Ao_}{i:Nat}{rest:List Nat}{d:Option Tmp}{f:FuncId}{args:Array Operand}{ats:Array TypeId}{ty:TypeId}{pp:String}{af:Ae_}{g:On_}{T:Av_}{e:Av_->Sem Value}
  (K:ops[i]? =some ⟨d,.call ⟨.value (.func f),args,ats⟩,ty,pp,af,g⟩) (he:BY P f e):mayWake P (G (fr b T ds (.inRegion ops (i::rest)::k)) cs)=true:=by
 obtain⟨fn,O,_,hb,_⟩:=he.h;have U:fn.body.isSome=false:=by cases h:fn.body <;> simp_all
 simp [mayWake,G,fr,K,Frame.eval,O,U]
theorem Wv{v wt:Nat}(K:1<=v)(O:v<2147483648)(U:wt<=1):IntKind.u64.wrap (Fam.word v wt+18446744069414584320)=Fam.word (v - 1) wt:=by
 simp only [Fam.word,Fam.KK,IntKind.wrap,IntKind.bits,IntKind.signed];simp;omega
theorem Wk{v:Nat}(h:v<2147483647):IntKind.u64.wrap (Fam.word v 0+4294967296)=Fam.word (v+1) 0:=by
 simp only [Fam.word,Fam.KK,IntKind.wrap,IntKind.bits,IntKind.signed];simp;omega
theorem word_inj{v v' wt:Nat}(h:Fam.word v wt=Fam.word v' wt):v=v':=by
 simp only [Fam.word,Fam.KK] at h;omega
section
variable {ops:Ao_}{i:Nat}{rest:List Nat}{d:Option Tmp}{f:FuncId}{x y z:Operand}{ats:Array TypeId}{ty:TypeId}{pp:String}{af:Ae_}{g:On_}{p q:Ph}
theorem XC(ag:ops[i]? =some ⟨d,.call ⟨.value (.func f),#[x,y],ats⟩,ty,pp,af,g⟩)(Z:b.roundOf=none)(hw:AJ L ops ⟨d,.call ⟨.value (.func f),#[x,y],ats⟩,ty,pp,af,g⟩=some true)(O:((b.kind != .early)&&Bd n d)=true)
  (he:BY P f (Extern.Atomic.update (Op.intArith .add) .u64 true)) (al:ev L x=some (.pointer (some F.sA))) (am:ev L y=some (.int .u64 18446744069414584320))
  (ap:JL (AP P false) (Stop P F .GK) b n (As L d (.int .u64 (Fam.word 0 1))) ds (.inRegion ops rest::k) cs .quiet)
  (aq:∀v wt:Nat,v<2147483647->wt<=1->¬(v=0/\wt=1)->JL (H2 P) (IM P 1) b n (As L d (.int .u64 (Fam.word v wt))) ds (.inRegion ops rest::k) cs .quiet):
  JL (AP P false) (Stop P F .Hb) b n L ds (.inRegion ops (i::rest)::k) cs .quiet:=λT K=>by
 simp only [Bool.and_eq_true] at O
 obtain⟨fn,av,aw,hb,ay,he⟩:=he.h
 refine(AP P _).stop (ID rfl rfl rfl rfl (by simp) λv wt sm v' wt' sm' es az U=>?_)
 simp only [Fam.act] at U
 split at U
 ·rename_i Y
  cases U;refine⟨G (fr b (Cv T d (.int .u64 (Fam.word (v - 1) wt))) ds (.inRegion ops rest::k)) cs,λw ac=>?_,rfl,?_⟩
  ·obtain⟨c1,_,c3,_⟩:=IF ac;rw [BC Z,BC Z];show stepG P false _ w=_;rw [stepG_add_atomic (a:=⟨T,ds⟩) ag (B3 K hw) (by simpa using O.1) rfl av aw hb ay .u64 he (by rw [Ex];exact K.ev al) (by rw [Ex];exact K.ev am) c1 c3,Wv Y.1 Y.2.1 Y.2.2,Mv ac,DL]
   rfl
  ·split
   ·rename_i e;obtain⟨rfl,rfl⟩:=e;exact ap _ (K.put O.2 _)
   ·rename_i e;exact Oh (aq (v - 1) wt (by omega) Y.2.2 (by omega) _ (K.put O.2 _))
 ·cases U
theorem XN{j:Nat}(ag:s.q=false)(al:ops[i]? =some ⟨d,.call ⟨.value (.func f),#[x,y],ats⟩,ty,pp,af,g⟩)(Z:b.roundOf=none)(hw:AJ L ops ⟨d,.call ⟨.value (.func f),#[x,y],ats⟩,ty,pp,af,g⟩=some true)(O:((b.kind != .early)&&Bd n d)=true)
  (he:BY P f (Extern.Atomic.update (Op.intArith .add) .u64 true)) (am:ev L x=some (.pointer (some F.sA))) (ap:ev L y=some (.int .u64 4294967296))
  (aq:JL (AP P true) (Stop P F (.Iw j)) b n (As L d (.int .u64 (Fam.word 1 0))) ds (.inRegion ops rest::k) cs s)
  (av:∀v:Nat,1<=v->v<2147483647->JL (AP P true) (Stop P F (.GU j)) b n (As L d (.int .u64 (Fam.word (v+1) 0))) ds (.inRegion ops rest::k) cs s):
  JL (AP P true) (Stop P F (.Ip j)) b n L ds (.inRegion ops (i::rest)::k) cs s:=λT K=>by
 simp only [Bool.and_eq_true] at O
 obtain⟨fn,aw,ay,hb,az,he⟩:=he.h
 refine(AP P _).stop (ID rfl rfl rfl ag (by simp) λv wt sm v' wt' sm' es aI U=>?_)
 simp only [Fam.act] at U
 split at U
 ·rename_i Y
  obtain⟨Y,rfl⟩:=Y;cases U;refine⟨G (fr b (Cv T d (.int .u64 (Fam.word (v+1) 0))) ds (.inRegion ops rest::k)) cs,λw ac=>?_,rfl,?_⟩
  ·obtain⟨c1,_,c3,_⟩:=IF ac;rw [BC Z,BC Z];show stepG P true _ w=_;rw [stepG_add_atomic (a:=⟨T,ds⟩) al (B3 K hw) (by simpa using O.1) rfl aw ay hb az .u64 he (by rw [Ex];exact K.ev am) (by rw [Ex];exact K.ev ap) c1 c3,Wk Y,Mv ac,DL]
   rfl
  ·split
   ·rename_i e;subst e;exact aq _ (K.put O.2 _)
   ·rename_i e;exact av v (by omega) Y _ (K.put O.2 _)
 ·cases U
theorem Ye(al:KU p=true)(am:if Fam.Cx p=true then s= .quiet else s.q=false)(ap:p≠ .Fa)(aq:Fam.Jg p s=s)(av:∀v wt sm r,F.act p v wt sm=some r->r.1=(v,wt,sm)/\r.2.1= #[Fam.B6 F.sA])
  (aw:ops[i]? =some ⟨d,.call ⟨.value (.func f),#[x],ats⟩,ty,pp,af,g⟩) (U:b.roundOf=none) (hw:AJ L ops ⟨d,.call ⟨.value (.func f),#[x],ats⟩,ty,pp,af,g⟩=some true) (K:((b.kind != .early)&&Bd n d)=true)
  (he:BY P f (Extern.Atomic.loadT (.int .u64))) (ay:ev L x=some (.pointer (some F.sA)))
  (h:∀v wt sm r,F.act p v wt sm=some r->∃q,r.2.2= .ph q/\JL (AP P (Fam.Co p)) (Stop P F q) b n (As L d (.int .u64 (Fam.word v wt))) ds (.inRegion ops rest::k) cs s):
  JL (AP P (Fam.Co p)) (Stop P F p) b n L ds (.inRegion ops (i::rest)::k) cs s:=λT O=>by
 simp only [Bool.and_eq_true] at K
 obtain⟨fn,az,aI,hb,aJ,he⟩:=he.h
 refine(AP P _).stop (ID al rfl rfl am (λe=>absurd e ap) λv wt sm v' wt' sm' es aL Y=>?_)
 obtain⟨Z,e2⟩:=av _ _ _ _ Y
 obtain⟨q,ac,aK⟩:=h _ _ _ _ Y
 simp only at Z e2 ac
 cases Z
 subst e2 ac
 refine⟨_,λw ag=>?_,rfl,by rw [aq];exact aK _ (O.put K.2 _)⟩
 obtain⟨c1,_,_,_⟩:=IF ag
 rw [BC U,BC U,stepG_load_atomic (a:=⟨T,ds⟩) aw (B3 O hw) (by simpa using K.1) rfl az aI hb aJ .u64 he (by rw [Ex];exact O.ev ay) c1,KI ag,DL]
 rfl
theorem Y7(ac:ops[i]? =some ⟨d,.call ⟨.value (.func f),#[x,y],ats⟩,ty,pp,af,g⟩)(Y:b.roundOf=none)(hw:AJ L ops ⟨d,.call ⟨.value (.func f),#[x,y],ats⟩,ty,pp,af,g⟩=some true)(U:((b.kind != .early)&&Bd n d)=true)
  (he:BY P f Extern.Atomic.storeT) (ag:ev L x=some (.pointer (some F.sA))) (al:ev L y=some (.int .u64 0))
  (h:JL (AP P false) (Stop P F .Fa) b n (As L d (.tuple #[])) ds (.inRegion ops rest::k) cs .quiet):
  JL (AP P false) (Stop P F .G6) b n L ds (.inRegion ops (i::rest)::k) cs .quiet:=λT K=>by
 simp only [Bool.and_eq_true] at U
 obtain⟨fn,am,ap,hb,aq,he⟩:=he.h
 refine(AP P _).stop (ID rfl rfl rfl rfl (by simp) λv wt sm v' wt' sm' es ay O=>?_)
 simp only [Fam.act] at O
 split at O
 ·rename_i av
  obtain⟨rfl,rfl⟩:=av;cases O;refine⟨_,λw Z=>?_,rfl,h _ (K.put U.2 _)⟩;obtain⟨c1,_,c3,_⟩:=IF Z;have aw:(.int .u64 0:Value)= .int .u64 (Fam.word 0 0):=by simp [Fam.word]
  rw [BC Y,BC Y];show stepG P false _ w=_;rw [stepG_store_atomic (a:=⟨T,ds⟩) ac (B3 K hw) (by simpa using U.1) rfl am ap hb aq he (by rw [Ex];exact K.ev ag) (by rw [Ex];exact K.ev al) c1 c3,aw,Mv Z,DL]
  rfl
 ·cases O
theorem XU{m:Nat}(aw:s.q=false)(ac:ops[i]? =some ⟨d,.call ⟨.value (.func f),#[x,y,z],ats⟩,ty,pp,af,g⟩)(Z:b.roundOf=none)(hw:AJ L ops ⟨d,.call ⟨.value (.func f),#[x,y,z],ats⟩,ty,pp,af,g⟩=some true)(U:((b.kind != .early)&&Bd n d)=true)
  (he:BY P f (Extern.Atomic.casT (.int .u64))) (ag:ev L x=some (.pointer (some F.sA))) (al:ev L y=some (.int .u64 (Fam.word m 0))) (am:ev L z=some (.int .u64 (Fam.word m 1)))
  (ay:JL (AP P true) (Stop P F .It) b n (As L d (.bool true)) ds (.inRegion ops rest::k) cs s)
  (az:JL (AP P true) (Stop P F (.FX (m - 1))) b n (As L d (.bool false)) ds (.inRegion ops rest::k) cs s):
  JL (AP P true) (Stop P F (.Hc m)) b n L ds (.inRegion ops (i::rest)::k) cs s:=λT K=>by
 simp only [Bool.and_eq_true] at U
 obtain⟨fn,ap,aq,hb,av,he⟩:=he.h
 refine(AP P _).stop (ID rfl rfl rfl aw (by simp) λv wt sm v' wt' sm' es aJ O=>?_)
 simp only [Fam.act] at O
 split at O
 ·rename_i aI
  obtain⟨_,_,rfl⟩:=aI;split at O
  ·rename_i e;subst e;cases O;refine⟨_,λw Y=>?_,rfl,ay _ (K.put U.2 _)⟩;obtain⟨c1,_,c3,_⟩:=IF Y;rw [BC Z,BC Z];show stepG P true _ w=_;rw [stepG_cas_hit (a:=⟨T,ds⟩) ac (B3 K hw) (by simpa using U.1) rfl ap aq hb av .u64 he (by rw [Ex];exact K.ev ag) (by rw [Ex];exact K.ev al) (by rw [Ex];exact K.ev am) c1 c3,Mv Y,DL]
   rfl
  ·rename_i e;cases O;refine⟨_,λw Y=>?_,rfl,az _ (K.put U.2 _)⟩;obtain⟨c1,_,c3,_⟩:=IF Y;rw [BC Z,BC Z];show stepG P true _ w=_;rw [stepG_cas_miss (a:=⟨T,ds⟩) ac (B3 K hw) (by simpa using U.1) rfl ap aq hb av .u64 he (by rw [Ex];exact K.ev ag) (by rw [Ex];exact K.ev al) (by rw [Ex];exact K.ev am) c1 c3 (λq=>e (word_inj q)),KI Y,DL]
   rfl
 ·cases O
theorem VT{args:Array Operand}{vs:Lv_}(Y:ops[i]? =some ⟨d,.call ⟨.value (.func f),args,ats⟩,ty,pp,af,g⟩)(Z:b.roundOf=none)(hw:AJ L ops ⟨d,.call ⟨.value (.func f),args,ats⟩,ty,pp,af,g⟩=some true)(O:((b.kind != .early)&&Bd n d)=true)
  (he:BY P f Extern.Sync.semrelease) (ag:evs L args.toList=some vs) (al:vs[0]? =some (.pointer (some F.mA)))
  (h:JL (H2 P) (IM P 1) b n (As L d (.tuple #[])) ds (.inRegion ops rest::k) cs .quiet):
  JL (AP P false) (Stop P F .Fa) b n L ds (.inRegion ops (i::rest)::k) cs .quiet:=λT U=>by
 simp only [Bool.and_eq_true] at O
 have am:=Rl (P:=P) (b:=b) (ds:=ds) (k:=k) (cs:=cs) (rest:=rest) (T:=T) Y he
 obtain⟨fn,ap,aq,hb,av,he⟩:=he.h
 refine(AP P _).stop (ID rfl rfl rfl rfl (λ_=>am) λv wt sm v' wt' sm' es az K=>?_)
 simp only [Fam.act] at K
 split at K
 ·rename_i aw
  subst aw;cases K;refine⟨_,λw ac=>?_,rfl,Oh (h _ (U.put O.2 _))⟩;obtain⟨_,c2,_,c4⟩:=IF ac;rw [BC Z,BC Z];show stepG P false _ w=_;rw [stepG_semrelease (a:=⟨T,ds⟩) Y (B3 U hw) (by simpa using O.1) rfl ap aq hb av he (ad:=F.mA) (by rw [JJ U ag];simpa using al) c2 c4,DL];have ay:IntKind.u32.wrap (((0:Nat):Int)+1)=((1:Nat):Int):=by decide
  rw [ay,QA ac]
 ·cases K
theorem UF{args:Array Operand}{vs:Lv_}(aq:s.q=false)(ac:ops[i]? =some ⟨d,.call ⟨.value (.func f),args,ats⟩,ty,pp,af,g⟩)(Y:b.roundOf=none)(hw:AJ L ops ⟨d,.call ⟨.value (.func f),args,ats⟩,ty,pp,af,g⟩=some true)(Z:((b.kind != .early)&&Bd n d)=true)
  (he:BY P f Extern.Sync.semacquire) (av:evs L args.toList=some vs) (aw:vs[0]? =some (.pointer (some F.mA)))
  (h:JL (AP P true) (Stop P F .G5) b n (As L d (.tuple #[])) ds (.inRegion ops rest::k) cs s):
  JL (AP P true) (Stop P F .Fs) b n L ds (.inRegion ops (i::rest)::k) cs s:=λT K=>by
 simp only [Bool.and_eq_true] at Z
 obtain⟨fn,ag,al,hb,am,he⟩:=he.h
 have ap:(args.map (⟨T,ds⟩:Act).eval)[0]? =some (.pointer (some F.mA)):=by rw [JJ K av];simpa using aw
 refine(AP P _).stop (GV.stop {
  run:=rfl,offers:=rfl,quiet:=(by simp [Fam.Cx]),live:=λ_=>aq,act:=?_,IL:=(by simp),ES:=?_,go:=(by simp),lk:=(by simp),Ck:=(by simp),store:=(by simp),fin:=(by simp)})
 ·intro v wt sm v' wt' sm' es aI O;simp only [Fam.act] at O;split at O
  ·rename_i ay;subst ay;cases O;refine⟨_,λw U=>?_,rfl,h _ (K.put Z.2 _)⟩;obtain⟨_,c2,_,c4⟩:=IF U;rw [BC Y,BC Y];show stepG P true _ w=_;rw [stepG_semacquire (a:=⟨T,ds⟩) ac (B3 K hw) (by simpa using Z.1) rfl ag al hb am he (ad:=F.mA) ap c2 (by decide) c4,DL];have az:(((1:Nat):Int) - 1)=((0:Nat):Int):=by decide
   rw [az,QA U]
  ·cases O
 ·intro _ w v wt U;obtain⟨_,c2,_,c4⟩:=IF U;rw [BC Y];exact stepG_semacquire_wait (a:=⟨T,ds⟩) ac (B3 K hw) rfl ag al hb am he (ad:=F.mA) ap c2
theorem Sb{args:Array Operand}{vs:Lv_}(Y:s.q=false)(Z:ops[i]? =some ⟨d,.call ⟨.value (.func f),args,ats⟩,ty,pp,af,g⟩)(U:b.roundOf=none)(hw:AJ L ops ⟨d,.call ⟨.value (.func f),args,ats⟩,ty,pp,af,g⟩=some true)(K:((b.kind != .early)&&Bd n d)=true)
  (he:BY P f (Extern.Race.marked .acquire)) (ac:evs L args.toList=some vs) (ag:vs[0]? =some (.pointer (some F.sA)))
  (h:∀E' f,Le s.E E'->E' F.fd=none->(∀b,E' b≠none->s.H b=none)->(∀k,k<F.n->F.msg k (f k) E')->∀T,Has n (As L d (.tuple #[])) T->F.fin (G (fr b T ds (.inRegion ops rest::k)) cs) ⟨E',F.Jw s.H f,false⟩):
  JL (AP P true) (Stop P F .Ge) b n L ds (.inRegion ops (i::rest)::k) cs s:=λT O=>by
 simp only [Bool.and_eq_true] at K
 obtain⟨fn,al,am,hb,ap,he⟩:=he.h
 refine(AP P _).stop (GV.stop {
  run:=rfl,offers:=rfl,quiet:=(by simp [Fam.Cx]),live:=λ_=>Y,act:=(by simp [Fam.act]),IL:=(by simp),ES:=(by simp),go:=(by simp),lk:=(by simp),Ck:=(by simp),store:=(by simp),fin:=λ_=>?_})
 refine⟨_,λw=>?_,λE' f a1 aq av aw=>h E' f a1 aq av aw _ (O.put K.2 _)⟩
 rw [BC U,BC U,stepG_markAt (a:=⟨T,ds⟩) .acquire (by simp) Z (B3 O hw) (by simpa using K.1) rfl al am hb ap he (ad:=F.sA) (by rw [JJ O ac];simpa using ag),DL]
 rfl
end
end
end Pal
namespace Pal
open Go Go.Conc
section
variable {P:Program}{F:Fam}{J:Judge P}{Q:GP}{n:Nat}{L L':Env}{ds:Ld_}{k:Li_}{cs:Lf_}{s s':St}{b:Frame}{main:Bool}
variable {ops:Ao_}{i:Nat}{rest:List Nat}{d:Option Tmp}{f:FuncId}{x y z:Operand}{ats:Array TypeId}{ty t e:TypeId}{pp:String}{af:Ae_}{g:On_}{p q:Ph}
theorem KG(T:Av_)(ds:Ld_):(⟨T,ds⟩:Act).eval=Bs T:=funext λx=>Ex T ds x
theorem V8{X:GP}{fn:Func}{c:Code}{vs:Lv_}{caps:Av_}{args:Av_}(O:P.funcs[f]? =some fn)(Z:(fn.name== "runtime.NumGoroutine")=false)(hb:fn.body=some c)(ac:args++caps=vs.toArray)(ap:vs.length<=fn.ntmps)
  (h:JL (AP P false) X (baseD f) fn.ntmps (Ga 0 vs) [] [.code c] [K6 P] s):Way P false X (born P {target:= .fn (.func f) caps,args:=args}) s:=by
 have ag:¬fn.name= "runtime.NumGoroutine" :=by simpa using Z
 refine Judge.CZ (J:=AP P false) rfl (λw=>?_) (h (vs.toArray++Array.replicate (fn.ntmps - vs.length) undef) ⟨by simp;omega,λt v al=>?_⟩)
 ·show stepG P false _ w=_;have U:=enter_atD (P:=P) vs.toArray O hb;rw [BC (b:=baseD f) rfl];simp only [List.size_toArray] at U;simp [G,born,stepG,unwind,callDeferred,invoke,callFunc,O,ag,hb,GStep.after,seen_none,ac,K6,U]
 ·obtain⟨_,K⟩:=Jo al;have am:t<vs.length:=by
   rcases Nat.lt_or_ge t vs.length with Y | Y
   ·exact Y
   ·simp at K;have:=(List.getElem?_eq_some_iff.1 K).1;omega
  rw [Array.getD_eq_getD_getElem?,Array.getElem?_append_left (by simpa using am)];simp at K;simp [K]
theorem Yp{T:Av_}{args:Array Operand}{K:Go.Fn}{fi O:Av_}{as:Lv_}(U:Has n L T)(Y:ev L x=some (.func K fi O))(Z:evs L args.toList=some as):
  execOp (Bs T) ⟨d,.go ⟨.value x,args,ats⟩,ty,pp,af,g⟩= .pure (.spawn {target:= .fn K O,args:=fi++as.toArray}):=by
 have ac:args.map (Bs T)=as.toArray:=by
  rw [← Gr U.Gb Z];apply Array.ext';simp
 simp only [execOp,resolve,bind,Sem.bind,Deferred.ofValue,U.ev Y,pure,ac]
theorem XT{j:Nat}{args:Array Operand}{fi U:Av_}{as:Lv_}{Y:FuncId}(ag:s.q=false)(al:ops[i]? =some ⟨d,.go ⟨.value x,args,ats⟩,ty,pp,af,g⟩)(Z:b.roundOf=none)(hw:AJ L ops ⟨d,.go ⟨.value x,args,ats⟩,ty,pp,af,g⟩=some true)(K:((b.kind != .early)&&Bd n d)=true)
  (am:ev L x=some (.func (.func Y) fi U)) (ap:evs L args.toList=some as)
  (aq:Way P false (Stop P F (F.start j)) (born P {target:= .fn (.func Y) U,args:=fi++as.toArray}) ⟨s.E,λ_=>none,false⟩)
  (av:JL (AP P true) (Stop P F (F.Eu j)) b n (As L d undef) ds (.inRegion ops rest::k) cs s):
  JL (AP P true) (Stop P F (.FH j)) b n L ds (.inRegion ops (i::rest)::k) cs s:=λT O=>by
 simp only [Bool.and_eq_true] at K
 have ac:=Yp (d:=d) (ats:=ats) (ty:=ty) (pp:=pp) (af:=af) (g:=g) O am ap
 refine(AP P _).stop (GV.stop {
  run:=rfl,offers:=rfl,quiet:=(by simp [Fam.Cx]),live:=λ_=>ag,act:=(by simp [Fam.act]),IL:=(by simp),ES:=(by simp),go:=λaw e=>?_,lk:=(by simp),Ck:=(by simp),store:=(by simp),fin:=(by simp)})
 cases e
 refine⟨G (fr b (Cv T d undef) ds (.inRegion ops rest::k)) cs,_,rfl,rfl,λw=>?_,aq,av _ (O.put K.2 _)⟩
 rw [BC Z,BC Z,stepG_spawn (a:=⟨T,ds⟩) (w':=w) al (B3 O hw) (by simpa using K.1) (by rw [KG,ac];rfl) rfl,listed_none (by rw [KG,ac];simp [Sem.events_pure']),DL]
theorem JO.RQ{j:Nat}(Y:s.q=false)(K:b.roundOf=none)(he:BY P f (λ_=>do mark .enable;pure Extern.Race.none_))
  (h:JO (AP P true) (Stop P F (.FH j)) b n L ds cs s):JO (AP P true) (Stop P F (.GU j)) b n L (dcall f #[]::ds) cs s:=λT Z todo=>by
 obtain⟨fn,ac,ag,hb,al,he⟩:=he.h
 refine(AP P _).stop (ID rfl rfl rfl Y (by simp) λv wt sm v' wt' sm' es ap O=>?_)
 simp only [Fam.act] at O
 cases O
 refine⟨G (Eg b T ds todo) cs,λw am=>?_,rfl,h T Z todo⟩
 rw [KJ K,KJ K,KI am]
 exact stepG_unwind_entry (a:=⟨T,dcall f #[]::ds⟩) (v:= .tuple #[]) (evs:= #[Fam.Cs .enable]) rfl ac ag hb al he (by simp [Extern.Race.none_]) (by simp;rfl) (by
  intro x U
  simp at U
  subst U
  exact⟨rfl,λg h=>by cases h⟩)
theorem JO.MT(K:b.roundOf=none)(he:BY P f (λ_=>do mark .enable;pure Extern.Race.none_))
  (h:JO (H2 P) (IM P 0) b n L ds cs .quiet):JO (H2 P) (IM P 1) b n L (dcall f #[]::ds) cs .quiet:=λT U todo=>by
 obtain⟨fn,Y,Z,hb,ac,he⟩:=he.h
 refine(H2 P).stop ?_
 obtain⟨q,O⟩:=Oh (h T U todo)
 rw [KJ K] at O
 rw [KJ K]
 exact⟨q+1,QuitsD.unwind_mark (a:=⟨T,dcall f #[]::ds⟩) .enable rfl (by simp) rfl Y Z hb ac he O⟩
end
end Pal
namespace Pal
open Go Go.Conc
def TP:BinOp->Int->Int->Option Bool
 | .lss,m,m'=>some (decide (m<m'))
 | .leq,m,m'=>some (decide (m<=m'))
 | .gtr,m,m'=>some (decide (m'<m))
 | .geq,m,m'=>some (decide (m'<=m))
 | .eql,m,m'=>some (decide (m=m'))
 | .neq,m,m'=>some (decide (m≠m'))
 | _,_,_=>none
def Ko(L:Env):Op->Option Value
 | .move x=>ev L x
 | .assign x=>ev L x
 | .pick z x y=>match ev L z with
  | some (.bool true)=>ev L x
  | some (.bool false)=>ev L y
  | _=>none
 | .extract x i=>match ev L x with
  | some (.tuple vs)=>vs[i]?
  | _=>none
 | .nilCheck x=>match ev L x with
  | some (.pointer (some a))=>some (.pointer (some a))
  | _=>none
 | .binOp op _ x y _=>match ev L x with
  | some (.int kd m)=>match ev L y with
   | some (.int kd' m')=>if kd=kd' then(match TP op m m' with | some t=>some (.bool t) | none=>none) else none
   | _=>none
  | _=>none
 | _=>none
theorem WX{P:Program}{s:St}{ρ:Operand->Value}{d:Option Tmp}{x y:Operand}{t u ty:TypeId}{p:String}{af:Ae_}{g:On_}{kd:IntKind}{m m':Int}(K:ρ x= .int kd m)(O:ρ y= .int kd m'):Yl P ⟨d,.binOp .neq t x y u,ty,p,af,g⟩ ρ s (.bool (decide (m≠m'))):=by
 have h:=Yl.neq (P:=P) (s:=s) (d:=d) (t:=t) (u:=u) (ty:=ty) (p:=p) (af:=af) (g:=g) K O;simpa using h
theorem ML{P:Program}{L:Env}{ρ:Operand->Value}{s:St}{o:Oper}{v:Value}(K:EL L ρ)(h:Ko L o.op=some v):Yl P o ρ s v:=by
 obtain⟨d,op,ty,p,af,g⟩:=o;simp only at h;unfold Ko at h;split at h
 ·exact Yl.move (K _ _ h)
 ·exact Yl.assign (K _ _ h)
 ·split at h
  ·rename_i e;exact Lt (K _ _ e) (K _ _ h)
  ·rename_i e;exact Vy (K _ _ e) (K _ _ h)
  ·cases h
 ·split at h
  ·rename_i e;exact Yl.extract (K _ _ e) h
  ·cases h
 ·split at h
  ·rename_i e;cases h;exact Yl.nilCheck (K _ _ e)
  ·cases h
 ·split at h
  ·rename_i O;split at h
   ·rename_i U;split at h
    ·rename_i e;subst e;split at h
     ·rename_i e;cases h;unfold TP at e;split at e
      ·cases e;exact Yl.lss (K _ _ O) (K _ _ U)
      ·cases e;exact Yl.leq (K _ _ O) (K _ _ U)
      ·cases e;exact Yl.gtr (K _ _ O) (K _ _ U)
      ·cases e;exact Yl.geq (K _ _ O) (K _ _ U)
      ·cases e;exact Yl.eql (K _ _ O) (K _ _ U)
      ·cases e;exact WX (K _ _ O) (K _ _ U)
      ·cases e
     ·cases h
    ·cases h
   ·cases h
  ·cases h
 ·cases h
def Jd:List Oper->Nat->Option Oper
 | [],_=>none
 | o::_,0=>some o
 | _::os,i+1=>Jd os i
theorem KT:∀(os:List Oper) (i:Nat),Jd os i=os[i]?
 | [],i=>by simp [Jd]
 | _::_,0=>rfl
 | _::os,i+1=>by simp [Jd,KT os i]
def PC(b:Frame)(n:Nat)(L:Env):Li_->Option (Li_×Env)
 | .code (.seq x y)::k=>some (.code x:: .code y::k,L)
 | .code (.block i c)::k=>some (.code c:: .inBlock i::k,L)
 | .code (.scope c)::k=>some (.code c:: .inScope c::k,L)
 | .code .skip::k=>some (k,L)
 | .code (.exit i)::k=>match exitTo i k with
  | some k'=>some (k',L)
  | none=>none
 | .code (.cond c x y)::k=>match ev L c with
  | some (.bool true)=>some (.code x::k,L)
  | some (.bool false)=>some (.code y::k,L)
  | _=>none
 | .code (.region _ ops false)::k=>some (.inRegion ops (List.range ops.size)::k,L)
 | .inBlock _::k=>some (k,L)
 | .inScope _::k=>some (k,L)
 | .inRegion _ []::k=>some (k,L)
 | .inRegion ops (i::rest)::k=>match Jd ops.toList i with
  | some ⟨d,op,ty,p,af,g⟩=>match AJ L ops ⟨d,op,ty,p,af,g⟩ with
   | some true=>match BH b n ⟨d,op,ty,p,af,g⟩ with
    | true=>match Ko L op with
     | some v=>match d with
      | some d=>some (.inRegion ops rest::k,(d,v)::L)
      | none=>some (.inRegion ops rest::k,L)
     | none=>none
    | false=>none
   | some false=>match Bd n d with
    | true=>match d with
     | some d=>some (.inRegion ops rest::k,(d,undef)::L)
     | none=>some (.inRegion ops rest::k,L)
    | false=>none
   | none=>none
  | none=>none
 | _=>none
def Nh(b:Frame)(n:Nat):Nat->Li_->Env->Option (Li_×Env)
 | 0,k,L=>some (k,L)
 | m+1,k,L=>match PC b n L k with
  | some (k',L')=>Nh b n m k' L'
  | none=>none
section
variable {P:Program}{J:Judge P}{Q:Gs_}{b:Frame}{n:Nat}{L L':Env}{ds:Ld_}{k k':Li_}{cs:Lf_}{s:St}
theorem YR(h:PC b n L k=some (k',L'))(K:JL J Q b n L' ds k' cs s):JL J Q b n L ds k cs s:=by
 unfold PC at h;split at h
 ·cases h;exact JL.seq K
 ·cases h;exact JL.block K
 ·cases h;exact JL.scope K
 ·cases h;exact JL.skip K
 ·split at h
  ·rename_i e;cases h;exact JL.exit e K
  ·cases h
 ·split at h
  ·rename_i e;cases h;exact Vb e K
  ·rename_i e;cases h;exact U1 e K
  ·cases h
 ·cases h;exact JL.region K
 ·cases h;exact Mq K
 ·cases h;exact Up K
 ·cases h;exact JL.done K
 ·split at h
  ·rename_i d op ty p af g O;rw [KT,Array.getElem?_toList] at O;split at h
   ·rename_i hw;split at h
    ·rename_i U;split at h
     ·rename_i v Z;cases d with
      | none=>cases h;exact AY O hw U (λρ Y=>ML Y Z) K
      | some d=>cases h;exact AY O hw U (λρ Y=>ML Y Z) K
     ·cases h
    ·cases h
   ·rename_i hw;split at h
    ·rename_i U;cases d with
     | none=>cases h;exact Ie O hw U K
     | some d=>cases h;exact Ie O hw U K
    ·cases h
   ·cases h
  ·cases h
 ·cases h
theorem JL.go(m:Nat)(h:Nh b n m k L=some (k',L'))(K:JL J Q b n L' ds k' cs s):JL J Q b n L ds k cs s:=by
 induction m generalizing k L with
 | zero=>cases h;exact K
 | succ m O=>
  unfold Nh at h;split at h
  ·rename_i e;exact YR e (O h)
  ·cases h
end
abbrev Ak(a o:Nat):Value:= .pointer (some ⟨a,o,none⟩)
abbrev sV{α:Type}(a:Option Addr)(l:List α)(c:Nat):Value:= .slice a l.length c
abbrev fV(n:Nat):Value:= .func (.func n) #[] #[]
abbrev nS:Value:= .slice none 0 0
abbrev AR(r:Nat):Option Addr:=some ⟨r,0,none⟩
end Pal
namespace Pal
open Go Go.Conc Go.Conc.Lib
open Go.ConcR.Gen
theorem F5{P:Program}{t:TypeId}{n:Nat}(h:∀w,Sem.run P (Go.sizeOf t) w= .ok n w):Bh P t=some n:=by
 have K:=h default;unfold Bh;simp only [Go.sizeOf,typeInfo,bind,Sem.bind,program,Sem.run] at K;cases hi:P.info? t with
 | none=>rw [hi] at K;simp [stuck,Sem.run,Sem.bind] at K
 | some i=>
  rw [hi] at K;simp [pure,Sem.bind,Sem.run] at K;simp [K]
section
variable {P:Program}{L:WgLink}(H:WgLib P L)
include H
theorem Mr:BY P L.disable (λ_=>do mark .disable;pure Extern.Race.none_):=⟨⟨_,H.f_disable,x_disable_n L,x_disable_b L,x_disable_x L,x_disable_f L⟩⟩
theorem IY:BY P L.enable (λ_=>do mark .enable;pure Extern.Race.none_):=⟨⟨_,H.f_enable,x_enable_n L,x_enable_b L,x_enable_x L,x_enable_f L⟩⟩
theorem Qc:BY P L.relMerge (Extern.Race.marked .releaseMerge):=⟨⟨_,H.f_relMerge,x_relMerge_n L,x_relMerge_b L,x_relMerge_x L,x_relMerge_f L⟩⟩
theorem Oe:BY P L.acquire (Extern.Race.marked .acquire):=⟨⟨_,H.f_acquire,x_acquire_n L,x_acquire_b L,x_acquire_x L,x_acquire_f L⟩⟩
theorem Ww:BY P L.raceRead (Extern.Race.marked .read):=⟨⟨_,H.f_raceRead,x_raceRead_n L,x_raceRead_b L,x_raceRead_x L,x_raceRead_f L⟩⟩
theorem Vw:BY P L.raceWrite (Extern.Race.marked .write):=⟨⟨_,H.f_raceWrite,x_raceWrite_n L,x_raceWrite_b L,x_raceWrite_x L,x_raceWrite_f L⟩⟩
theorem R5:BY P L.addU64 (Extern.Atomic.update (Op.intArith .add) .u64 true):=⟨⟨_,H.f_addU64,x_addU64_n L,x_addU64_b L,x_addU64_x L,x_addU64_f L⟩⟩
theorem Wh:BY P L.loadU64 (Extern.Atomic.loadT (.int .u64)):=⟨⟨_,H.f_loadU64,x_loadU64_n L,x_loadU64_b L,x_loadU64_x L,x_loadU64_f L⟩⟩
theorem UX:BY P L.storeU64 Extern.Atomic.storeT:=⟨⟨_,H.f_storeU64,x_storeU64_n L,x_storeU64_b L,x_storeU64_x L,x_storeU64_f L⟩⟩
theorem XP:BY P L.casU64 (Extern.Atomic.casT (.int .u64)):=⟨⟨_,H.f_casU64,x_casU64_n L,x_casU64_b L,x_casU64_x L,x_casU64_f L⟩⟩
theorem U8:BY P L.semrelease Extern.Sync.semrelease:=⟨⟨_,H.f_semrelease,x_semrelease_n L,x_semrelease_b L,x_semrelease_x L,x_semrelease_f L⟩⟩
theorem Un:BY P L.semacquire Extern.Sync.semacquire:=⟨⟨_,H.f_semacquire,x_semacquire_n L,x_semacquire_b L,x_semacquire_x L,x_semacquire_f L⟩⟩
theorem QB:BY P L.inBubble (λ_=>pure (.bool false)):=⟨⟨_,H.f_inBubble,x_inBubble_n L,x_inBubble_b L,x_inBubble_x L,x_inBubble_f L⟩⟩
end
section
variable {P:Program}{F:Fam}{J:Judge P}{Q:GP}{n:Nat}{L L':Env}{ds:Ld_}{k:Li_}{cs:Lf_}{s s':St}{b:Frame}{main:Bool}
variable {ops:Ao_}{i:Nat}{rest:List Nat}{d:Option Tmp}{f:FuncId}{x y z:Operand}{ats:Array TypeId}{ty t u e tw:TypeId}{pp:String}{af:Ae_}{g:On_}{p q:Ph}
theorem Yl.to{o:Oper}{ρ:Operand->Value}{v v':Value}(h:Yl P o ρ s v)(e:v=v'):Yl P o ρ s v':=e▸h
theorem LD{ad:Addr}(av:KU p=true)(aw:if Fam.Cx p=true then s= .quiet else s.q=false)(ay:p≠ .Fa)(az:∀v wt sm,F.act p v wt sm=some ((v,wt,sm),#[],.ph q))(aI:Fam.Jg p s=s)
  (aJ:ops[i]? =some ⟨d,.convert t u x,ty,pp,af,g⟩) (U:b.roundOf=none) (hw:AJ L ops ⟨d,.convert t u x,ty,pp,af,g⟩=some true) (K:((b.kind != .early)&&Bd n d)=true)
  (Y:P.underlying t=some (.pointer tw)) (hu:P.underlying u=some .unsafePointer) (Z:(P.info? tw).map (λi=>decide (i.size=0))=some false) (aK:ev L x=some (.pointer (some ad))) (hb:ad=F.sA∨ad=F.mA)
  (h:JL (AP P (Fam.Co p)) (Stop P F q) b n (As L d (.pointer (some ad))) ds (.inRegion ops rest::k) cs s):
  JL (AP P (Fam.Co p)) (Stop P F p) b n L ds (.inRegion ops (i::rest)::k) cs s:=λT O=>by
 simp only [Bool.and_eq_true] at K
 refine(AP P _).stop (ID av rfl rfl aw (λe=>absurd e ay) λv wt sm v' wt' sm' es aM ac=>?_)
 rw [az] at ac;cases ac
 refine⟨_,λw ag=>?_,rfl,by rw [aI];exact h _ (O.put K.2 _)⟩
 obtain⟨al,am⟩:∃al,w.cell? ad=some al:=by
  obtain⟨c1,c2,_,_⟩:=IF ag;rcases hb with e | e <;> rw [e]
  ·exact⟨_,c1⟩
  ·exact⟨_,c2⟩
 have ap:=run_convert_to_unsafe (P:=P) (w:=w) Y hu Z am;have aL:=events_convert_to_unsafe (P:=P) (w:=w) Y hu Z am;have aq:execOp (⟨T,ds⟩:Act).eval ⟨d,.convert t u x,ty,pp,af,g⟩=(do pure (Next.value (← Go.convert t u (.pointer (some ad))))):=by
  rw [KG];simp only [execOp,O.ev aK]
 rw [BC U,BC U,stepG_value (a:=⟨T,ds⟩) (v:= .pointer (some ad)) (w':=w) aJ (B3 O hw) (by simpa using K.1) (by rw [aq];simp [ap,Result.andThen]),KI ag,DL];have e2:listed P b.fn ⟨T,ds⟩ ⟨d,.convert t u x,ty,pp,af,g⟩ w= #[]:=by
  unfold listed;rw [aq];simp [ap,aL,Result.evThen,seen_none]
 rw [e2]
end
end Pal
namespace Pal
open Go Go.Conc Go.Conc.Lib
open Go.ConcR.Gen
section
variable {P:Program}{F:Fam}{J:Judge P}{Q:GP}{n:Nat}{L L':Env}{ds:Ld_}{k:Li_}{cs:Lf_}{s s':St}{b:Frame}{main:Bool}
variable {ops:Ao_}{i:Nat}{rest:List Nat}{d:Option Tmp}{f:FuncId}{x y z:Operand}{args:Array Operand}{ats:Array TypeId}{ty t u e tw:TypeId}{pp:String}{af:Ae_}{g:On_}{p q:Ph}{vs:Lv_}
def ak(P:Program)(b:Frame)(n:Nat)(L:Env)(d:Option Tmp)(ds:Ld_)(todo:Li_)(cs:Lf_)(U:Frame):Prop:=
 ∀(K:Judge P) (O:GP) (v:Value) (s':St),JL K O b n (As L d v) ds todo cs s'->K.ok O (G (U.finish v) cs) s'
theorem G3{fn:Func}{c:Code}(Y:ops[i]? =some ⟨d,.call ⟨.value (.func f),args,ats⟩,ty,pp,af,g⟩)(hw:AJ L ops ⟨d,.call ⟨.value (.func f),args,ats⟩,ty,pp,af,g⟩=some true)(O:((b.kind != .early)&&Bd n d)=true)
  (Z:P.funcs[f]? =some fn) (al:(fn.name== "runtime.NumGoroutine")=false) (hb:fn.body=some c) (am:evs L args.toList=some vs) (aI:vs.length<=fn.ntmps)
  (h:∀ac:Frame,ak P b n L d ds (.inRegion ops rest::k) cs ac->JL J Q (base f) fn.ntmps (Ga 0 vs) [] [.code c] (ac::cs) s):
  JL J Q b n L ds (.inRegion ops (i::rest)::k) cs s:=λT U=>by
 simp only [Bool.and_eq_true] at O
 have ap:args.map (Bs T)=vs.toArray:=by
  rw [← Gr U.Gb am];apply Array.ext';simp
 refine Judge.oper Y (B3 U hw) (by simpa using O.1) (.inr λc aq=>by cases aq) ?_;have av:Dv P f=true:=by unfold Dv;rw [Z];simp [al,hb]
 have hd:lp P (execOp (Bs T) ⟨d,.call ⟨.value (.func f),args,ats⟩,ty,pp,af,g⟩) s (upon J Q b T ds ops i rest k cs d) (K4 J Q b T ds ops i rest k cs):=by
  simp only [execOp,resolve,bind,Sem.bind,Deferred.ofValue,Bs,pure,invoke];have e: #[]++args.map (Bs T)++ #[]=vs.toArray:=by rw [ap];simp
  rw [e];refine IX av ?_;have he:Frame.enter P f vs.toArray .normal=fr (base f) (vs.toArray++Array.replicate (fn.ntmps - vs.length) undef) [] [.code c]:=by
   simp [Frame.enter,fr,Z,hb,base];rfl
  show J.ok Q (G (Frame.enter P f vs.toArray .normal) _) s;rw [he];refine h _ (λaJ aK v s' aw=>?_) _ ⟨by simp;omega,λt v ay=>?_⟩
  ·rw [Gq (o:=⟨d,.call ⟨.value (.func f),args,ats⟩,ty,pp,af,g⟩) _ _ _ _ _ Y];exact aw _ (U.put O.2 v)
  ·obtain⟨_,K⟩:=Jo ay;have az:t<vs.length:=by
    rcases Nat.lt_or_ge t vs.length with ag | ag
    ·exact ag
    ·simp at K;have:=(List.getElem?_eq_some_iff.1 K).1;omega
   rw [Array.getD_eq_getD_getElem?,Array.getElem?_append_left (by simpa using az)];simp at K;simp [K]
 exact hd
theorem Yl.ext{e:Av_->Sem Value}{v:Value}{ρ:Operand->Value}(he:BY P f e)(O:args.map ρ=vs.toArray)(h:e vs.toArray= .pure v):Yl P ⟨d,.call ⟨.value (.func f),args,ats⟩,ty,pp,af,g⟩ ρ s v∨ρ (.func f)≠ .func (.func f) #[] #[]:=by
 by_cases K:ρ (.func f)= .func (.func f) #[] #[]
 ·left;obtain⟨fn,U,Y,Z,ac,ag⟩:=he.h;unfold Yl;simp only [execOp,resolve,bind,Sem.bind,Deferred.ofValue,K,pure,invoke];have al: #[]++args.map ρ++ #[]=vs.toArray:=by rw [O];simp
  rw [al];have am:fn.body=none:=by simpa using Z
  simp only [callFunc,bind,Sem.bind,program,lp,U,Y,am,Option.isNone_none,Bool.false_eq_true,if_false,if_true,mark,ac,ag,h,pure];exact⟨.inr ⟨f,rfl⟩,trivial,trivial⟩
 ·exact .inr K
theorem JL.ext{e:Av_->Sem Value}{v:Value}(O:ops[i]? =some ⟨d,.call ⟨.value (.func f),args,ats⟩,ty,pp,af,g⟩)(hw:AJ L ops ⟨d,.call ⟨.value (.func f),args,ats⟩,ty,pp,af,g⟩=some true)(U:BH b n ⟨d,.call ⟨.value (.func f),args,ats⟩,ty,pp,af,g⟩=true)
  (he:BY P f e) (Y:evs L args.toList=some vs) (Z:e vs.toArray= .pure v) (h:JL J Q b n (As L d v) ds (.inRegion ops rest::k) cs s):JL J Q b n L ds (.inRegion ops (i::rest)::k) cs s:=
 AY O hw U (λρ K=>by
  have ac:args.map ρ=vs.toArray:=by
   rw [← Gr K Y]
   apply Array.ext';simp
  rcases Yl.ext (s:=s) (d:=d) (ats:=ats) (ty:=ty) (pp:=pp) (af:=af) (g:=g) he ac Z with q | q
  ·exact q
  ·exact absurd (K (.func f) _ rfl) q) h
end
section
variable {P:Program}{L:WgLink}(H:WgLib P L){F:Fam}{n:Nat}{M:Env}{ds:Ld_}{k:Li_}{cs:Lf_}{s:St}{b:Frame}
variable {ops:Ao_}{i:Nat}{rest:List Nat}{d:Option Tmp}{x y z:Operand}{ats:Array TypeId}{ty:TypeId}{pp:String}{af:Ae_}{g:On_}{p q:Ph}
include H
theorem Wt(K:ops[i]? =some ⟨d,.call ⟨.value (.func L.uAdd),#[x,y],ats⟩,ty,pp,af,g⟩)(hw:AJ M ops ⟨d,.call ⟨.value (.func L.uAdd),#[x,y],ats⟩,ty,pp,af,g⟩=some true)(O:((b.kind != .early)&&Bd n d)=true)
  (U:ev M x=some (.pointer (some F.sA))) (Y:ev M y=some (.int .u64 18446744069414584320))
  (Z:JL (AP P false) (Stop P F .GK) b n (As M d (.int .u64 (Fam.word 0 1))) ds (.inRegion ops rest::k) cs .quiet)
  (ac:∀v wt:Nat,v<2147483647->wt<=1->¬(v=0/\wt=1)->JL (H2 P) (IM P 1) b n (As M d (.int .u64 (Fam.word v wt))) ds (.inRegion ops rest::k) cs .quiet):
  JL (AP P false) (Stop P F .Hb) b n M ds (.inRegion ops (i::rest)::k) cs .quiet:=by
 refine G3 (vs:= [.pointer (some F.sA),.int .u64 18446744069414584320]) K hw O H.f_uAdd (nm_uAdd L) rfl (by simp [evs,U,Y]) (Nat.le_of_ble_eq_true rfl) λap back=>JL.go 8 rfl (AY rfl rfl rfl (λρ h=>Yl.fieldAddr H.underlying_tAU rfl (F5 H.sizeOf_tU64) (h _ _ rfl)) ?_);refine JL.go 1 rfl (XC rfl rfl rfl rfl (R5 H) rfl rfl ?_ λv wt ag al am=>?_)
 ·refine AY rfl rfl rfl (λρ h=>Yl.assign (h _ _ rfl)) (JL.done ?_);exact JL.ret rfl rfl (Bx.one H.f_uAdd rfl rfl) (back _ _ _ _ Z)
 ·refine AY rfl rfl rfl (λρ h=>Yl.assign (h _ _ rfl)) (JL.done ?_);exact JL.ret rfl rfl (Bx.one H.f_uAdd rfl rfl) (back _ _ _ _ (ac v wt ag al am))
theorem V4{j:Nat}(K:s.q=false)(O:ops[i]? =some ⟨d,.call ⟨.value (.func L.uAdd),#[x,y],ats⟩,ty,pp,af,g⟩)(hw:AJ M ops ⟨d,.call ⟨.value (.func L.uAdd),#[x,y],ats⟩,ty,pp,af,g⟩=some true)(U:((b.kind != .early)&&Bd n d)=true)
  (Y:ev M x=some (.pointer (some F.sA))) (Z:ev M y=some (.int .u64 4294967296))
  (ac:JL (AP P true) (Stop P F (.Iw j)) b n (As M d (.int .u64 (Fam.word 1 0))) ds (.inRegion ops rest::k) cs s)
  (ag:∀v:Nat,1<=v->v<2147483647->JL (AP P true) (Stop P F (.GU j)) b n (As M d (.int .u64 (Fam.word (v+1) 0))) ds (.inRegion ops rest::k) cs s):
  JL (AP P true) (Stop P F (.Ip j)) b n M ds (.inRegion ops (i::rest)::k) cs s:=by
 refine G3 (vs:= [.pointer (some F.sA),.int .u64 4294967296]) O hw U H.f_uAdd (nm_uAdd L) rfl (by simp [evs,Y,Z]) (Nat.le_of_ble_eq_true rfl) λap back=>JL.go 8 rfl (AY rfl rfl rfl (λρ h=>Yl.fieldAddr H.underlying_tAU rfl (F5 H.sizeOf_tU64) (h _ _ rfl)) ?_);refine JL.go 1 rfl (XN K rfl rfl rfl rfl (R5 H) rfl rfl ?_ λv al am=>?_)
 ·refine AY rfl rfl rfl (λρ h=>Yl.assign (h _ _ rfl)) (JL.done ?_);exact JL.ret rfl rfl (Bx.one H.f_uAdd rfl rfl) (back _ _ _ _ ac)
 ·refine AY rfl rfl rfl (λρ h=>Yl.assign (h _ _ rfl)) (JL.done ?_);exact JL.ret rfl rfl (Bx.one H.f_uAdd rfl rfl) (back _ _ _ _ (ag v al am))
theorem JL.uLoad(K:KU p=true)(O:if Fam.Cx p=true then s= .quiet else s.q=false)(U:p≠ .Fa)(Y:Fam.Jg p s=s)(Z:∀v wt sm r,F.act p v wt sm=some r->r.1=(v,wt,sm)/\r.2.1= #[Fam.B6 F.sA])(ac:ops[i]? =some ⟨d,.call ⟨.value (.func L.uLoad),#[x],ats⟩,ty,pp,af,g⟩)(hw:AJ M ops ⟨d,.call ⟨.value (.func L.uLoad),#[x],ats⟩,ty,pp,af,g⟩=some true)(ag:((b.kind != .early)&&Bd n d)=true)
  (al:ev M x=some (.pointer (some F.sA)))
  (h:∀v wt sm r,F.act p v wt sm=some r->∃q,r.2.2= .ph q/\JL (AP P (Fam.Co p)) (Stop P F q) b n (As M d (.int .u64 (Fam.word v wt))) ds (.inRegion ops rest::k) cs s):
  JL (AP P (Fam.Co p)) (Stop P F p) b n M ds (.inRegion ops (i::rest)::k) cs s:=by
 refine G3 (vs:= [.pointer (some F.sA)]) ac hw ag H.f_uLoad (nm_uLoad L) rfl (by simp [evs,al]) (Nat.le_of_ble_eq_true rfl) λav back=>JL.go 8 rfl (AY rfl rfl rfl (λρ h=>Yl.fieldAddr H.underlying_tAU rfl (F5 H.sizeOf_tU64) (h _ _ rfl)) ?_);refine Ye K O U Y Z rfl rfl rfl rfl (Wh H) rfl λv wt sm r am=>?_;obtain⟨q,ap,aq⟩:=h v wt sm r am;refine⟨q,ap,?_⟩
 ·refine AY rfl rfl rfl (λρ h=>Yl.assign (h _ _ rfl)) (JL.done ?_);exact JL.ret rfl rfl (Bx.one H.f_uLoad rfl rfl) (back _ _ _ _ aq)
theorem JL.uStore(K:ops[i]? =some ⟨d,.call ⟨.value (.func L.uStore),#[x,y],ats⟩,ty,pp,af,g⟩)(hw:AJ M ops ⟨d,.call ⟨.value (.func L.uStore),#[x,y],ats⟩,ty,pp,af,g⟩=some true)(O:((b.kind != .early)&&Bd n d)=true)
  (U:ev M x=some (.pointer (some F.sA))) (Y:ev M y=some (.int .u64 0))
  (h:JL (AP P false) (Stop P F .Fa) b n (As M d (.tuple #[])) ds (.inRegion ops rest::k) cs .quiet):
  JL (AP P false) (Stop P F .G6) b n M ds (.inRegion ops (i::rest)::k) cs .quiet:=by
 refine G3 (vs:= [.pointer (some F.sA),.int .u64 0]) K hw O H.f_uStore (nm_uStore L) rfl (by simp [evs,U,Y]) (Nat.le_of_ble_eq_true rfl) λZ back=>JL.go 3 rfl (AY rfl rfl rfl (λρ h=>Yl.fieldAddr H.underlying_tAU rfl (F5 H.sizeOf_tU64) (h _ _ rfl)) ?_);refine JL.go 1 rfl (Y7 rfl rfl rfl rfl (UX H) rfl rfl ?_);exact JL.done (JL.fin rfl rfl (Bx.none H.f_uStore rfl) (back _ _ _ _ h))
theorem JL.uCas{m:Nat}(K:s.q=false)(O:ops[i]? =some ⟨d,.call ⟨.value (.func L.uCas),#[x,y,z],ats⟩,ty,pp,af,g⟩)(hw:AJ M ops ⟨d,.call ⟨.value (.func L.uCas),#[x,y,z],ats⟩,ty,pp,af,g⟩=some true)(U:((b.kind != .early)&&Bd n d)=true)
  (Y:ev M x=some (.pointer (some F.sA))) (Z:ev M y=some (.int .u64 (Fam.word m 0))) (ac:ev M z=some (.int .u64 (Fam.word m 1)))
  (ag:JL (AP P true) (Stop P F .It) b n (As M d (.bool true)) ds (.inRegion ops rest::k) cs s)
  (al:JL (AP P true) (Stop P F (.FX (m - 1))) b n (As M d (.bool false)) ds (.inRegion ops rest::k) cs s):
  JL (AP P true) (Stop P F (.Hc m)) b n M ds (.inRegion ops (i::rest)::k) cs s:=by
 refine G3 (vs:= [.pointer (some F.sA),.int .u64 (Fam.word m 0),.int .u64 (Fam.word m 1)]) O hw U H.f_uCas (nm_uCas L) rfl (by simp [evs,Y,Z,ac]) (Nat.le_of_ble_eq_true rfl) λam back=>JL.go 8 rfl (AY rfl rfl rfl (λρ h=>Yl.fieldAddr H.underlying_tAU rfl (F5 H.sizeOf_tU64) (h _ _ rfl)) ?_);refine JL.go 2 rfl (XU (m:=m) K rfl rfl rfl rfl (XP H) rfl rfl rfl ?_ ?_)
 ·refine AY rfl rfl rfl (λρ h=>Yl.assign (h _ _ rfl)) (JL.done ?_);exact JL.ret rfl rfl (Bx.one H.f_uCas rfl rfl) (back _ _ _ _ ag)
 ·refine AY rfl rfl rfl (λρ h=>Yl.assign (h _ _ rfl)) (JL.done ?_);exact JL.ret rfl rfl (Bx.one H.f_uCas rfl rfl) (back _ _ _ _ al)
end
end Pal
namespace Pal
open Go Go.Conc Go.Conc.Lib
open Go.ConcR.Gen
theorem KZ{v wt:Nat}(K:v<2147483648)(O:wt<=1):IntKind.u64.wrap (BitVec.ofInt IntKind.u64.bits (Fam.word v wt)&&& BitVec.ofInt IntKind.u64.bits 2147483648).toNat=0:=by
 have:=Go.ConcN.st_flag v wt K O;simpa [bits,Fam.word,Fam.KK] using this
theorem La{v wt:Nat}(K:v<2147483648)(O:wt<=1):IntKind.u64.wrap (BitVec.ofInt IntKind.u64.bits (Fam.word v wt)&&& BitVec.ofInt IntKind.u64.bits 2147483647).toNat=(wt:Int):=by
 have:=Go.ConcN.st_waiters v wt K O;simpa [bits,Fam.word,Fam.KK] using this
theorem KQ{v wt:Nat}(K:wt<=1):(Fam.word v wt).fdiv (2 ^ (min (32:Int).toNat IntKind.u64.bits))=(v:Int):=by
 have e:(2:Int) ^ (min (32:Int).toNat IntKind.u64.bits)=4294967296:=by decide
 rw [e,Int.fdiv_eq_ediv_of_nonneg _ (by decide)];simp only [Fam.word,Fam.KK];omega
theorem wrap_i32{v:Nat}(K:v<2147483648):IntKind.i32.wrap (v:Int)=v:=by
 simp only [IntKind.wrap,IntKind.bits,IntKind.signed];simp;split <;> omega
theorem wrap_u32{v:Nat}(K:v<=1):IntKind.u32.wrap (v:Int)=v:=by
 simp only [IntKind.wrap,IntKind.bits,IntKind.signed];simp;omega
theorem VN{F:Fam}:∀v wt sm r,F.act .GK v wt sm=some r->r.1=(v,wt,sm)/\r.2.1= #[Fam.B6 F.sA]:=by
 intro v wt sm r h;simp only [Fam.act] at h;split at h
 ·rename_i K;obtain⟨rfl,rfl⟩:=K;cases h;exact⟨rfl,rfl⟩
 ·cases h
theorem VY{F:Fam}{v wt sm:Nat}{r}(h:F.act .GK v wt sm=some r):v=0/\wt=1/\r.2.2= .ph .G6:=by
 simp only [Fam.act] at h;split at h
 ·rename_i K;cases h;exact⟨K.1,K.2,rfl⟩
 ·cases h
section
variable {P:Program}{L:WgLink}(H:WgLib P L){F:Fam}{n:Nat}{M:Env}{ds:Ld_}{k:Li_}{cs:Lf_}{s:St}{b:Frame}
variable {ops:Ao_}{i:Nat}{rest:List Nat}{d:Option Tmp}{x y z:Operand}{ats:Array TypeId}{ty:TypeId}{pp:String}{af:Ae_}{g:On_}{p q:Ph}
include H
theorem Vm(U:s.q=false)(Y:ops[i]? =some ⟨d,.call ⟨.value (.func L.add),#[x,y],ats⟩,ty,pp,af,g⟩)(hw:AJ M ops ⟨d,.call ⟨.value (.func L.add),#[x,y],ats⟩,ty,pp,af,g⟩=some true)(Z:((b.kind != .early)&&Bd n d)=true)
  (ac:ev M x=some (.pointer (some F.sA))) (ag:ev M y=some (.int .i64 (-1)))
  (h:JL (H2 P) (IM P 0) b n (As M d (.tuple #[])) ds (.inRegion ops rest::k) cs .quiet):
  JL (AP P false) (Stop P F .HJ) b n M ds (.inRegion ops (i::rest)::k) cs s:=by
 refine G3 (vs:= [.pointer (some F.sA),.int .i64 (-1)]) Y hw Z H.f_add (nm_add L) rfl (by simp [evs,ac,ag]) (Nat.le_of_ble_eq_true rfl) λam back=>JL.go 11 rfl (LD (p:= .HJ) (q:= .Gw) (ad:=F.sA) rfl U (by simp) (λ_ _ _=>rfl) rfl rfl rfl rfl rfl H.underlying_tWgP H.underlying_tUP H.room_tWg rfl (.inl rfl) ?_)
 refine Ov (p:= .Gw) (q:= .IP) (mk:= .releaseMerge) (ad:=F.sA) (vs:= [.pointer (some F.sA)]) rfl U (by simp) (λ_ _ _=>rfl) rfl rfl rfl rfl (by simp) (Qc H) rfl rfl (JL.go 3 rfl ?_);refine Lz (p:= .IP) (q:= .Hb) rfl rfl (by simp) (λ_ _ _=>rfl) rfl rfl rfl rfl rfl (by simp) (Mr H) (JL.go 2 rfl ?_);refine JL.defer (vs:= []) rfl rfl rfl rfl rfl (JL.go 8 rfl ?_);refine JL.ext (vs:= []) rfl rfl rfl (QB H) rfl rfl (JL.go 7 rfl ?_);refine AY rfl rfl rfl (λρ h=>Yl.fieldAddr H.underlying_tWg rfl (F5 H.sizeOf_tAU) (h _ _ rfl)) (JL.go 1 rfl ?_);refine AY rfl rfl rfl (λρ h=>EW H.underlying_t3 H.underlying_tU64 (h _ _ rfl)) ?_
 refine AY (v:= .int .u64 18446744069414584320) rfl rfl rfl (λρ h=>(Yl.shl (h _ _ rfl) (h _ _ rfl) (by decide)).to (congrArg _ (by decide))) (Wt H rfl rfl rfl rfl rfl ?_ λv wt ap K aq=>?_)
 ·refine AY rfl rfl rfl (λρ h=>Yl.assign (h _ _ rfl)) (JL.go 5 rfl ?_);refine AY (v:= .int .u64 0) rfl rfl rfl (λρ h=>(Yl.and (h _ _ rfl) (h _ _ rfl)).to (congrArg _ (KZ (v:=0) (wt:=1) (by decide) (by decide)))) (AY rfl rfl rfl (λρ h=>Yl.neq (h _ _ rfl) (h _ _ rfl)) ?_);refine JL.go 10 rfl (AY (v:= .int .u64 (0:Nat)) rfl rfl rfl (λρ h=>(Yl.shr (h _ _ rfl) (h _ _ rfl) (by decide)).to (congrArg _ (KQ (v:=0) (wt:=1) (by decide)))) ?_);refine AY (v:= .int .i32 (0:Nat)) rfl rfl rfl (λρ h=>(EW H.underlying_tU64 H.underlying_t21 (h _ _ rfl)).to (congrArg _ (wrap_i32 (by decide)))) ?_
  refine JL.go 5 rfl (AY (v:= .int .u64 (1:Nat)) rfl rfl rfl (λρ h=>(Yl.and (h _ _ rfl) (h _ _ rfl)).to (congrArg _ (La (v:=0) (wt:=1) (by decide) (by decide)))) ?_);refine AY (v:= .int .u32 (1:Nat)) rfl rfl rfl (λρ h=>(EW H.underlying_tU64 H.underlying_tU32 (h _ _ rfl)).to (congrArg _ (wrap_u32 (by decide)))) ?_
  refine JL.go 30 rfl (AY rfl rfl rfl (λρ h=>Yl.neq (h _ _ rfl) (h _ _ rfl)) ?_);refine JL.go 30 rfl (AY rfl rfl rfl (λρ h=>Yl.fieldAddr H.underlying_tWg rfl (F5 H.sizeOf_tAU) (h _ _ rfl)) ?_);refine JL.uLoad H (p:= .GK) rfl rfl (by simp) rfl VN rfl rfl rfl rfl λv wt sm r al=>?_;obtain⟨rfl,rfl,e⟩:=VY al;refine⟨.G6,e,?_⟩;refine JL.go 1 rfl (AY (v:= .bool false) rfl rfl rfl (λρ h=>(Yl.neq (h _ _ rfl) (h _ _ rfl)).to (by simp)) ?_);refine JL.go 7 rfl (AY rfl rfl rfl (λρ h=>Yl.fieldAddr H.underlying_tWg rfl (F5 H.sizeOf_tAU) (h _ _ rfl)) ?_);refine JL.uStore H rfl rfl rfl rfl rfl (JL.go 9 rfl ?_);refine IC (JL.go 4 rfl ?_);refine AY rfl rfl rfl (λρ h=>Yl.neq (h _ _ rfl) (h _ _ rfl)) (JL.go 8 rfl ?_);refine AY rfl rfl rfl (λρ h=>Yl.fieldAddr H.underlying_tWg rfl (F5 H.sizeOf_tU32) (h _ _ rfl)) (VT (vs:= [.pointer (some F.mA),.bool false,.int .i64 0]) rfl rfl rfl rfl (U8 H) rfl rfl ?_);refine JL.go 4 rfl (AY (v:= .int .u32 ((0:Nat):Int)) rfl rfl rfl (λρ h=>(Yl.sub (h _ _ rfl) (h _ _ rfl)).to (congrArg _ (by decide))) ?_);refine JL.go 2 rfl (JL.again ?_);refine JL.go 4 rfl (AY rfl rfl rfl (λρ h=>Yl.neq (h _ _ rfl) (h _ _ rfl)) ?_);refine JL.go 3 rfl (JL.out rfl (JO.MT rfl (IY H) (JO.leave rfl (Bx.none H.f_add rfl) (back _ _ _ _ h))))
 ·refine AY rfl rfl rfl (λρ h=>Yl.assign (h _ _ rfl)) (JL.go 5 rfl ?_);refine AY (v:= .int .u64 0) rfl rfl rfl (λρ h=>(Yl.and (h _ _ rfl) (h _ _ rfl)).to (congrArg _ (KZ (v:=v) (wt:=wt) (by omega) K))) (AY rfl rfl rfl (λρ h=>Yl.neq (h _ _ rfl) (h _ _ rfl)) ?_);refine JL.go 10 rfl (AY (v:= .int .u64 (v:Nat)) rfl rfl rfl (λρ h=>(Yl.shr (h _ _ rfl) (h _ _ rfl) (by decide)).to (congrArg _ (KQ (v:=v) (wt:=wt) K))) ?_);refine AY (v:= .int .i32 (v:Nat)) rfl rfl rfl (λρ h=>(EW H.underlying_tU64 H.underlying_t21 (h _ _ rfl)).to (congrArg _ (wrap_i32 (by omega)))) ?_
  refine JL.go 5 rfl (AY (v:= .int .u64 (wt:Nat)) rfl rfl rfl (λρ h=>(Yl.and (h _ _ rfl) (h _ _ rfl)).to (congrArg _ (La (v:=v) (wt:=wt) (by omega) K))) ?_);refine AY (v:= .int .u32 (wt:Nat)) rfl rfl rfl (λρ h=>(EW H.underlying_tU64 H.underlying_tU32 (h _ _ rfl)).to (congrArg _ (wrap_u32 K))) ?_
  refine JL.go 22 rfl (AY (v:= .bool false) rfl rfl rfl (λρ h=>(Yl.lss (h _ _ rfl) (h _ _ rfl)).to (by simp)) ?_);refine JL.go 6 rfl ?_;by_cases O:wt=0
  ·refine AY rfl rfl rfl (λρ h=>Yl.move (h _ _ rfl)) (AY (v:= .bool false) rfl rfl rfl (λρ h=>(Yl.neq (h _ _ rfl) (h _ _ rfl)).to (by simp [O])) ?_);refine JL.go 16 rfl ?_;by_cases av:0<v
   ·refine AY rfl rfl rfl (λρ h=>Yl.move (h _ _ rfl)) (AY (v:= .bool true) rfl rfl rfl (λρ h=>(Yl.gtr (h _ _ rfl) (h _ _ rfl)).to (by simp <;> omega)) ?_);refine JL.go 6 rfl (HZ rfl (JO.MT rfl (IY H) (JO.leave rfl (Bx.none H.f_add rfl) (back _ _ _ _ h))))
   ·refine AY rfl rfl rfl (λρ h=>Yl.move (h _ _ rfl)) (AY (v:= .bool false) rfl rfl rfl (λρ h=>(Yl.gtr (h _ _ rfl) (h _ _ rfl)).to (by simp <;> omega)) ?_);refine JL.go 2 rfl (AY (v:= .bool true) rfl rfl rfl (λρ h=>(Yl.eql (h _ _ rfl) (h _ _ rfl)).to (by simp [O])) ?_);refine JL.go 3 rfl (HZ rfl (JO.MT rfl (IY H) (JO.leave rfl (Bx.none H.f_add rfl) (back _ _ _ _ h))))
  ·refine AY rfl rfl rfl (λρ h=>Yl.move (h _ _ rfl)) (AY (v:= .bool true) rfl rfl rfl (λρ h=>(Yl.neq (h _ _ rfl) (h _ _ rfl)).to (by simp [O])) ?_);refine JL.go 17 rfl (AY (v:= .bool true) rfl rfl rfl (λρ h=>(Yl.gtr (h _ _ rfl) (h _ _ rfl)).to (by simp <;> omega)) ?_);refine JL.go 6 rfl (HZ rfl (JO.MT rfl (IY H) (JO.leave rfl (Bx.none H.f_add rfl) (back _ _ _ _ h))))
theorem VI{j:Nat}(K:s.q=false)(O:ops[i]? =some ⟨d,.call ⟨.value (.func L.add),#[x,y],ats⟩,ty,pp,af,g⟩)(hw:AJ M ops ⟨d,.call ⟨.value (.func L.add),#[x,y],ats⟩,ty,pp,af,g⟩=some true)(U:((b.kind != .early)&&Bd n d)=true)
  (Y:ev M x=some (.pointer (some F.sA))) (Z:ev M y=some (.int .i64 1))
  (h:JL (AP P true) (Stop P F (.FH j)) b n (As M d (.tuple #[])) ds (.inRegion ops rest::k) cs s):
  JL (AP P true) (Stop P F (.Gf j)) b n M ds (.inRegion ops (i::rest)::k) cs s:=by
 refine G3 (vs:= [.pointer (some F.sA),.int .i64 1]) O hw U H.f_add (nm_add L) rfl (by simp [evs,Y,Z]) (Nat.le_of_ble_eq_true rfl) λac back=>JL.go 12 rfl (Lz (p:= .Gf j) (q:= .Ip j) rfl K (by simp) (λ_ _ _=>rfl) rfl rfl rfl rfl rfl (by simp) (Mr H) ?_);refine JL.go 2 rfl (JL.defer (vs:= []) rfl rfl rfl rfl rfl ?_);refine JL.go 8 rfl (JL.ext (vs:= []) rfl rfl rfl (QB H) rfl rfl ?_);refine JL.go 7 rfl (AY rfl rfl rfl (λρ h=>Yl.fieldAddr H.underlying_tWg rfl (F5 H.sizeOf_tAU) (h _ _ rfl)) ?_);refine JL.go 1 rfl (AY rfl rfl rfl (λρ h=>EW H.underlying_t3 H.underlying_tU64 (h _ _ rfl)) ?_)
 refine AY (v:= .int .u64 4294967296) rfl rfl rfl (λρ h=>(Yl.shl (h _ _ rfl) (h _ _ rfl) (by decide)).to (congrArg _ (by decide))) (V4 H K rfl rfl rfl rfl rfl ?_ λv ag al=>?_)
 ·refine AY rfl rfl rfl (λρ h=>Yl.assign (h _ _ rfl)) (JL.go 5 rfl ?_);refine AY (v:= .int .u64 0) rfl rfl rfl (λρ h=>(Yl.and (h _ _ rfl) (h _ _ rfl)).to (congrArg _ (KZ (v:=1) (wt:=0) (by decide) (by decide)))) (AY rfl rfl rfl (λρ h=>Yl.neq (h _ _ rfl) (h _ _ rfl)) ?_);refine JL.go 10 rfl (AY (v:= .int .u64 (1:Nat)) rfl rfl rfl (λρ h=>(Yl.shr (h _ _ rfl) (h _ _ rfl) (by decide)).to (congrArg _ (KQ (v:=1) (wt:=0) (by decide)))) ?_);refine AY (v:= .int .i32 (1:Nat)) rfl rfl rfl (λρ h=>(EW H.underlying_tU64 H.underlying_t21 (h _ _ rfl)).to (congrArg _ (wrap_i32 (by decide)))) ?_
  refine JL.go 5 rfl (AY (v:= .int .u64 (0:Nat)) rfl rfl rfl (λρ h=>(Yl.and (h _ _ rfl) (h _ _ rfl)).to (congrArg _ (La (v:=1) (wt:=0) (by decide) (by decide)))) ?_);refine AY (v:= .int .u32 (0:Nat)) rfl rfl rfl (λρ h=>(EW H.underlying_tU64 H.underlying_tU32 (h _ _ rfl)).to (congrArg _ (wrap_u32 (by decide)))) ?_
  refine JL.go 12 rfl (AY (v:= .int .i32 1) rfl rfl rfl (λρ h=>(EW H.underlying_t3 H.underlying_t21 (h _ _ rfl)).to (congrArg _ (by decide))) ?_)
  refine AY (v:= .bool true) rfl rfl rfl (λρ h=>(Yl.eql (h _ _ rfl) (h _ _ rfl)).to (by simp)) (JL.go 6 rfl ?_);refine AY rfl rfl rfl (λρ h=>Yl.fieldAddr H.underlying_tWg rfl (F5 H.sizeOf_tU32) (h _ _ rfl)) (LD (p:= .Iw j) (q:= .HB j) (ad:=F.mA) rfl K (by simp) (λ_ _ _=>rfl) rfl rfl rfl rfl rfl H.underlying_tPU32 H.underlying_tUP H.room_tU32 rfl (.inr rfl) ?_)
  refine Ov (p:= .HB j) (q:= .GU j) (mk:= .read) (ad:=F.mA) (vs:= [.pointer (some F.mA)]) rfl K (by simp) (λ_ _ _=>rfl) rfl rfl rfl rfl (by simp) (Ww H) rfl rfl (JL.go 5 rfl ?_);refine AY (v:= .bool false) rfl rfl rfl (λρ h=>(Yl.lss (h _ _ rfl) (h _ _ rfl)).to (by simp)) (JL.go 7 rfl ?_);refine AY (v:= .bool false) rfl rfl rfl (λρ h=>(Yl.neq (h _ _ rfl) (h _ _ rfl)).to (by simp)) (JL.go 17 rfl ?_);refine AY (v:= .bool true) rfl rfl rfl (λρ h=>(Yl.gtr (h _ _ rfl) (h _ _ rfl)).to (by simp)) (JL.go 6 rfl ?_);exact HZ rfl (JO.RQ K rfl (IY H) (JO.leave rfl (Bx.none H.f_add rfl) (back _ _ _ _ h)))
 ·refine AY rfl rfl rfl (λρ h=>Yl.assign (h _ _ rfl)) (JL.go 5 rfl ?_);refine AY (v:= .int .u64 0) rfl rfl rfl (λρ h=>(Yl.and (h _ _ rfl) (h _ _ rfl)).to (congrArg _ (KZ (v:=(v+1)) (wt:=0) (by omega) (by decide)))) (AY rfl rfl rfl (λρ h=>Yl.neq (h _ _ rfl) (h _ _ rfl)) ?_);refine JL.go 10 rfl (AY (v:= .int .u64 ((v+1):Nat)) rfl rfl rfl (λρ h=>(Yl.shr (h _ _ rfl) (h _ _ rfl) (by decide)).to (congrArg _ (KQ (v:=(v+1)) (wt:=0) (by decide)))) ?_);refine AY (v:= .int .i32 ((v+1):Nat)) rfl rfl rfl (λρ h=>(EW H.underlying_tU64 H.underlying_t21 (h _ _ rfl)).to (congrArg _ (wrap_i32 (by omega)))) ?_
  refine JL.go 5 rfl (AY (v:= .int .u64 (0:Nat)) rfl rfl rfl (λρ h=>(Yl.and (h _ _ rfl) (h _ _ rfl)).to (congrArg _ (La (v:=(v+1)) (wt:=0) (by omega) (by decide)))) ?_);refine AY (v:= .int .u32 (0:Nat)) rfl rfl rfl (λρ h=>(EW H.underlying_tU64 H.underlying_tU32 (h _ _ rfl)).to (congrArg _ (wrap_u32 (by decide)))) ?_
  refine JL.go 12 rfl (AY (v:= .int .i32 1) rfl rfl rfl (λρ h=>(EW H.underlying_t3 H.underlying_t21 (h _ _ rfl)).to (congrArg _ (by decide))) ?_)
  refine AY (v:= .bool false) rfl rfl rfl (λρ h=>(Yl.eql (h _ _ rfl) (h _ _ rfl)).to (by simp <;> omega)) (JL.go 8 rfl ?_);refine AY (v:= .bool false) rfl rfl rfl (λρ h=>(Yl.lss (h _ _ rfl) (h _ _ rfl)).to (by simp <;> omega)) (JL.go 7 rfl ?_);refine AY (v:= .bool false) rfl rfl rfl (λρ h=>(Yl.neq (h _ _ rfl) (h _ _ rfl)).to (by simp)) (JL.go 17 rfl ?_);refine AY (v:= .bool true) rfl rfl rfl (λρ h=>(Yl.gtr (h _ _ rfl) (h _ _ rfl)).to (by simp <;> omega)) (JL.go 6 rfl ?_);exact HZ rfl (JO.RQ K rfl (IY H) (JO.leave rfl (Bx.none H.f_add rfl) (back _ _ _ _ h)))
omit H in
theorem VA{m:Nat}:∀v wt sm r,F.act (.FX m) v wt sm=some r->r.1=(v,wt,sm)/\r.2.1= #[Fam.B6 F.sA]:=by
 intro v wt sm r h;simp only [Fam.act] at h;split at h
 ·rename_i K;obtain⟨_,rfl⟩:=K;cases h;exact⟨rfl,rfl⟩
 ·cases h
omit H in
theorem WE{m v wt sm:Nat}{r}(h:F.act (.FX m) v wt sm=some r):v<=m/\wt=0/\r.2.2=if v=0 then .ph .F0 else .ph (.Hc v):=by
 simp only [Fam.act] at h;split at h
 ·rename_i K;cases h;exact⟨K.1,K.2,rfl⟩
 ·cases h
omit H in
theorem UW:∀v wt sm r,F.act .G5 v wt sm=some r->r.1=(v,wt,sm)/\r.2.1= #[Fam.B6 F.sA]:=by
 intro v wt sm r h;simp only [Fam.act] at h;split at h
 ·rename_i K;obtain⟨rfl,rfl⟩:=K;cases h;exact⟨rfl,rfl⟩
 ·cases h
omit H in
theorem Vl{v wt sm:Nat}{r}(h:F.act .G5 v wt sm=some r):v=0/\wt=0/\r.2.2= .ph .F0:=by
 simp only [Fam.act] at h;split at h
 ·rename_i K;cases h;exact⟨K.1,K.2,rfl⟩
 ·cases h
omit H in
theorem Vg{v:Nat}(K:v<2147483648):IntKind.u64.wrap (Fam.word v 0+1)=Fam.word v 1:=by
 simp only [Fam.word,Fam.KK,IntKind.wrap,IntKind.bits,IntKind.signed];simp;omega
theorem JL.wait(ap:F.n<2147483648)(K:s.q=false)(aq:ops[i]? =some ⟨d,.call ⟨.value (.func L.wait),#[x],ats⟩,ty,pp,af,g⟩)(hw:AJ M ops ⟨d,.call ⟨.value (.func L.wait),#[x],ats⟩,ty,pp,af,g⟩=some true)(av:((b.kind != .early)&&Bd n d)=true)
  (aw:ev M x=some (.pointer (some F.sA)))
  {Q:GP} (al:∀g s,(GG P).ok Q g s->F.fin g s)
  (h:∀E' f,Le s.E E'->E' F.fd=none->(∀b,E' b≠none->s.H b=none)->(∀k,k<F.n->F.msg k (f k) E')->JL (GG P) Q b n (As M d (.tuple #[])) ds (.inRegion ops rest::k) cs ⟨E',F.Jw s.H f,false⟩):
  JL (AP P true) (Stop P F .De) b n M ds (.inRegion ops (i::rest)::k) cs s:=by
 refine G3 (vs:= [.pointer (some F.sA)]) aq hw av H.f_wait (nm_wait L) rfl (by simp [evs,aw]) (Nat.le_of_ble_eq_true rfl) λaI back=>JL.go 3 rfl (Lz (p:= .De) (q:= .FX F.n) rfl K (by simp) (λ_ _ _=>rfl) rfl rfl rfl rfl rfl (by simp) (Mr H) ?_);refine JL.go 2 rfl (IC ?_);refine EX (L':= [(0,.pointer (some F.sA))]) ⟨rfl,trivial⟩ ?_;generalize F.n=m at ap ⊢
 induction m using Nat.strongRecOn with
 | _ m ay=>?_
 refine JL.go 5 rfl (AY rfl rfl rfl (λρ h=>Yl.fieldAddr H.underlying_tWg rfl (F5 H.sizeOf_tAU) (h _ _ rfl)) ?_);refine JL.uLoad H (p:= .FX m) rfl K (by simp) rfl VA rfl rfl rfl rfl λv wt sm r U=>?_;obtain⟨aJ,rfl,e⟩:=WE U;have O:v<2147483648:=by omega
 by_cases am:v=0
 ·subst am;refine⟨.F0,e,?_⟩;refine JL.go 5 rfl (AY (v:= .int .u64 (0:Nat)) rfl rfl rfl (λρ h=>(Yl.shr (h _ _ rfl) (h _ _ rfl) (by decide)).to (congrArg _ (KQ (v:=0) (wt:=0) (by decide)))) ?_);refine AY (v:= .int .i32 (0:Nat)) rfl rfl rfl (λρ h=>(EW H.underlying_tU64 H.underlying_t21 (h _ _ rfl)).to (congrArg _ (wrap_i32 (by decide)))) ?_
  refine JL.go 5 rfl (AY (v:= .int .u64 ((0:Nat):Int)) rfl rfl rfl (λρ h=>(Yl.and (h _ _ rfl) (h _ _ rfl)).to (congrArg _ (La (v:=0) (wt:=0) (by decide) (by decide)))) ?_);refine AY (v:= .int .u32 ((0:Nat):Int)) rfl rfl rfl (λρ h=>(EW H.underlying_tU64 H.underlying_tU32 (h _ _ rfl)).to (congrArg _ (wrap_u32 (by decide)))) ?_
  refine JL.go 6 rfl (AY (v:= .bool true) rfl rfl rfl (λρ h=>(Yl.eql (h _ _ rfl) (h _ _ rfl)).to (by simp)) ?_);refine JL.go 6 rfl (Lz (p:= .F0) (q:= .Im) rfl K (by simp) (λ_ _ _=>rfl) rfl rfl rfl rfl rfl (by simp) (IY H) ?_);refine JL.go 3 rfl (LD (p:= .Im) (q:= .Ge) (ad:=F.sA) rfl K (by simp) (λ_ _ _=>rfl) rfl rfl rfl rfl rfl H.underlying_tWgP H.underlying_tUP H.room_tWg rfl (.inl rfl) ?_)
  refine Sb (vs:= [.pointer (some F.sA)]) K rfl rfl rfl rfl (Oe H) rfl rfl λE' Y z1 Z ac ag T az=>al _ _ ?_;revert T;refine(?_:JL (GG P) Q _ _ _ _ _ _ _);refine JL.go 5 rfl (AY (v:= .bool true) rfl rfl rfl (λρ h=>(Yl.eql (h _ _ rfl) (h _ _ rfl)).to (by simp)) ?_);refine JL.go 2 rfl (AY (v:= .int .u64 0) rfl rfl rfl (λρ h=>(Yl.and (h _ _ rfl) (h _ _ rfl)).to (congrArg _ (KZ (v:=0) (wt:=0) (by decide) (by decide)))) ?_);refine AY (v:= .bool false) rfl rfl rfl (λρ h=>(Yl.neq (h _ _ rfl) (h _ _ rfl)).to (by simp)) (JL.go 8 rfl ?_);exact JL.ret rfl rfl (Bx.none H.f_wait rfl) (back _ _ _ _ (h E' Y z1 Z ac ag))
 ·refine⟨.Hc v,by rw [e,if_neg am],?_⟩;refine JL.go 5 rfl (AY (v:= .int .u64 (v:Nat)) rfl rfl rfl (λρ h=>(Yl.shr (h _ _ rfl) (h _ _ rfl) (by decide)).to (congrArg _ (KQ (v:=v) (wt:=0) (by decide)))) ?_);refine AY (v:= .int .i32 (v:Nat)) rfl rfl rfl (λρ h=>(EW H.underlying_tU64 H.underlying_t21 (h _ _ rfl)).to (congrArg _ (wrap_i32 O))) ?_
  refine JL.go 5 rfl (AY (v:= .int .u64 ((0:Nat):Int)) rfl rfl rfl (λρ h=>(Yl.and (h _ _ rfl) (h _ _ rfl)).to (congrArg _ (La (v:=v) (wt:=0) O (by decide)))) ?_);refine AY (v:= .int .u32 ((0:Nat):Int)) rfl rfl rfl (λρ h=>(EW H.underlying_tU64 H.underlying_tU32 (h _ _ rfl)).to (congrArg _ (wrap_u32 (by decide)))) ?_
  refine JL.go 6 rfl (AY (v:= .bool false) rfl rfl rfl (λρ h=>(Yl.eql (h _ _ rfl) (h _ _ rfl)).to (by simp <;> omega)) ?_);refine JL.go 7 rfl (AY rfl rfl rfl (λρ h=>Yl.fieldAddr H.underlying_tWg rfl (F5 H.sizeOf_tAU) (h _ _ rfl)) ?_);refine JL.go 2 rfl (AY (v:= .int .u64 (Fam.word v 1)) rfl rfl rfl (λρ h=>(Yl.add (h _ _ rfl) (h _ _ rfl)).to (congrArg _ (Vg O))) ?_);refine JL.uCas H (m:=v) K rfl rfl rfl rfl rfl rfl ?_ ?_
  ·refine JL.done (JL.go 6 rfl ?_);refine AY (v:= .bool true) rfl rfl rfl (λρ h=>(Yl.eql (h _ _ rfl) (h _ _ rfl)).to (by simp)) (JL.go 6 rfl ?_);refine AY rfl rfl rfl (λρ h=>Yl.fieldAddr H.underlying_tWg rfl (F5 H.sizeOf_tU32) (h _ _ rfl)) (LD (p:= .It) (q:= .HK) (ad:=F.mA) rfl K (by simp) (λ_ _ _=>rfl) rfl rfl rfl rfl rfl H.underlying_tPU32 H.underlying_tUP H.room_tU32 rfl (.inr rfl) ?_)
   refine Ov (p:= .HK) (q:= .Fs) (mk:= .write) (ad:=F.mA) (vs:= [.pointer (some F.mA)]) rfl K (by simp) (λ_ _ _=>rfl) rfl rfl rfl rfl (by simp) (Vw H) rfl rfl (JL.go 9 rfl ?_);refine AY (v:= .int .u64 0) rfl rfl rfl (λρ h=>(Yl.and (h _ _ rfl) (h _ _ rfl)).to (congrArg _ (KZ (v:=v) (wt:=0) O (by decide)))) (AY (v:= .bool false) rfl rfl rfl (λρ h=>(Yl.neq (h _ _ rfl) (h _ _ rfl)).to (by simp)) ?_);refine JL.go 10 rfl (AY rfl rfl rfl (λρ h=>Yl.fieldAddr H.underlying_tWg rfl (F5 H.sizeOf_tU32) (h _ _ rfl)) ?_);refine JL.go 1 rfl (UF (vs:= [.pointer (some F.mA),.bool false]) K rfl rfl rfl rfl (Un H) rfl rfl ?_);refine JL.go 5 rfl (AY rfl rfl rfl (λρ h=>Yl.fieldAddr H.underlying_tWg rfl (F5 H.sizeOf_tAU) (h _ _ rfl)) ?_);refine JL.uLoad H (p:= .G5) rfl K (by simp) rfl UW rfl rfl rfl rfl λv wt sm r U=>?_;obtain⟨rfl,rfl,e⟩:=Vl U;refine⟨.F0,e,?_⟩;refine AY (v:= .bool false) rfl rfl rfl (λρ h=>(Yl.neq (h _ _ rfl) (h _ _ rfl)).to (by simp [Fam.word])) (JL.go 6 rfl ?_);refine Lz (p:= .F0) (q:= .Im) rfl K (by simp) (λ_ _ _=>rfl) rfl rfl rfl rfl rfl (by simp) (IY H) (JL.go 3 rfl ?_);refine LD (p:= .Im) (q:= .Ge) (ad:=F.sA) rfl K (by simp) (λ_ _ _=>rfl) rfl rfl rfl rfl rfl H.underlying_tWgP H.underlying_tUP H.room_tWg rfl (.inl rfl) ?_
   refine Sb (vs:= [.pointer (some F.sA)]) K rfl rfl rfl rfl (Oe H) rfl rfl λE' Y z1 Z ac ag T az=>al _ _ ?_;revert T;refine(?_:JL (GG P) Q _ _ _ _ _ _ _);exact JL.go 8 rfl (JL.ret rfl rfl (Bx.none H.f_wait rfl) (back _ _ _ _ (h E' Y z1 Z ac ag)))
  ·refine JL.done (JL.go 3 rfl ?_);refine JL.again (EX (L':= [(0,.pointer (some F.sA))]) ⟨rfl,trivial⟩ ?_);exact ay (v - 1) (by omega) (by omega)
theorem JO.ZL(K:b.roundOf=none)(O:s.q=false)(h:JO (H2 P) (IM P 0) b n M ds cs .quiet):
  JO (AP P false) (Stop P F .HJ) b n M (dcall L.done #[.pointer (some F.sA)]::ds) cs s:=by
 refine JO.enter (vs:= [.pointer (some F.sA)]) K H.f_done (nm_done L) rfl (Nat.le_of_ble_eq_true rfl) λT U todo=>JL.go 2 rfl (Vm H O rfl rfl rfl rfl rfl ?_);exact JL.done (JL.out rfl (JO.leaveD rfl H.f_done rfl (.inl rfl) (h T U todo)))
end
end Pal
namespace Pal
open Go Go.Conc
section
variable {P:Program}{J:Judge P}{Q:Gs_}{g:Goroutine}{cs:Lf_}{c:Frame}{E H:LH}{S S':List Seg}
theorem MV(K:S.flatten.Perm S'.flatten)(O:Aq E H S)(h:Aq E H S'->J.ok Q g (Aj E H S')):J.ok Q g (Aj E H S):=by
 have U:Aj E H S=Aj E H S':=EY O K;rw [U];exact h (Nd.perm O K)
theorem OQ(K:S'.flatten=S.flatten)(O:Aq E H S)(h:Aq E H S'->J.ok Q g (Aj E H S')):J.ok Q g (Aj E H S):=MV (by rw [K]) O h
theorem V9{f:FuncId}{vs:Lv_}{seg:Seg}{R:Value->LH->Seg->Prop}(j:Nat)(al:AO J f vs E seg R)(K:Aq E H S)(O:S[j]? =some seg)
  (am:∀v E' seg',Le E E'->R v E' seg'->Aq E' H (S.set j seg')->J.ok Q (G (c.finish v) cs) (Aj E' H (S.set j seg'))):
  J.ok Q (G (Frame.enter P f vs.toArray .normal) (c::cs)) (Aj E H S):=by
 have U:S.flatten.Perm (seg++(S.set j []).flatten):=(Ec (seg':=seg) O).1.trans List.perm_append_comm;have Y:Nd E H (seg++(S.set j []).flatten):=Nd.perm K U;have ap:Aj E H S=mk E (A9 (S.set j []).flatten H) seg:=by
  rw [show Aj E H S=mk E H S.flatten from rfl,EY K U];unfold mk;rw [FP]
 have Z:=EB.Lb (al (A9 (S.set j []).flatten H) (Nd.front Y)) (by rintro v s' ⟨E',B',_,_,_,rfl⟩;rfl);rw [← ap] at Z;refine Z Q c cs ?_;rintro v aM ⟨⟨E',B',hle,aq,av,rfl⟩,w,aw⟩;have e2:mk E' (A9 (S.set j []).flatten H) B'=mk E' H (B'++(S.set j []).flatten):=by unfold mk;rw [FP]
 have ay:Nd E H (S.set j []).flatten:=by
  have:=Y;rw [Nd.iff] at this ⊢;rw [List.map_append,List.nodup_append] at this;exact⟨this.1.2.1,λq az=>this.2 q (List.mem_append_right _ az)⟩
 have aI:Nd E' H (S.set j []).flatten:=ay.grow λx aJ=>by
  have aK:=aw.d x aJ;have aL:A9 B' (A9 (S.set j []).flatten H) x=none:=aK;exact(HW aL).1
 have ac:Nd E' H (B'++(S.set j []).flatten):=Nd.glue av aI;rw [e2];have ag:(B'++(S.set j []).flatten).Perm (S.set j B').flatten:=List.perm_append_comm.trans (Ec O).2.symm;rw [EY ac ag];exact am v E' B' hle aq (Nd.perm ac ag)
end
section
variable {P:Program}{J:Judge P}{Q:Gs_}{b:Frame}{n:Nat}{L:Env}{ds:Ld_}{k:Li_}{cs:Lf_}{E H:LH}{S:List Seg}{ops:Ao_}{i:Nat}{rest:List Nat}{d:Option Tmp}{t ty e:TypeId}{p:String}{af:Ae_}{g:On_}
end
theorem UA{E H:LH}{a b c:Nat}{K O U:Obj}(ac:Aq E H [[(a,K)],[(b,O)],[(c,U)]]):(⟨E,Ju (Aj E H [[(a,K)],[(b,O)],[(c,U)]]).H b a c,false⟩:St)=Aj E H []:=by
 have h:=Nd.iff.1 ac;have ag:H a=none:=(h.2 (a,K) (by simp)).2;have al:H b=none:=(h.2 (b,O) (by simp)).2;have am:H c=none:=(h.2 (c,U) (by simp)).2;unfold Aj mk;congr 1;funext x;simp only [Ju,Aj,mk,List.flatten_cons,List.flatten_nil,List.append_nil,List.cons_append,List.nil_append,A9];by_cases Y:x=a
 ·subst Y;simp [ag]
 ·by_cases e2:x=b
  ·subst e2;simp [al]
  ·by_cases Z:x=c
   ·subst Z;simp [am]
   ·simp [Y,e2,Z]
end Pal
namespace Pal
open Go Go.Conc
theorem GD{P:Program}{J:Judge P}{Q:Gs_}{b:Frame}{n:Nat}{L:Env}{ds:Ld_}{cs:Lf_}{E H:LH}{S:List Seg}{todo:Li_}{A B:Seg}(j K:Nat)(O:S[j]? =some A)(Z:(S.set j [])[K]? =some B)(ac:Aq E H S)
  (h:Aq E H (((S.set j []).set K []).set j (A++B))->JL J Q b n L ds todo cs (Aj E H (((S.set j []).set K []).set j (A++B)))):JL J Q b n L ds todo cs (Aj E H S):=by
 refine JS.perm ?_ ac h;have U:j<S.length:=(List.getElem?_eq_some_iff.1 O).1;have ag:=(Ec (seg':=A) O).1;have al:=(Ec (seg':=B) Z).1;have am:((S.set j []).set K [])[j]? =some []:=by
  by_cases e:K=j
  ·subst e;rw [List.getElem?_set_self (by simpa using U)]
  ·rw [List.getElem?_set_ne e,List.getElem?_set_self U]
 have Y:=(Ec (seg':=A++B) am).2;have ap:(((S.set j []).set K []).set j [])=(S.set j []).set K []:=by
  by_cases e:K=j
  ·subst e;simp
  ·rw [List.set_comm _ _ e];simp
 rw [ap] at Y;refine ag.trans (List.Perm.trans ?_ Y.symm);refine(List.Perm.append_right A al).trans ?_;rw [List.append_assoc];exact List.Perm.append_left _ List.perm_append_comm
end Pal
namespace Pal
open Go Go.Conc
def WL{α:Type}(e:TypeId)(pp:Rp α)(E:LH)(bk c n:Nat)(f:Av_)(xs:List α):Prop:=
 OL e pp E (some ⟨bk,0,none⟩) c [(bk,.cells f e (0,0))] xs/\xs.length=n
theorem WL.Ah{α:Type}{e:TypeId}{pp:Rp α}{E E':LH}{bk c n:Nat}{f:Av_}{xs:List α}(h:WL e pp E bk c n f xs)(hle:Le E E'):WL e pp E' bk c n f xs:=⟨h.1.Ah hle,h.2⟩
theorem WL.at{α:Type}{e:TypeId}{pp:Rp α}{E:LH}{bk c n:Nat}{f:Av_}{xs:List α}{m:Int}{x:α}(h:WL e pp E bk c n f xs)(hm:ix xs m=some x):
  ∃ws,pp.r E ws x/\(∀j w,ws[j]? =some w->f[m.toNat*pp.n+j]? =some w):=by
 obtain⟨ws,K,O,_,_⟩:=OL.again h.1 hm rfl;exact⟨ws,K,O⟩
theorem WL.put{α:Type}{e:TypeId}{pp:Rp α}{E:LH}{bk c n:Nat}{f:Av_}{xs O:List α}{m:Int}{x0 x':α}{ws':Lv_}(h:WL e pp E bk c n f xs)(U:O.length=n)(hm:ix O m=some x0)(Y:pp.r E ws' x'):
  WL e pp E bk c n (A8 f (m.toNat*pp.n) ws') (xs.set m.toNat x')/\m.toNat*pp.n+pp.n<=f.size:=by
 obtain⟨K,rfl,Z⟩:=Gt hm;have ac:K<xs.length:=by rw [h.2,← U];exact(List.getElem?_eq_some_iff.1 Z).1
 have ag:ix xs (K:Int)=some xs[K]:=by simp [ix,ac]
 obtain⟨ws,ap,aq,al,am⟩:=OL.again h.1 ag rfl;exact⟨⟨am x' ws' Y,by rw [List.length_set];exact h.2⟩,al⟩
theorem OL.cases{α:Type}{e:TypeId}{pp:Rp α}{E:LH}{a:Option Addr}{c:Nat}{seg:Seg}{xs:List α}(h:OL e pp E a c seg xs):
  (a=none/\c=0/\seg= []/\xs= [])∨∃bk f,a=some ⟨bk,0,none⟩/\seg= [(bk,.cells f e (0,0))]/\WL e pp E bk c xs.length f xs:=by
 have Y:=h;obtain⟨wss,Z,ag,al⟩:=h;rcases Z with⟨K,O,U,ac,am⟩ | ⟨bk,f,K,O,U⟩
 ·exact .inl ⟨K,U,ac,List.length_eq_zero_iff.1 O⟩
 ·subst K O;exact .inr ⟨bk,f,rfl,rfl,Y,rfl⟩
theorem Fh{P:Program}{s:St}{ρ:Operand->Value}{x y:Operand}{d:Option Tmp}{t ty e:TypeId}{p:String}{af:Ae_}{g:On_}{kd:IntKind}{α:Type}{xs:List α}{xv:α}{m:Int}{bk c K n:Nat}(O:xs.length=n)(hm:ix xs m=some xv)(U:P.underlying t=some (.slice e))(Y:Bh P e=some K)(Z:ρ x= .slice (some ⟨bk,0,none⟩) n c)(ac:ρ y= .int kd m):
  Yl P ⟨d,.indexAddr t x y,ty,p,af,g⟩ ρ s (.pointer (some ⟨bk,m.toNat*K,none⟩)):=by
 subst O;exact WO hm U Y Z ac
theorem RH{P:Program}{s:St}{ρ:Operand->Value}{x:Operand}{d:Option Tmp}{t ty e:TypeId}{p:String}{af:Ae_}{g:On_}{α:Type}{xs:List α}{a:Option Addr}{n c:Nat}{ats:Array TypeId}(K:xs.length=n)(O:ats[0]? =some t)(U:P.underlying t=some (.slice e))(Y:ρ x= .slice a n c):
  Yl P ⟨d,.call ⟨.builtin .len,#[x],ats⟩,ty,p,af,g⟩ ρ s (.int .i64 (xs.length:Int)):=by
 subst K;exact Yl.len O U Y
section
variable {P:Program}{J:Judge P}{Q:Gs_}{b:Frame}{n:Nat}{ds:Ld_}{ops:Ao_}{k:Li_}{cs:Lf_}{m fuel:Nat}{D:Nat->Bool}{listed:Array Bool}{L:Env}{s:St}{E E' H:LH}{S:List Seg}
variable {d:Option Tmp}{x y:Operand}{t u ty e:TypeId}{p:String}{af:Ae_}{g:On_}{v:Value}{i:Nat}{kd:IntKind}
theorem Vo{f:FuncId}{args:Array Operand}{ats:Array TypeId}{vs:Lv_}{R:Value->St->Prop}(U:s.q=false)(Y:Region.ready .any ops listed= [i])
  (Z:ops[i]? =some ⟨d,.call ⟨.value x,args,ats⟩,ty,p,af,g⟩) (ac:ev L x=some (.func (.func f) #[] #[])) (ag:Bd n d=true) (hw:AJ L ops ⟨d,.call ⟨.value x,args,ats⟩,ty,p,af,g⟩=some true) (hb:Dv P f=true) (al:evs L args.toList=some vs)
  (am:EB J f vs.toArray s R) (h:∀v K,R v K->K.q=false/\(∀x o,(Br D s).E x=some o->(Br D K).E x=some o)/\AH J Q b n ds ops k cs m D fuel (A4 listed i) (As L d v) K):
  AH J Q b n ds ops k cs m D (fuel+1) listed L s:=by
 refine AH.one U Y Z (by simp [Eh,ag]) hw λρ O=>?_;have ap:args.map ρ=vs.toArray:=by
  rw [← Gr O al];apply Array.ext';simp
 have aq:ρ x= .func (.func f) #[] #[]:=O _ _ ac;simp only [execOp,resolve,bind,Sem.bind,Deferred.ofValue,aq,pure,invoke];have e: #[]++args.map ρ++ #[]=vs.toArray:=by rw [ap];simp
 rw [e];refine IX hb ?_;rw [KF];exact⟨R,am,h⟩
theorem Jp{bks:List Nat}{f:FuncId}{args:Array Operand}{ats:Array TypeId}{vs:Lv_}{R:Value->LH->Seg->Prop}(am:HD S bks)(ap:AO J f vs E [] R)(aq:Region.ready .any ops listed= [i])
  (av:ops[i]? =some ⟨d,.call ⟨.value x,args,ats⟩,ty,p,af,g⟩) (K:ev L x=some (.func (.func f) #[] #[])) (aw:Bd n d=true) (hw:AJ L ops ⟨d,.call ⟨.value x,args,ats⟩,ty,p,af,g⟩=some true) (hb:Dv P f=true) (ay:evs L args.toList=some vs) (Z:Aq E H S)
  (az:∀v E' seg',Le E E'->R v E' seg'->Aq E' H (S++ [seg'])->AH J Q b n ds ops k cs m (AV bks) fuel (A4 listed i) (As L d v) (Aj E' H (S++ [seg']))):
  AH J Q b n ds ops k cs m (AV bks) (fuel+1) listed L (Aj E H S):=by
 have aI:=EB.Lb (ap (A9 S.flatten H) trivial) (by rintro v s' ⟨E',B',_,_,_,rfl⟩;rfl);refine Vo rfl aq av K aw hw hb ay aI ?_;rintro v aQ ⟨⟨E',B',hle,aJ,aK,rfl⟩,w,aL⟩;have e2:mk E' (A9 S.flatten H) B'=mk E' H (B'++S.flatten):=by unfold mk;rw [FP]
 have aM:Nd E' H S.flatten:=Nd.grow Z λx K=>by
  have aN:=aL.d x K;have U:A9 B' (A9 S.flatten H) x=none:=aN;exact(HW U).1
 have ac:Nd E' H (B'++S.flatten):=Nd.glue aK aM;have ag:(B'++S.flatten).Perm (S++ [B']).flatten:=by rw [G1];exact List.perm_append_comm
 have al:Aq E' H (S++ [B']):=Nd.perm ac ag;rw [e2,EY ac ag];refine⟨rfl,λx o K=>?_,az v E' B' hle aJ al⟩;by_cases hd:AV bks x=true
 ·obtain⟨j,o',Y⟩:=am.mem x (by simpa [AV] using hd);have U:(Aj E H S).get x=some o':=DF (i:=0) Z Y rfl;have aO:j<S.length:=(List.getElem?_eq_some_iff.1 Y).1;have aP:(Aj E' H (S++ [B'])).get x=some o':=DF (i:=0) al (by rw [List.getElem?_append_left aO];exact Y) rfl;have O:(if AV bks x then(Aj E H S).get x else E x)=some o:=K
  show(if AV bks x then(Aj E' H (S++ [B'])).get x else E' x)=some o
  rw [if_pos hd] at O ⊢;rw [aP,← U];exact O
 ·have O:(if AV bks x then(Aj E H S).get x else E x)=some o:=K
  show(if AV bks x then(Aj E' H (S++ [B'])).get x else E' x)=some o
  rw [if_neg hd] at O ⊢;exact hle _ _ O
end
section
variable {P:Program}{J:Judge P}{Q:Gs_}{b:Frame}{n:Nat}{ds:Ld_}{ops:Ao_}{k:Li_}{cs:Lf_}{L:Env}{s:St}{E E' H:LH}{S:List Seg}
variable {d:Option Tmp}{x y:Operand}{t u ty e:TypeId}{p:String}{af:Ae_}{g:On_}{v:Value}{i:Nat}{rest:List Nat}{kd:IntKind}
theorem KP{f:FuncId}{args:Array Operand}{ats:Array TypeId}{vs:Lv_}{R:Value->LH->Seg->Prop}
  (O:AO J f vs E [] R) (U:ops[i]? =some ⟨d,.call ⟨.value x,args,ats⟩,ty,p,af,g⟩) (Y:ev L x=some (.func (.func f) #[] ([]:Lv_).toArray)) (hw:AJ L ops ⟨d,.call ⟨.value x,args,ats⟩,ty,p,af,g⟩=some true) (Z:((b.kind != .early)&&Bd n d)=true) (hb:Dv P f=true)
  (ac:evs L args.toList=some vs) (ag:Aq E H S) (al:∀v E' seg',Le E E'->R v E' seg'->Aq E' H (S++ [seg'])->JL J Q b n (As L d v) ds (.inRegion ops rest::k) cs (Aj E' H (S++ [seg']))):
  JL J Q b n L ds (.inRegion ops (i::rest)::k) cs (Aj E H S):=by
 have am:FZ J (.func (.func f) #[] ([]:Lv_).toArray) vs E [] R:=FZ.ofFn hb (by rw [List.append_nil];exact O);have ap:Aq E H (S++ [[]]):=by unfold Aq at*;rw [G1,List.append_nil];exact ag
 have aq:Aj E H S=Aj E H (S++ [[]]):=by unfold Aj;rw [G1,List.append_nil]
 rw [aq];refine KO (seg:= []) S.length am U hw Z Y ac ap (by simp) λv E' seg' hle av K=>?_;have aw:(S++ [([]:Seg)]).set S.length seg'=S++ [seg']:=I5 _ _ _ _;rw [aw] at K ⊢;exact al v E' seg' hle av K
end
def Lc(a b:Int):Option Int:=if b=0 then none else Aw (a.tdiv b)
def PV(l:List Nat)(i:Int):Option Nat:=if 0<=i then l[i.toNat]? else none
section
variable {P:Program}{s:St}{ρ:Operand->Value}{x y z:Operand}{d:Option Tmp}{t u ty e:TypeId}{p:String}{af:Ae_}{g:On_}{v:Value}{kd kd':IntKind}{m m':Int}{a b:Nat}
theorem MX{r:Int}(K:ρ x=iV m)(O:ρ y=iV m')(h:Lc m m'=some r):Yl P ⟨d,.binOp .quo t x y u,ty,p,af,g⟩ ρ s (iV r):=by
 unfold Lc at h;split at h
 ·cases h
 ·rename_i U;obtain⟨rfl,hb⟩:=KH h;have:=Yl.quo (P:=P) (s:=s) (d:=d) (t:=t) (u:=u) (ty:=ty) (p:=p) (af:=af) (g:=g) K O U
  rwa [Jq hb] at this
theorem aD{a:Nat}:IntKind.u8.wrap (a:Int)=((a % 256:Nat):Int):=by
 simp only [IntKind.wrap,IntKind.bits,IntKind.signed];simp
theorem XJ(K:P.underlying t=some (.int .u64))(hu:P.underlying u=some (.int .u8))(O:ρ x= .int .u64 (a:Int)):Yl P ⟨d,.convert t u x,ty,p,af,g⟩ ρ s (.int .u8 ((a % 256:Nat):Int)):=by
 have h:=EW (P:=P) (s:=s) (d:=d) (ty:=ty) (p:=p) (af:=af) (g:=g) K hu O
 rw [aD] at h;exact h
theorem W6{r:Int}(K:P.underlying t=some (.int .u8))(hu:P.underlying u=some (.int .i64))(O:ρ x= .int .u8 (a:Int))(h:Aw ((a:Nat):Int)=some r):Yl P ⟨d,.convert t u x,ty,p,af,g⟩ ρ s (iV r):=by
 obtain⟨rfl,hb⟩:=KH h;have h:=EW (P:=P) (s:=s) (d:=d) (ty:=ty) (p:=p) (af:=af) (g:=g) K hu O
 rwa [Jq hb] at h
theorem U6{l:List Nat}{bs:ByteArray}{r:Nat}(O:(bs.data.toList.map UInt8.toNat==l)=true)(U:P.underlying t=some .string)(Y:ρ y= .int kd m)(Z:ρ (.const (.string bs))= .string bs)(h:PV l m=some r):Yl P ⟨d,.index t (.const (.string bs)) y,ty,p,af,g⟩ ρ s (.int .u8 (r:Int)):=by
 unfold PV at h;split at h
 ·rename_i ac;have ag:=eq_of_beq O;rw [← ag,List.getElem?_map] at h;obtain⟨K,hb,rfl⟩:=Option.map_eq_some_iff.1 h;have al:bs[m.toNat]? =some K:=by
   have am:bs.data[m.toNat]? =some K:=by rw [← Array.getElem?_toList];exact hb
   obtain⟨ap,aq⟩:=Array.getElem?_eq_some_iff.1 am;rw [getElem?_pos bs m.toNat ap];exact congrArg some aq
  simp [Yl,execOp,lp,pure,bind,Sem.bind,Z,Y,Instr.index,underlying,program,U,ac,al,asIntOf]
 ·cases h
end
end Pal
namespace Pal
open Go Go.Conc
section
variable {P:Program}(J:Judge P)(Q:Gs_)(b:Frame)(ds:Ld_)(ops:Ao_)(k:Li_)(cs:Lf_)(X D:Nat->Bool)
def JB:Nat->Array Bool->Av_->St->Prop
 | 0,listed,T,s=>Region.ready .any ops listed= []/\J.ok Q (G (fr b T ds (.inRegion ops []::k)) cs) s
 | fuel+1,listed,T,s=>
  Region.ready .any ops listed≠ []/\s.q=false/\∀i∈Region.ready .any ops listed,∀o,ops[i]? =some o->(∀c,o.op≠ .defer c)/\
   (Region.wanted o (yielded ops T)=false->JB fuel (A4 listed i) (Cv T o.dst undef) s)/\
   (Region.wanted o (yielded ops T)=true->X i=true->lp P (execOp (Bs T) o) s (λK s'=>match K with
    | .value v=>JB fuel (A4 listed i) (Cv T o.dst v) s'
    | .skip=>JB fuel (A4 listed i) (Cv T o.dst undef) s'
    | _=>False) (λ_ _=>False))/\
   (Region.wanted o (yielded ops T)=true->X i=false->lp P (execOp (Bs T) o) (Br D s) (λK s'=>match K with
    | .value v=>JB fuel (A4 listed i) (Cv T o.dst v) (Cj D s s')
    | .skip=>JB fuel (A4 listed i) (Cv T o.dst undef) (Cj D s s')
    | _=>False) (λ_ _=>False))
variable {J Q b ds ops k cs X D}
theorem WK(Z:b.kind≠ .early):∀(fuel t:Nat) (listed:Array Bool) (T:Av_) (s:St),JB J Q b ds ops k cs X D fuel listed T s->
  J.ok Q (G (fr b T ds (.inRegion ops (Region.linearise.go .any ops fuel t listed [])::k)) cs) s:=by
 intro fuel
 induction fuel with
 | zero=>intro t listed T s h;simpa [Region.linearise.go] using h.2
 | succ fuel O=>
  intro t listed T s h;obtain⟨al,am,h⟩:=h;obtain⟨i,hi⟩:∃i,(Region.ready .any ops listed)[t % (Region.ready .any ops listed).length]? =some i:=by
   have:0<(Region.ready .any ops listed).length:=List.length_pos_iff.2 al;exact⟨_,List.getElem?_eq_getElem (Nat.mod_lt _ this)⟩
  have ac:=List.mem_of_getElem? hi;have hgo:Region.linearise.go .any ops (fuel+1) t listed []=i::Region.linearise.go .any ops fuel (t / (Region.ready .any ops listed).length) (A4 listed i) []:=by
   simp only [Region.linearise.go];change (match(Region.ready .any ops listed)[t % (Region.ready .any ops listed).length]? with
    | some i=>Region.linearise.go .any ops fuel (t / (Region.ready .any ops listed).length) (listed.setIfInBounds i true) [i]
    | none=> [].reverse)=_
   rw [hi];simp only;rw [linearise_go_acc];rfl
  rw [hgo];obtain⟨_,o,U,_⟩:=mem_ready.1 ac;obtain⟨hd,ap,aq,av⟩:=h i ac o U;cases hw:Region.wanted o (yielded ops T) with
  | false=>exact Judge.unwanted U hw (O _ _ _ _ (ap hw))
  | true=>
   cases ag:X i with
   | true=>
    refine Judge.oper U hw Z (.inr hd) (Ee _ (aq hw ag) ?_ (λ_ _ h=>h.elim));intro Y s' K;cases Y with
    | value v=>exact O _ _ _ _ K
    | skip=>exact O _ _ _ _ K
    | _=>exact K.elim
   | false=>
    refine Judge.Sx D U hw Z hd am (Ee _ (av hw ag) ?_ (λ_ _ h=>h));intro Y s' K;cases Y with
    | value v=>exact O _ _ _ _ K
    | skip=>exact O _ _ _ _ K
    | _=>exact K.elim
def waitAll(ops:Ao_)(X:Nat->Bool)(i:Nat):Bool:=(List.range ops.size).all λj=> !X j || waits ops ops.size j i
theorem Ss{D:Nat->Bool}{s s':St}(K:s'.E=(Br D s).E){x:Nat}{o:Obj}(h:s.E x=some o):(Cj D s s').E x=some o:=by
 by_cases hd:D x
 ·simp [Cj,hd,h]
 ·have:=congrFun K x;simp [Br,hd] at this;simp [Cj,hd,this,h]
theorem VW{i:Nat}{oi:Oper}{w pure:Bool}{v:Value}(hi:ops[i]? =some oi)(bl:X i=false)(a8:(pure || waitAll ops X i)=true)(bm:Region.noSelect ops=true)(bn:∀c,oi.op≠ .defer c):
  ∀(fuel:Nat) (listed:Array Bool) (T:Av_) (s:St),IH ops listed i oi=true->Hy ops listed=true->listed.size=ops.size->i∈Region.ready .any ops listed->s.q=false->Region.wanted oi (yielded ops T)=w->
   (w=true->∀s',s'.q=false->(∀x o,s.E x=some o->s'.E x=some o)->(pure=false->∀x o,(Br D s).E x=some o->s'.E x=some o)->Yl P oi (Bs T) s' v)->
   JB J Q b ds ops k cs X D fuel (A4 listed i) (Cv T oi.dst (if w then v else undef)) s->JB J Q b ds ops k cs X D (fuel+1) listed T s:=by
 have av:∀(j:Nat) (am:Oper),ops[j]? =some am->∀cs b,am.op≠Op.select cs b:=λj am h cs b=>Region.noSelect_spec bm j am cs b h;intro fuel
 induction fuel with
 | zero=>?_
 | succ fuel aJ=>?_
 all_goals
  intro listed T s a9 ba aK aW aL hw aw h;refine⟨λe=>(by rw [e] at aW;cases aW),aL,λj bb am U=>?_⟩;by_cases aM:j=i
  ·subst aM;obtain rfl:am=oi:=by rw [hi] at U;exact(Option.some.inj U).symm
   refine⟨bn,λO=>?_,λay K=>?_,λay K=>?_⟩
   ·rw [O] at hw;subst hw;exact h
   ·rw [bl] at K;cases K
   ·rw [ay] at hw;subst hw;refine Ee _ (aw rfl (Br D s) aL (λx o h=>by unfold Br;simp only;split;(· unfold St.get;rw [h]);exact h) λ_ _ _ h=>h).out ?_ (λ_ _ h=>h);rintro aX s' ⟨rfl,rfl⟩;rw [KF];exact h
  ·
   have be:j∈Region.ready .any ops (A4 listed i):=ready_mono bb aM;obtain⟨az,Y,bf,aZ⟩:=mem_ready.1 bb;obtain rfl:Y=am:=by rw [U] at bf;exact(Option.some.inj bf).symm
   have a0:=(mem_ready.1 aW).1;have bo:(Y.after.any λe=>Region.binds .any e&&e.on==i)=false:=by
    rw [Array.any_eq_false];intro e he K;simp only [Bool.and_eq_true,beq_iff_eq] at K;have:=aZ _ (Array.getElem_mem he) K.1;rw [K.2] at this;have aI:listed.getD i true=listed.getD i false∨listed.size<=i:=by
     rcases Nat.lt_or_ge i listed.size with q | q
     ·left;simp [Array.getD_eq_getD_getElem?,q]
     ·exact .inr q
    rcases aI with aI | aI
    ·rw [a0,this] at aI;cases aI
    ·rw [Array.getD_eq_getD_getElem?,Array.getElem?_eq_none aI] at this;simp at this
   have bp:oi.apart ops Y=true:=by
    have a2:j<ops.size:=(Array.getElem?_eq_some_iff.1 U).1;have:=List.all_eq_true.1 a9 j (List.mem_range.2 a2);simp only [Bool.or_eq_true,beq_iff_eq] at this;rcases this with(q | q) | q
    ·exact absurd q aM
    ·rw [az] at q;cases q
    ·rw [U] at q;simp only [Bool.or_eq_true] at q;rw [bo] at q;exact q.resolve_left (by simp)
   obtain⟨a1,aN,aO⟩:=Oper.apart_spec bp;obtain⟨bg,p2⟩:=H0 (ops:=ops) (T:=T) (v:=if w then v else undef) (av j Y U) a1
   first
    | exact absurd be (by rw [h.1];simp)
    | (
     obtain⟨bC,_,h⟩:=h
     obtain⟨hd,O,bq,br⟩:=h j be Y U
     have aP:A4 (A4 listed i) j=A4 (A4 listed j) i:=by
      unfold A4;exact Array.setIfInBounds_comm _ _ (Ne.symm aM)
     have aQ:i∈Region.ready .any ops (A4 listed j):=ready_mono aW (Ne.symm aM)
     have aR:IH ops (A4 listed j) i oi=true:=by
      refine List.all_eq_true.2 λx K=>?_
      have:=List.all_eq_true.1 a9 x K
      simp only [Bool.or_eq_true,beq_iff_eq] at this ⊢
      rcases this with(q | q) | q
      ·exact .inl (.inl q)
      ·left;right
       by_cases e:j=x
       ·subst e;rw [az] at q;cases q
       ·rw [A4,getD_set_ne true e];exact q
      ·exact .inr q
     have aS:(A4 listed j).size=ops.size:=by unfold A4;simpa using aK
     have aT:Hy ops (A4 listed j)=true:=by
      refine List.all_eq_true.2 λx K=>?_
      cases a3:ops[x]? with
      | none=>simp
      | some bu=>
       simp only [Bool.or_eq_true,Bool.not_eq_true']
       by_cases e:j=x
       ·subst e
        obtain rfl:bu=Y:=by rw [U] at a3;exact(Option.some.inj a3).symm
        right
        refine Array.all_eq_true'.2 λe he=>?_
        cases hb:Region.binds .any e with
        | false=>simp
        | true=>
         have:=aZ e he hb
         by_cases e2:j=e.on
         ·rw [← e2] at this
          have a4:j<listed.size:=by rw [aK];exact(Array.getElem?_eq_some_iff.1 U).1
          simp [Array.getD_eq_getD_getElem?,a4] at this az
          rw [az] at this;cases this
         ·rw [A4,getD_set_ne false e2];simpa using this
       ·cases bh:(A4 listed j).getD x false with
        | false=>exact .inl rfl
        | true=>
         right
         have bv:listed.getD x false=true:=by rw [A4,getD_set_ne false e] at bh;exact bh
         refine Array.all_eq_true'.2 λa5 he=>?_
         cases hb:Region.binds .any a5 with
         | false=>simp
         | true=>
          have:=Og ba a3 bv a5 he hb
          by_cases e2:j=a5.on
          ·rw [← e2] at this
           have a4:j<listed.size:=by rw [aK];exact(Array.getElem?_eq_some_iff.1 U).1
           simp [Array.getD_eq_getD_getElem?,a4] at this az
           rw [az] at this;cases this
          ·rw [A4,getD_set_ne false e2];simpa using this
     refine⟨hd,λbw=>?_,λa6 aY=>?_,λa6 aY=>?_⟩
     ·have:=O (by rw [p2];exact bw)
      rw [aP,IZ aN] at this
      obtain⟨Z,ac⟩:=H0 (ops:=ops) (T:=T) (d:=Y.dst) (v:=undef) (o:=oi) (av i oi hi) aO
      exact aJ _ _ _ aR aT aS aQ aL (by rw [ac];exact hw) (λag s' bx O al=>by unfold Yl;rw [Z];exact(aw ag s' bx O al).out) this
     ·
      have bz:pure=true:=by
       cases bA:pure with
       | true=>rfl
       | false=>
        exfalso
        rw [bA,Bool.false_or] at a8
        have a2:j<ops.size:=(Array.getElem?_eq_some_iff.1 U).1
        have ay:=List.all_eq_true.1 a8 j (List.mem_range.2 a2)
        rw [aY] at ay
        simp only [Bool.not_true,Bool.false_or] at ay
        rcases Qh ba _ j Y U (λe he hb=>aZ e he hb) ay with q | ⟨x,Z,ac⟩
        ·have bB:i<listed.size:=by rw [aK];exact(Array.getElem?_eq_some_iff.1 hi).1
         simp [Array.getD_eq_getD_getElem?,bB] at q a0
         rw [a0] at q;cases q
        ·have:¬x<listed.size:=by rw [aK];intro K;simp [K] at Z
         simp [Array.getD_eq_getD_getElem?,this] at ac
      have aU:=NP _ (bq (by rw [p2];exact a6) aY)
      rw [bg] at aU
      refine Ee _ aU ?_ (λ_ _ h=>h)
      rintro aX s' ⟨K,al,a7⟩
      have aV:s'.q=false:=a7.trans aL
      have bi:pure=false->∀{α:Prop},α:=λe=>by rw [bz] at e;cases e
      cases aX with
      | value u=>
       simp only at K ⊢
       rw [aP,IZ aN] at K
       obtain⟨Z,ac⟩:=H0 (ops:=ops) (T:=T) (d:=Y.dst) (v:=u) (o:=oi) (av i oi hi) aO
       exact aJ _ _ _ aR aT aS aQ aV (by rw [ac];exact hw) (λag s2 ap O aq=>by unfold Yl;rw [Z];exact(aw ag s2 ap (λx o h=>O x o (by rw [al];exact h)) (λe=>bi e)).out) K
      | skip=>
       simp only at K ⊢
       rw [aP,IZ aN] at K
       obtain⟨Z,ac⟩:=H0 (ops:=ops) (T:=T) (d:=Y.dst) (v:=undef) (o:=oi) (av i oi hi) aO
       exact aJ _ _ _ aR aT aS aQ aV (by rw [ac];exact hw) (λag s2 ap O aq=>by unfold Yl;rw [Z];exact(aw ag s2 ap (λx o h=>O x o (by rw [al];exact h)) (λe=>bi e)).out) K
      | _=>exact K.elim
     ·have aU:=NP _ (br (by rw [p2];exact a6) aY)
      rw [bg] at aU
      refine Ee _ aU ?_ (λ_ _ h=>h)
      rintro aX s' ⟨K,al,a7⟩
      have bj:=Qp (D:=D) al
      have aV:(Cj D s s').q=false:=by show s'.q=false;rw [a7];exact aL
      cases aX with
      | value u=>
       simp only at K ⊢
       rw [aP,IZ aN] at K
       obtain⟨Z,ac⟩:=H0 (ops:=ops) (T:=T) (d:=Y.dst) (v:=u) (o:=oi) (av i oi hi) aO
       exact aJ _ _ _ aR aT aS aQ aV (by rw [ac];exact hw) (λag s2 ap O aq=>by unfold Yl;rw [Z];exact(aw ag s2 ap (λx o h=>O x o (Ss al h)) (λe=>by rw [bj] at aq;exact aq e)).out) K
      | skip=>
       simp only at K ⊢
       rw [aP,IZ aN] at K
       obtain⟨Z,ac⟩:=H0 (ops:=ops) (T:=T) (d:=Y.dst) (v:=undef) (o:=oi) (av i oi hi) aO
       exact aJ _ _ _ aR aT aS aQ aV (by rw [ac];exact hw) (λag s2 ap O aq=>by unfold Yl;rw [Z];exact(aw ag s2 ap (λx o h=>O x o (Ss al h)) (λe=>by rw [bj] at aq;exact aq e)).out) K
      | _=>exact K.elim)
end
section
variable {P:Program}(J:Judge P)(Q:Gs_)(b:Frame)(n:Nat)(ds:Ld_)(ops:Ao_)(k:Li_)(cs:Lf_)(X D:Nat->Bool)
def Gi(fuel:Nat)(listed:Array Bool)(L:Env)(s:St):Prop:=∀T,Has n L T->JB J Q b ds ops k cs X D fuel listed T s
end
theorem JB.take{i:Nat}{oi:Oper}{w pure:Bool}{v:Value}{P:Program}{J:Judge P}{Q:Gs_}{b:Frame}{ds:Ld_}{ops:Ao_}{k:Li_}{cs:Lf_}{X D:Nat->Bool}(hi:ops[i]? =some oi)(K:X i=false)(O:(pure || waitAll ops X i)=true)(U:Region.noSelect ops=true)(Y:∀c,oi.op≠ .defer c)
  (fuel:Nat) (listed:Array Bool) (T:Av_) (s:St) (Z:IH ops listed i oi=true) (ac:Hy ops listed=true) (ag:listed.size=ops.size) (al:i∈Region.ready .any ops listed) (am:s.q=false) (ap:Region.wanted oi (yielded ops T)=w)
  (aq:w=true->∀s',s'.q=false->(pure=false->∀x o,(Br D s).E x=some o->s'.E x=some o)->Yl P oi (Bs T) s' v)
  (h:JB J Q b ds ops k cs X D fuel (A4 listed i) (Cv T oi.dst (if w then v else undef)) s):JB J Q b ds ops k cs X D (fuel+1) listed T s:=
 VW hi K O U Y fuel listed T s Z ac ag al am ap (λe s' av _ aw=>aq e s' av aw) h
def Lh(ops:Ao_)(listed:Array Bool)(xs:List Nat)(pure:Bool)(i:Nat):Bool:=match ops[i]? with
 | some oi=> !AV xs i&&(pure || waitAll ops (AV xs) i)&&Region.noSelect ops&& !Eh oi.op&&IH ops listed i oi&&Hy ops listed&&listed.size==ops.size&&(Region.ready .any ops listed).contains i
 | none=>false
section
variable {P:Program}{J:Judge P}{Q:Gs_}{b:Frame}{n:Nat}{ds:Ld_}{ops:Ao_}{k:Li_}{cs:Lf_}{fuel:Nat}{X D:Nat->Bool}{listed:Array Bool}{L:Env}{s:St}{E H:LH}{S:List Seg}{xl bks:List Nat}
variable {d:Option Tmp}{x y:Operand}{t u ty e:TypeId}{p:String}{af:Ae_}{g:On_}{v:Value}{i:Nat}{kd:IntKind}
theorem IG(xl bks:List Nat){id:Nat}(hm:P.follows .mixedOrders=true)(K:(b.kind != .early)=true)
  (h:Gi J Q b n ds ops k cs (AV xl) (AV bks) ops.size (Array.replicate ops.size false) L (Aj E H S)):JL J Q b n L ds (.code (.region id ops true)::k) cs (Aj E H S):=
 Se rfl hm λt T O=>WK (by simpa using K) ops.size t _ T _ (h T O)
theorem JB.val{oi:Oper}(i:Nat)(pure:Bool)(hi:ops[i]? =some oi)(K:Lh ops listed xl pure i=true)(Y:s.q=false)
  (hw:AJ L ops oi=some true) (Z:Bd n oi.dst=true) (ac:∀ρ,EL L ρ->∀s':St,(pure=false->∀x o,(Br D s).E x=some o->s'.E x=some o)->Yl P oi ρ s' v)
  (h:Gi J Q b n ds ops k cs (AV xl) D fuel (A4 listed i) (As L oi.dst v) s):Gi J Q b n ds ops k cs (AV xl) D (fuel+1) listed L s:=λT O=>by
 simp only [Lh,hi,Bool.and_eq_true] at K
 obtain⟨⟨⟨⟨⟨⟨⟨ag,al⟩,am⟩,U⟩,ap⟩,aq⟩,av⟩,aw⟩:=K
 refine JB.take (w:=true) (v:=v) (pure:=pure) hi (by simpa using ag) al am (λc K=>by rw [K] at U;simp [Eh] at U) fuel listed T s ap aq (by simpa using av) (by simpa using aw) Y (B3 O hw) (λ_ s' az ay=>ac _ O.Gb s' ay) ?_
 exact h _ (O.put Z v)
theorem JB.fin(K:Region.ready .any ops listed= [])(h:JL J Q b n L ds k cs s):Gi J Q b n ds ops k cs X D 0 listed L s:=λT O=>⟨K,JL.done h T O⟩
theorem JB.store{bk off:Nat}{c:Av_}(i j:Nat)(U:Region.ready .any ops listed= [i])(ag:AV xl i=true)(al:ops[i]? =some ⟨d,.store t x y,ty,p,af,g⟩)(hw:AJ L ops ⟨d,.store t x y,ty,p,af,g⟩=some true)(am:Bd n d=true)(ap:Aq E H S)
  (aq:ev L x=some (.pointer (some ⟨bk,off,none⟩))) (av:ev L y=some v) (aw:Bh P t=some v.cells.size) (ay:∀u∈v.cells.toList,CW u=true) (Y:S[j]? =some [(bk,.cells c e (0,0))]) (hle:off+v.cells.size<=c.size)
  (h:Aq E H (S.set j [(bk,.cells (A8 c off v.cells.toList) e (0,0))])->Gi J Q b n ds ops k cs (AV xl) D fuel (A4 listed i) (As L d undef) (Aj E H (S.set j [(bk,.cells (A8 c off v.cells.toList) e (0,0))]))):
  Gi J Q b n ds ops k cs (AV xl) D (fuel+1) listed L (Aj E H S):=λT K=>by
 refine⟨by rw [U];simp,rfl,λaO O o' Z=>?_⟩
 rw [U] at O
 simp at O
 subst O
 obtain rfl:o'=⟨d,.store t x y,ty,p,af,g⟩:=by rw [al] at Z;exact(Option.some.inj Z).symm
 have az:=B3 K hw;refine⟨λc aI=>(by cases aI),λe=>?_,λ_ _=>?_,λ_ e=>?_⟩
 ·rw [az] at e;cases e
 ·obtain⟨aJ,aK⟩:=G4 ap Y;rw [aJ];show lp P (do Instr.storeAt t (Bs T x) (Bs T y);pure Next.skip) _ _ _
  rw [K.ev aq,K.ev av];refine Au _ _ ?_;unfold Instr.storeAt;simp only [Instr.sureAddr,bind,Sem.bind,pure];refine Qn (pl:=(S.set j []).flatten.length) aw ay aK (c:=c) (e:=e) (by simp) hle λac=>?_;have aL:((S.set j []).flatten++ [(bk,Obj.cells c e (0,0))]).set (S.set j []).flatten.length (bk,.cells (A8 c off v.cells.toList) e (0,0))=(S.set j []).flatten++ [(bk,.cells (A8 c off v.cells.toList) e (0,0))]:=I5 _ _ _ _;rw [aL] at ac ⊢;obtain⟨aM,aN⟩:=I7 Y ac;rw [aM];exact h aN _ (K.put am undef)
 ·rw [ag] at e;cases e
end
end Pal
namespace Pal
open Go Go.Conc
theorem Mz{E H:LH}{S:List Seg}{bks:List Nat}{bk o:Nat}{l ws:Lv_}{e:TypeId}{f:Nat×Nat}{s':St}{w:Value}(j:Nat)(K:Aq E H S)(O:S[j]? =some [(bk,.cells (l++ws).toArray e f)])(U:AV bks bk=true)(Y:∀x o,(Br (AV bks) (Aj E H S)).E x=some o->s'.E x=some o)(Z:ws[o]? =some w):s'.cell? ⟨bk,l.length+o,none⟩=some w:=by
 have:=WV j K O U Y o w Z
 rwa [Dz rfl] at this
section
variable {P:Program}{E H:LH}{B:List (Nat×Obj)}{t e ty:TypeId}
theorem Qa{ats:Array TypeId}{a:Option Addr}{l K O m cx:Nat}{ax:Option Addr}{xs ys:Lv_}{z:Value}{Q:Value->St->Prop}{X:Halt->St->Prop}
  (aI:ats[0]? =some t) {t1 aJ:TypeId} (aK:ats[1]? =some t1) (aL:P.underlying t1=some (.slice aJ)) (aM:P.underlying t=some (.slice e)) (aN:Bh P e=some K) (hb:FE P e=some O) (aO:zeroOf P e=some z) (aP:z.cells.size=K)
  (aQ:Nd E H B) (al:HA (mk E H B) (.slice a l l) K xs)
  (Z:HA (mk E H B) (.slice ax m cx) K ys) (aZ:∀w∈ys,CW w=true) (a0:0<O) (a1:l+m<=2 ^ 40) (aR:O<=64)
  (ay:m=0->Q (.slice a (l+m) l) (mk E H B))
  (aS:∀r ac am,l+m<=am->ac.size=am*K->ac.toList.take ((l+m)*K)=xs++ys->Nd E H (B++ [(r,.cells ac e (0,0))])->Q (.slice (some ⟨r,0,none⟩) (l+m) am) (mk E H (B++ [(r,.cells ac e (0,0))]))):
  lp P (Builtin.append_ ats ty #[.slice a l l,.slice ax m cx]) (mk E H B) Q X:=by
 unfold Builtin.append_;simp only [aI,aK,List.getElem?_toArray,List.getElem?_cons_zero,List.getElem?_cons_succ];refine Au _ _ (Cg aM ?_);refine Au _ _ (EH aN ?_);refine Au _ _ (Cg aL ?_);simp only [HX,Bool.false_eq_true,if_false,Builtin.lenOf,Bool.not_false,if_true];have ag:ys.length=m*K:=by
  cases ax with
  | none=>obtain⟨U,Y⟩:=Z;subst U Y;simp
  | some ad=>exact Z.2.1
 have ap:xs.length=l*K:=by
  cases a with
  | none=>obtain⟨U,Y⟩:=al;subst U Y;simp
  | some ad=>exact al.2.1
 obtain⟨c,a2⟩:∃c,c=l:=⟨_,rfl⟩;split
 ·rename_i a3;have hm:m=0:=by omega
  have aT:ys= []:=List.eq_nil_of_length_eq_zero (by rw [ag,hm];simp);refine Au _ _ (J3 ⟨ax,cx,rfl⟩ Z ?_);subst aT;cases a with
  | none=>exact ay hm
  | some ad=>exact ay hm
 ·rename_i a4;have U:¬(((l+m:Nat):Int)>IntKind.i64.max/\(False∨O=0)):=by rintro⟨_,h | h⟩ <;> omega
  have Y:¬(Builtin.nextslicecap (l+m) l*O>2 ^ 48):=by
   have:=Qz (need:=l+m) (old:=l) (by omega);have a5:Builtin.nextslicecap (l+m) l*O<=(2*(l+m)+768)*64:=Nat.mul_le_mul this aR;omega
  obtain⟨inf,aq,av⟩:=OA hb;refine Au _ _ (J4 aq ?_);rw [av,if_neg U];refine Au _ _ (J4 aq ?_);rw [av,if_neg Y];refine Au _ _ ?_;simp only [choose,lp,Question.forced,Bool.false_eq_true,if_false];refine⟨rfl,λaU=>?_⟩;generalize aV:(Question.appendCap (l+m) l e).cut aU=aw;have aW:l+m<=aw:=by rw [← aV];simp [Question.cut]
  refine Au _ _ (J4 aq ?_);rw [av];have aX:∀{α:Type} {f:Unit->Sem α} {Q:α->St->Prop},lp P (f ()) (mk E H B) Q X->lp P (askRoom (aw*O)>>=f) (mk E H B) Q X:=by
   intro α f Q az;refine Au _ _ ?_;unfold askRoom;split
   ·exact⟨.inl ⟨rfl,rfl⟩,az⟩
   ·exact az
  refine aX (Au _ _ (J3 ⟨a,l,rfl⟩ al ?_));refine Au _ _ (J3 ⟨ax,cx,rfl⟩ Z ?_);refine Au _ _ (Ho aO ?_);refine Au _ _ (I0 aQ λr aY=>?_);refine aS r _ aw aW ?_ ?_ aY
  ·simp only [Array.size_append,List.size_toArray,P8,aP,ap,ag];rw [← Nat.add_mul,← Nat.add_mul];congr 1;omega
  ·simp only [Array.toList_append];rw [List.take_append_of_le_length (by simp [ap,ag,Nat.add_mul])];rw [List.take_of_length_le (by simp [ap,ag,Nat.add_mul])]
end
theorem Am.spot{α:Type}{pp:Rp α}{E:LH}{a:Option Addr}{c:Nat}{xs:List α}(h:Am pp E a c xs):∀ad,a=some ad->ad.spot=none∨c=0:=λad K=>by
 rcases h.2 with⟨_,h⟩ | ⟨bk,off,h,_⟩
 ·exact h ad K
 ·rw [h] at K;cases K;exact .inl rfl
theorem Am.full{α:Type}{pp:Rp α}{E:LH}{a:Option Addr}{c:Nat}{xs:List α}(h:Am pp E a c xs):Am pp E a xs.length xs:=⟨Nat.le_refl _,h.2.imp (λ⟨h,_⟩=>⟨h,λ_ _=> .inr (by rw [h];rfl)⟩) id⟩
theorem Am.LB{α:Type}{pp:Rp α}{E H:LH}{B:List (Nat×Obj)}{a:Option Addr}{c:Nat}{ys:List α}(ac:Am pp E a c ys):
  ∃K:List (Lv_),K.length=ys.length/\(∀(i:Nat) x ws,ys[i]? =some x->K[i]? =some ws->pp.r E ws x)/\HA (mk E H B) (.slice a ys.length c) pp.n K.flatten/\∀w∈K.flatten,CW w=true:=by
 obtain⟨K,U,Z,Y⟩:=ac.rows;have ag:=H5 U Z;refine⟨K,U,Z,?_,λw hw=>?_⟩
 ·rcases Y with⟨Y,aw⟩ | ⟨bk,off,rfl,Y⟩
  ·subst Y;have:K= []:=List.eq_nil_of_length_eq_zero U;subst this;cases a with
   | none=>exact⟨rfl,rfl⟩
   | some ad=>exact⟨.inr rfl,by simp,Nat.zero_le _,λq w O=>by simp at O⟩
  ·refine⟨.inl rfl,by rw [Lp ag,U],ac.1,λq w O=>?_⟩;obtain⟨al,m,ws,am,e2,ap⟩:=Of ag O;have:=(Y al ws am).cell (H:=H) (B:=B) e2;subst ap;rw [← Nat.add_assoc];exact this
 ·obtain⟨us,aq,hw⟩:=List.mem_flatten.1 hw;obtain⟨q,O⟩:=List.mem_iff_getElem?.1 aq;have av:q<ys.length:=by rw [← U];exact(List.getElem?_eq_some_iff.1 O).1
  exact pp.one (Z q _ us (List.getElem?_eq_getElem av) O) w hw
section
variable {P:Program}{J:Judge P}{Q:Gs_}{b:Frame}{n:Nat}{ds:Ld_}{ops:Ao_}{k:Li_}{cs:Lf_}{L:Env}{s:St}{E E' H:LH}{S:List Seg}
variable {d:Option Tmp}{x y z1:Operand}{t u ty e:TypeId}{p:String}{af:Ae_}{g:On_}{v:Value}{i:Nat}{rest:List Nat}{kd:IntKind}{ρ:Operand->Value}
theorem Qu{a:Option Addr}{l c K:Nat}(O:∀ad,a=some ad->ad.spot=none∨c=0)(U:l<=c)(Y:P.underlying t=some (.slice e))(Z:Bh P e=some K)(ac:ρ x= .slice a l c)(ag:ρ y=iV (l:Int))(al:ρ z1=iV (l:Int)):
  Yl P ⟨d,.slice t x none (some y) (some z1),ty,p,af,g⟩ ρ s (.slice a l l):=by
 have h:=Yl.slice (P:=P) (s:=s) (d:=d) (ty:=ty) (p:=p) (af:=af) (g:=g) (olo:=none) (ohi:=some y) (omx:=some z1) (lo:=0) (hi:=l) (mx:=l) Y Z ac al ag rfl U (Nat.le_refl _) (Nat.zero_le _);have am:(if l=0 then a else a.map (·.add (0*K)))=a:=by
  split
  ·rfl
  ·cases a with
   | none=>rfl
   | some ad=>
    have:=(O ad rfl).resolve_right (by omega);simp only [Option.map_some,Nat.zero_mul];rw [Dz this];obtain⟨b,o,sp⟩:=ad;simp only at this;subst this;simp
 rw [am] at h;simpa using h
theorem UP{α:Type}{pp:Rp α}{t1:TypeId}{Y c cx:Nat}{a ax:Option Addr}{xs ys Z:List α}{ats:Array TypeId}{z:Value}(U:C3 xs ys=some Z)
  (aw:ops[i]? =some ⟨d,.call ⟨.builtin .append,#[x,y],ats⟩,ty,p,af,g⟩) (hw:AJ L ops ⟨d,.call ⟨.builtin .append,#[x,y],ats⟩,ty,p,af,g⟩=some true) (ay:BH b n ⟨d,.call ⟨.builtin .append,#[x,y],ats⟩,ty,p,af,g⟩=true)
  (az:ev L x=some (.slice a xs.length xs.length)) (aI:ev L y=some (.slice ax ys.length cx)) (aJ:ats[0]? =some t) (aK:ats[1]? =some t1) (aL:P.underlying t=some (.slice e)) (aM:P.underlying t1=some (.slice e)) (aN:Bh P e=some pp.n) (hb:FE P e=some Y) (aO:zeroOf P e=some z) (aP:z.cells.size=pp.n)
  (aQ:0<Y) (aR:Y<=64) (ac:Am pp E a c xs) (aS:Am pp E ax cx ys) (ag:Aq E H S)
  (h:∀E' al K,Le E E'->Am pp E' al K Z->Aq E' H (S++ [[]])->JL J Q b n (As L d (.slice al Z.length K)) ds (.inRegion ops rest::k) cs (Aj E' H (S++ [[]]))):
  JL J Q b n L ds (.inRegion ops (i::rest)::k) cs (Aj E H S):=by
 unfold C3 at U;split at U
 rotate_left
 ·cases U
 rename_i aT;cases U;obtain⟨wss,am,aU,aV,bb⟩:=Am.LB (H:=H) (B:=S.flatten) ac.full;obtain⟨aW,aX,aY,aZ,a0⟩:=Am.LB (H:=H) (B:=S.flatten) aS;have hlen:(xs++ys).length=xs.length+ys.length:=by simp
 show JL J Q b n L ds (.inRegion ops (i::rest)::k) cs (mk E H S.flatten);refine JL.op aw hw ay λρ ap=>?_;rw [Lo,ap x _ az,ap y _ aI];refine Au _ _ (Qa aJ aK aM aL aN hb aO aP ag aV aZ a0 aQ aT aR ?_ ?_)
 ·intro hm;have a1:ys= []:=List.eq_nil_of_length_eq_zero hm;subst a1;have a2:Aq E H (S++ [[]]):=by unfold Aq at*;rw [G1,List.append_nil];exact ag
  have a3:mk E H S.flatten=Aj E H (S++ [[]]):=by unfold Aj;rw [G1,List.append_nil]
  rw [a3];have:=h E a xs.length (Le.refl _) (by rw [List.append_nil];exact ac.full) a2;rw [hlen] at this;exact this
 ·intro r O K a4 a5 a6 a7;have a8:OL e pp E (some ⟨r,0,none⟩) K [(r,.cells O e (0,0))] (xs++ys):=
   ⟨wss++aW,.inr ⟨r,O,rfl,rfl,a5,by rw [hlen];exact a4,by rw [hlen,List.flatten_append];exact a6.symm⟩,by simp [am,aX],Mw am aU aY⟩
  have aq:=Fz (S:=S) (seg:= [(r,.cells O e (0,0))]) a7;show JL J Q b n _ ds _ cs (mk E H (S.flatten++ [(r,.cells O e (0,0))]));rw [aq.1];refine B8 S.length a8 aq.2 (by simp) λE' hle a9 av=>?_;have ba:(S++ [[(r,Obj.cells O e (0,0))]]).set S.length []=S++ [[]]:=I5 _ _ _ _;rw [ba] at av ⊢;have:=h E' (some ⟨r,0,none⟩) K hle a9 av;rw [hlen] at this;exact this
end
end Pal
