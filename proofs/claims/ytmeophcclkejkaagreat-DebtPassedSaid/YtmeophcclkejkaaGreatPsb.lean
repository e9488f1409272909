/- DebtPassed, row of debt: for every input the law is true and its argument reads behind the call as before it. Part 2 of 8. -/
import Derived.Test.YtmeophcclkejkaaGreatPsa
import Derived.Conc.WgLib
import Derived.Conc.WgArith
import Derived.Conc.WgGenW
set_option linter.all false
set_option maxRecDepth 100000
namespace Pal
open Go Go.Conc
open Go.ConcN (upd upd_same upd_ne sumTo sumTo_upd sumTo_upd_out sumTo_congr le_sumTo sumTo_le)
def cU:Nx->Nat
 | .ph (.G9 _) | .ph .HI | .ph .Gr | .ph .II | .ph .Hc | .ph (.lk _ _)=>1
 | _=>0
def cL:Nx->Nat
 | .ph .GH | .ph .G5=>1
 | _=>0
def cS:Nx->Nat
 | .ph .Fe=>1
 | _=>0
def pend:Nx->Nat
 | .ph (.Ip _) | .ph (.HB _) | .ph (.GQ _) | .ph (.FF _)=>1
 | _=>0
def got:Nx->List Nat
 | .ph (.FB K _)=>K
 | _=> []
def Nw:Nx->Prop
 | .gone _=>True
 | _=>False
def Hu(n j:Nat)(c:Bool):Ph->Prop
 | .F9 K | .Ii K | .Ip K | .HB K | .GQ K | .FF K=>K=j/\j<n/\c=false
 | .GL=>j=n/\c=false
 | .FB _ _=>j=n/\c=true
 | _=>False
def GG(F:Fam)(k:Nat):Nx->Prop
 | .gone _=>True
 | .ph (.G9 k')=>k'=k/\F.has k=true
 | .ph (.lk k' _)=>k'=k
 | .ph .HI | .ph .Gr | .ph .II | .ph .Hc | .ph .GH | .ph .G5 | .ph .Fe=>True
 | _=>False
def I7:Nx->Prop
 | .gone _=>True
 | .ph .Db | .ph (.FP _) | .ph (.Ha _) | .ph .Im | .ph .HK | .ph .Ft | .ph .G6 | .ph .FU | .ph .Ic | .ph .Gc | .ph .Hv=>True
 | _=>False
def Dm(x:Nx)(v wt sm L S:Nat)(cl:Bool):Prop:=
 match x with
 | .ph .Db=>L=0/\S=0/\sm=0/\wt=0/\cl=false
 | .ph (.FP m)=>L=0/\S=0/\sm=0/\wt=0/\cl=false/\v<=m
 | .ph (.Ha m)=>L=0/\S=0/\sm=0/\wt=0/\cl=false/\v<=m/\1<=m
 | .ph .Im | .ph .HK | .ph .Ft=>L+S+sm+min v 1=1/\wt=L+min v 1/\cl=false
 | .ph .G6 | .ph .FU | .ph .Ic | .ph .Gc | .ph .Hv=>L=0/\S=0/\sm=0/\wt=0/\v=0/\cl=false
 | .gone _=>L=0/\S=0/\sm=0/\wt=0/\v=0/\cl=true
 | _=>False
structure Cv (F:Fam) (N0 N j:Nat) (c:Bool) (φ:Nat->Nx) (v wt sm:Nat) (cl:Bool):Prop where
 pos:0<N0
 n1:1<=F.n
 HH:F.n<2147483647
 size:N=N0+j+c.toNat
 jn:j<=F.n
 cj:c=true->j=F.n
 main:∃p,φ 0= .ph p/\Hu F.n j c p
 old:∀i,0<i->i<N0->Nw (φ i)
 work:∀k,k<j->GG F k (φ (N0+k))
 cls:c=true->I7 (φ (N0+F.n))
 cnt:v=sumTo N (λi=>cU (φ i))+pend (φ 0)
 JU:v<=j+pend (φ 0)
 mode:Dm (if c=true then φ (N0+F.n) else .ph .Db) v wt sm (sumTo N λi=>cL (φ i)) (sumTo N λi=>cS (φ i)) cl
 Kt:∀k,k<j->F.has k=true->(φ (N0+k)= .ph (.G9 k)↔k ∉ got (φ 0))
 nd:(got (φ 0)).Nodup
 sub:∀k∈got (φ 0),k<j/\F.has k=true
section
variable {F:Fam}{N0 N j:Nat}{c:Bool}{φ:Nat->Nx}{v wt sm v' wt' sm':Nat}{cl cl':Bool}
theorem Cv.Ew(h:Cv F N0 N j c φ v wt sm cl){i:Nat}(hi:i<N):i=0∨(0<i/\i<N0)∨(∃k,k<j/\i=N0+k)∨(c=true/\i=N0+F.n):=by
 have:=h.size;rcases Nat.eq_zero_or_pos i with K | K
 ·exact .inl K
 rcases Nat.lt_or_ge i N0 with U | U
 ·exact .inr (.inl ⟨K,U⟩)
 rcases Nat.lt_or_ge i (N0+j) with Y | Y
 ·exact .inr (.inr (.inl ⟨i - N0,by omega,by omega⟩))
 ·cases O:c with
  | false=>rw [O] at this;simp at this;omega
  | true=>have e:=h.cj O;rw [O] at this;simp at this;exact .inr (.inr (.inr ⟨rfl,by omega⟩))
theorem Cv.Qa(h:Cv F N0 N j c φ v wt sm cl):v<=F.n:=by
 have K:=h.JU;obtain⟨p,O,hm⟩:=h.main;have:=h.jn;rw [O] at K;cases p <;> simp [Hu] at hm <;> simp [pend] at K <;> omega
theorem Cv.Ig(h:Cv F N0 N j c φ v wt sm cl){k:Nat}(ag:k<j){x:Nx}(al:GG F k x)(am:∀k',φ (N0+k)≠ .ph (.G9 k'))(an:∀k',x≠ .ph (.G9 k'))
  (az:v'+cU (φ (N0+k))=v+cU x)
  (hm:∀L S,L+cL (φ (N0+k))=(sumTo N λi=>cL (φ i))+cL x->S+cS (φ (N0+k))=(sumTo N λi=>cS (φ i))+cS x->Dm (if c=true then φ (N0+F.n) else .ph .Db) v' wt' sm' L S cl'):
  Cv F N0 N j c (upd φ (N0+k) x) v' wt' sm' cl':=by
 have aA:=h.size;have aB:=h.jn;have aC:=h.pos;have Y:N0+k<N:=by omega
 have K:upd φ (N0+k) x 0=φ 0:=upd_ne _ _ (by omega);have ao:(if c=true then upd φ (N0+k) x (N0+F.n) else .ph .Db)=(if c=true then φ (N0+F.n) else .ph .Db):=by
  cases O:c with
  | false=>rfl
  | true=>have:=h.cj O;simp only [if_true];exact upd_ne _ _ (by omega)
 have s1:=sumTo_upd φ x cU Y;have s2:=sumTo_upd φ x cL Y;have ap:=sumTo_upd φ x cS Y;have aD:=h.cnt;have aE:=h.JU;refine⟨h.pos,h.n1,h.HH,h.size,h.jn,h.cj,by rw [K];exact h.main,λi aq ar=>by rw [upd_ne _ _ (by omega)];exact h.old i aq ar,λk' U=>?_,λO=>?_,by rw [K];omega,?_,?_,λk' U hh=>?_,by rw [K];exact h.nd,by rw [K];exact h.sub⟩
 ·by_cases e:k'=k
  ·subst e;rw [upd_same];exact al
  ·rw [upd_ne _ _ (by omega)];exact h.work k' U
 ·have:=h.cj O;rw [upd_ne _ _ (by omega)];exact h.cls O
 ·rw [K];have:cU x<=1:=by cases x with
   | gone d=>simp [cU]
   | ph p=>cases p <;> simp [cU]
  have hw:=h.work k ag;have key:cU x<=cU (φ (N0+k))∨cU (φ (N0+k))<cU x:=by omega
  rcases key with hle | aF
  ·omega
  ·
   have:(sumTo N λa=>cU (upd φ (N0+k) x a))<=j:=by
    have hb:∀M,M<=N->(sumTo M λa=>cU (upd φ (N0+k) x a))<=min (M - N0) j:=by
     intro M
     induction M with
     | zero=>intro _;simp [sumTo]
     | succ M au=>
      intro aG;have:=au (by omega);simp only [sumTo];have aH:cU (upd φ (N0+k) x M)<=1:=by
       generalize upd φ (N0+k) x M=y;cases y with
       | gone d=>simp [cU]
       | ph p=>cases p <;> simp [cU]
      have ac:(M<N0∨N0+j<=M)->cU (upd φ (N0+k) x M)=0:=by
       intro aI;rw [upd_ne _ _ (by omega)];rcases h.Ew (i:=M) (by omega) with rfl | ⟨a,b⟩ | ⟨k',a,rfl⟩ | ⟨a,rfl⟩
       ·obtain⟨p,av,hm⟩:=h.main;rw [av];cases p <;> simp [Hu] at hm <;> rfl
       ·have:=h.old M a b;cases Z:φ M with
        | gone d=>rfl
        | ph p=>rw [Z] at this;exact this.elim
       ·omega
       ·have:=h.cls a;cases Z:φ (N0+F.n) with
        | gone d=>rfl
        | ph p=>rw [Z] at this;cases p <;> simp [I7] at this <;> rfl
      rcases Nat.lt_or_ge M N0 with q | q
      ·rw [ac (.inl q)];omega
      ·rcases Nat.lt_or_ge M (N0+j) with q' | q'
       ·omega
       ·rw [ac (.inr q')];omega
    have:=hb N (Nat.le_refl _);omega
   omega
 ·rw [ao];exact hm _ _ s2 ap
 ·rw [K];by_cases e:k'=k
  ·subst e;rw [upd_same];have:=h.Kt k' U hh;constructor
   ·intro aw;exact absurd aw (an k')
   ·intro ay;exact absurd (this.2 ay) (am k')
  ·rw [upd_ne _ _ (by omega)];exact h.Kt k' U hh
theorem Cv.HG(h:Cv F N0 N j c φ v wt sm cl)(O:c=true){x:Nx}(Z:I7 x)
  (hm:Dm x v wt' sm' (sumTo N λi=>cL (φ i)) (sumTo N λi=>cS (φ i)) cl'):
  Cv F N0 N j c (upd φ (N0+F.n) x) v wt' sm' cl':=by
 have ac:=h.size;have ao:=h.pos;have ap:=h.cj O;have U:N0+F.n<N:=by rw [O] at ac;simp at ac;omega
 have K:upd φ (N0+F.n) x 0=φ 0:=upd_ne _ _ (by omega);have z:∀y,I7 y->cU y=0/\cL y=0/\cS y=0:=by
  intro y ag;cases y with
  | gone d=>exact⟨rfl,rfl,rfl⟩
  | ph p=>cases p <;> simp [I7] at ag <;> exact⟨rfl,rfl,rfl⟩
 have z1:=z _ (h.cls O);have aq:=z x Z;have s1:=sumTo_upd φ x cU U;have s2:=sumTo_upd φ x cL U;have ar:=sumTo_upd φ x cS U;have au:=h.cnt;refine⟨h.pos,h.n1,h.HH,h.size,h.jn,h.cj,by rw [K];exact h.main,λi al am=>by rw [upd_ne _ _ (by omega)];exact h.old i al am,λk' Y=>?_,λO=>?_,by rw [K];omega,by rw [K];exact h.JU,?_,λk' Y hh=>?_,by rw [K];exact h.nd,by rw [K];exact h.sub⟩
 ·rw [upd_ne _ _ (by omega)];exact h.work k' Y
 ·rw [upd_same];exact Z
 ·rw [if_pos O,upd_same];have e2:(sumTo N λi=>cL (upd φ (N0+F.n) x i))=sumTo N λi=>cL (φ i):=by omega
  have an:(sumTo N λi=>cS (upd φ (N0+F.n) x i))=sumTo N λi=>cS (φ i):=by omega
  rw [e2,an];exact hm
 ·rw [K,upd_ne _ _ (by omega)];exact h.Kt k' Y hh
theorem QY{n j:Nat}{c:Bool}{p:Ph}(h:Hu n j c p):cU (.ph p)=0/\cL (.ph p)=0/\cS (.ph p)=0:=by
 cases p <;> simp [Hu] at h <;> exact⟨rfl,rfl,rfl⟩
theorem Cv.Lf(h:Cv F N0 N j c φ v wt sm cl){p:Ph}(Y:Hu F.n j c p)(K:got (.ph p)=got (φ 0))(aq:v'+pend (φ 0)=v+pend (.ph p))(Z:v'<=j+pend (.ph p))
  (hm:Dm (if c=true then φ (N0+F.n) else .ph .Db) v' wt' sm' (sumTo N λi=>cL (φ i)) (sumTo N λi=>cS (φ i)) cl'):
  Cv F N0 N j c (upd φ 0 (.ph p)) v' wt' sm' cl':=by
 have ar:=h.size;have au:=h.pos;have O:0<N:=by omega
 obtain⟨av,ac,ag⟩:=h.main;have z1:=QY ag;have aw:=QY Y;rw [← ac] at z1;have s1:=sumTo_upd φ (.ph p) cU O;have s2:=sumTo_upd φ (.ph p) cL O;have ay:=sumTo_upd φ (.ph p) cS O;have az:=h.cnt;have al:(if c=true then upd φ 0 (.ph p) (N0+F.n) else .ph .Db)=(if c=true then φ (N0+F.n) else .ph .Db):=by rw [upd_ne _ _ (by omega)]
 refine⟨h.pos,h.n1,h.HH,h.size,h.jn,h.cj,⟨p,upd_same _ _ _,Y⟩,λi am an=>by rw [upd_ne _ _ (by omega)];exact h.old i am an,λk' U=>by rw [upd_ne _ _ (by omega)];exact h.work k' U,λao=>by rw [upd_ne _ _ (by omega)];exact h.cls ao,by rw [upd_same];omega,by rw [upd_same];exact Z,?_,λk' U hh=>?_,by rw [upd_same,K];exact h.nd,by rw [upd_same,K];exact h.sub⟩
 ·rw [al];have e2:(sumTo N λi=>cL (upd φ 0 (.ph p) i))=sumTo N λi=>cL (φ i):=by omega
  have ap:(sumTo N λi=>cS (upd φ 0 (.ph p) i))=sumTo N λi=>cS (φ i):=by omega
  rw [e2,ap];exact hm
 ·rw [upd_same,K,upd_ne _ _ (by omega)];exact h.Kt k' U hh
theorem Cv.act(h:Cv F N0 N j c φ v wt sm cl){i:Nat}(hi:i<N){p:Ph}(K:φ i= .ph p){es:Array Event}{aA:Nx}(O:F.act p v wt sm=some ((v',wt',sm'),es,aA)):
  Cv F N0 N j c (upd φ i aA) v' wt' sm' cl:=by
 have U:=h.mode;have aC:=h.Qa;rcases h.Ew hi with rfl | ⟨a,b⟩ | ⟨k,ap,rfl⟩ | ⟨ac,rfl⟩
 ·
  obtain⟨av,aB,aq⟩:=h.main;have:av=p:=by rw [aB] at K;exact Nx.ph.inj K
  subst this;have aE:∀q,Hu F.n j c q->(∀aD vs,q≠ .FB aD vs)->c=false:=by
   intro q aw ay;cases q <;> simp [Hu] at aw <;> first | exact aw.2.2 | exact aw.2 | exact absurd rfl (ay _ _)
  have an:=h.JU;cases av <;> simp only [Hu] at aq <;> (try exact aq.elim) <;> simp only [Fam.act] at O <;> (try (cases O;done))
  ·cases O;obtain⟨rfl,ao,rfl⟩:=aq;exact h.Lf (p:= .Ii _) ⟨rfl,ao,rfl⟩ (by rw [K];rfl) (by rw [K];rfl) (by rw [K] at an;exact an) (by simpa [Dm] using U)
  ·split at O
   ·rename_i ag;cases O;obtain⟨rfl,ao,rfl⟩:=aq;rw [K] at an;simp only [pend,Nat.add_zero] at an;simp only [Bool.false_eq_true,if_false,Dm] at U;split
    ·exact h.Lf (p:= .Ip _) ⟨rfl,ao,rfl⟩ (by rw [K];rfl) (by rw [K];simp [pend]) (by simp [pend];omega) ⟨U.1,U.2.1,U.2.2.1,rfl,U.2.2.2.2⟩
    ·exact h.Lf (p:= .GQ _) ⟨rfl,ao,rfl⟩ (by rw [K];rfl) (by rw [K];simp [pend]) (by simp [pend];omega) ⟨U.1,U.2.1,U.2.2.1,rfl,U.2.2.2.2⟩
   ·cases O
  ·cases O;obtain⟨rfl,ao,rfl⟩:=aq;exact h.Lf (p:= .GQ _) ⟨rfl,ao,rfl⟩ (by rw [K];rfl) (by rw [K];rfl) (by rw [K] at an;exact an) (by simpa [Dm] using U)
  ·cases O;obtain⟨rfl,ao,rfl⟩:=aq;exact h.Lf (p:= .FF _) ⟨rfl,ao,rfl⟩ (by rw [K];rfl) (by rw [K];rfl) (by rw [K] at an;exact an) (by simpa [Dm] using U)
  ·cases O;obtain⟨rfl,ao,rfl⟩:=aq;exact h.Lf (p:= .HB _) ⟨rfl,ao,rfl⟩ (by rw [K];rfl) (by rw [K];rfl) (by rw [K] at an;exact an) (by simpa [Dm] using U)
 ·have:=h.old i a b;rw [K] at this;exact this.elim
 ·
  have hw:=h.work k ap;rw [K] at hw;have aF:∀q k',q=Nx.ph p->(∀k',p≠ .G9 k')->q≠ .ph (.G9 k'):=by
   rintro q k' rfl ay e;exact ay k' (Nx.ph.inj e)
  cases p <;> simp only [GG] at hw <;> (try exact hw.elim) <;> simp only [Fam.act] at O <;> (try (cases O;done))
  ·cases O;refine h.Ig ap (x:= .ph .II) trivial (λk'=>by rw [K];simp) (by simp) (by rw [K];rfl) λL S Y Z=>?_;rw [K] at Y Z;simp only [cL,cS,Nat.add_zero] at Y Z;subst Y Z;exact U
  ·cases O;refine h.Ig ap (x:= .ph .Hc) trivial (λk'=>by rw [K];simp) (by simp) (by rw [K];rfl) λL S Y Z=>?_;rw [K] at Y Z;simp only [cL,cS,Nat.add_zero] at Y Z;subst Y Z;exact U
  ·split at O
   ·rename_i ag;cases O;have au:∀y al am L S,y=(if c=true then φ (N0+F.n) else .ph .Db)->Dm y v wt sm al am cl->(if v=1/\wt=1 then L=al+1 else L=al)->S=am->Dm y (v - 1) wt sm L S cl:=by
     intro y al am L S aG hm Y Z;cases y with
     | gone d=>simp only [Dm] at hm ⊢;split at Y <;> omega
     | ph q=>
      cases q <;> simp only [Dm] at hm ⊢ <;> (try exact hm) <;> (try (split at Y <;> omega))
      ·split at Y
       ·exfalso;omega
       ·exact⟨by omega,by omega,by omega,by omega,hm.2.2.2.2⟩
      ·split at Y
       ·exfalso;omega
       ·exact⟨by omega,by omega,by omega,by omega,hm.2.2.2.2.1,by omega⟩
      ·split at Y
       ·exfalso;omega
       ·exact⟨by omega,by omega,by omega,by omega,hm.2.2.2.2.1,by omega,by omega⟩
      ·split at Y
       ·exact⟨by omega,by omega,hm.2.2⟩
       ·exact⟨by omega,by omega,hm.2.2⟩
      ·split at Y
       ·exact⟨by omega,by omega,hm.2.2⟩
       ·exact⟨by omega,by omega,hm.2.2⟩
      ·split at Y
       ·exact⟨by omega,by omega,hm.2.2⟩
       ·exact⟨by omega,by omega,hm.2.2⟩
    split
    ·rename_i ar;refine h.Ig ap (x:= .ph .GH) trivial (λk'=>by rw [K];simp) (by simp) (by rw [K];simp [cU];omega) λL S Y Z=>?_;rw [K] at Y Z;simp only [cL,cS,Nat.add_zero] at Y Z;exact au _ _ _ L S rfl U (by rw [if_pos ar];exact Y) Z
    ·rename_i ar;refine h.Ig ap (x:= .gone 1) trivial (λk'=>by rw [K];simp) (by simp) (by rw [K];simp [cU];omega) λL S Y Z=>?_;rw [K] at Y Z;simp only [cL,cS,Nat.add_zero] at Y Z;exact au _ _ _ L S rfl U (by rw [if_neg ar];exact Y) Z
   ·cases O
  ·split at O
   ·rename_i ag;cases O;refine h.Ig ap (x:= .ph .G5) trivial (λk'=>by rw [K];simp) (by simp) (by rw [K];simp [cU];omega) λL S Y Z=>?_;rw [K] at Y Z;simp only [cL,cS,Nat.add_zero] at Y Z;have e:L=sumTo N λi=>cL (φ i):=by
     have aH:L+1=(sumTo N λi=>cL (φ i))+1:=Y;omega
    obtain⟨ar,az⟩:=ag;subst e Z ar az;exact U
   ·cases O
  ·split at O
   ·rename_i ag;cases O;obtain⟨ar,az⟩:=ag;subst ar az;refine h.Ig ap (x:= .ph .Fe) trivial (λk'=>by rw [K];simp) (by simp) (by rw [K];simp [cU]) λL S Y Z=>?_;rw [K] at Y Z;simp only [cL,cS,Nat.add_zero] at Y Z;have au:∀y al am,Dm y 0 1 sm al am cl->L+1=al->S=am+1->Dm y 0 0 sm L S cl:=by
     intro y al am hm Y Z;cases y with
     | gone d=>simp only [Dm] at hm ⊢;omega
     | ph q=>
      cases q <;> simp only [Dm] at hm ⊢ <;> (try exact hm) <;> (try (exfalso;omega))
      ·exact⟨by omega,by omega,hm.2.2⟩
      ·exact⟨by omega,by omega,hm.2.2⟩
      ·exact⟨by omega,by omega,hm.2.2⟩
    exact au _ _ _ U Y Z
   ·cases O
  ·split at O
   ·rename_i ag;cases O;subst ag;refine h.Ig ap (x:= .gone 1) trivial (λk'=>by rw [K];simp) (by simp) (by rw [K];simp [cU]) λL S Y Z=>?_;rw [K] at Y Z;simp only [cL,cS,Nat.add_zero] at Y Z;have au:∀y al am,Dm y v wt 0 al am cl->L=al->S+1=am->Dm y v wt 1 L S cl:=by
     intro y al am hm Y Z;cases y with
     | gone d=>simp only [Dm] at hm ⊢;omega
     | ph q=>
      cases q <;> simp only [Dm] at hm ⊢ <;> (try exact hm) <;> (try (exfalso;omega))
      ·exact⟨by omega,by omega,hm.2.2⟩
      ·exact⟨by omega,by omega,hm.2.2⟩
      ·exact⟨by omega,by omega,hm.2.2⟩
    exact au _ _ _ U Y Z
   ·cases O
  ·cases O;refine h.Ig ap (x:= .ph .Gr) trivial (λk'=>by rw [K];simp) (by simp) (by rw [K];rfl) λL S Y Z=>?_;rw [K] at Y Z;simp only [cL,cS,Nat.add_zero] at Y Z;subst Y Z;exact U
 ·
  have hw:=h.cls ac;rw [if_pos ac,K] at U;rw [K] at hw;obtain⟨av,aB,aq⟩:=h.main;cases p <;> simp only [I7] at hw <;> (try exact hw.elim) <;> simp only [Fam.act] at O <;> (try (cases O;done)) <;> simp only [Dm] at U
  ·cases O;exact h.HG ac (x:= .ph (.FP F.n)) trivial ⟨U.1,U.2.1,U.2.2.1,U.2.2.2.1,U.2.2.2.2,aC⟩
  ·split at O
   ·rename_i m ag;cases O;split
    ·exact h.HG ac (x:= .ph .FU) trivial ⟨U.1,U.2.1,U.2.2.1,rfl,by assumption,U.2.2.2.2.1⟩
    ·exact h.HG ac (x:= .ph (.Ha _)) trivial ⟨U.1,U.2.1,U.2.2.1,rfl,U.2.2.2.2.1,Nat.le_refl _,by omega⟩
   ·cases O
  ·split at O
   ·rename_i m ag;split at O
    ·cases O;exact h.HG ac (x:= .ph .Im) trivial ⟨by omega,by omega,U.2.2.2.2.1⟩
    ·cases O;exact h.HG ac (x:= .ph (.FP _)) trivial ⟨U.1,U.2.1,U.2.2.1,rfl,U.2.2.2.2.1,by omega⟩
   ·cases O
  ·cases O;exact h.HG ac (x:= .ph .Ft) trivial U
  ·split at O
   ·rename_i ag;cases O;exact h.HG ac (x:= .ph .G6) trivial ⟨by omega,by omega,rfl,by omega,by omega,U.2.2⟩
   ·cases O
  ·split at O
   ·rename_i ag;obtain⟨rfl,rfl⟩:=ag;cases O;exact h.HG ac (x:= .ph .FU) trivial U
   ·cases O
  ·cases O;exact h.HG ac (x:= .ph .Ic) trivial U
  ·cases O;exact h.HG ac (x:= .ph .HK) trivial U
  ·cases O;exact h.HG ac (x:= .ph .Gc) trivial U
end
end Pal
namespace Pal
open Go Go.Conc
open Go.ConcN (upd upd_same upd_ne sumTo sumTo_upd sumTo_upd_out sumTo_congr le_sumTo sumTo_le fork_knows)
section
variable {F:Fam}{N0 N j:Nat}{c:Bool}{φ:Nat->Nx}{v wt sm:Nat}{cl:Bool}
theorem Cv.spawn(h:Cv F N0 N j c φ v wt sm cl)(U:φ 0= .ph (.FF j)):
  Cv F N0 (N+1) (j+1) c (upd (upd φ N (.ph (F.start j))) 0 (.ph (F.Fp j))) v wt sm cl:=by
 obtain⟨ap,aq,ar⟩:=h.main;obtain rfl:ap= .FF j:=by rw [aq] at U;exact Nx.ph.inj U
 obtain⟨_,az,rfl⟩:=ar;have au:=h.size;have aA:=h.pos;simp only [Bool.toNat_false,Nat.add_zero] at au;have Y:cU (.ph (F.start j))=1/\cL (.ph (F.start j))=0/\cS (.ph (F.start j))=0:=by
  exact⟨rfl,rfl,rfl⟩
 have K:cU (.ph (F.Fp j))=0/\cL (.ph (F.Fp j))=0/\cS (.ph (F.Fp j))=0/\pend (.ph (F.Fp j))=0/\got (.ph (F.Fp j))= []:=by
  unfold Fam.Fp;split <;> exact⟨rfl,rfl,rfl,rfl,rfl⟩
 have Z:cU (φ 0)=0/\cL (φ 0)=0/\cS (φ 0)=0:=by rw [U];exact⟨rfl,rfl,rfl⟩
 let φ':Nat->Nx:=upd (upd φ N (.ph (F.start j))) 0 (.ph (F.Fp j));have O:φ' 0= .ph (F.Fp j):=upd_same _ _ _;have ao:φ' N= .ph (F.start j):=by show upd _ _ _ _=_;rw [upd_ne _ _ (by omega),upd_same]
 have ac:∀i,0<i->i≠N->φ' i=φ i:=λi ag al=>by show upd _ _ _ _=_;rw [upd_ne _ _ (by omega),upd_ne _ _ al]
 have sum:∀f:Nx->Nat,f (φ 0)=0->f (.ph (F.Fp j))=0->(sumTo (N+1) λi=>f (φ' i))=(sumTo N λi=>f (φ i))+f (.ph (F.start j)):=by
  intro f f0 f1;simp only [sumTo,ao];congr 1;have av:0<N:=by omega
  have:=sumTo_upd (upd φ N (.ph (F.start j))) (.ph (F.Fp j)) f av;have e2:upd φ N (.ph (F.start j)) 0=φ 0:=upd_ne _ _ (by omega);rw [e2,f0,f1] at this;have aB:=sumTo_upd_out φ (.ph (F.start j)) f (i:=N) (j:=N) (Nat.le_refl _);show sumTo N (λi=>f (upd (upd φ N (.ph (F.start j))) 0 (.ph (F.Fp j)) i))=_;omega
 have am:=h.cnt;have an:=h.JU;rw [U] at am an;simp only [pend] at am an;show Cv F N0 (N+1) (j+1) false φ' v wt sm cl;have aw:got (φ 0)= []:=by rw [U];rfl
 refine⟨h.pos,h.n1,h.HH,by simp;omega,by omega,by simp,⟨F.Fp j,O,?_⟩,λi ag al=>by rw [ac i ag (by omega)];exact h.old i ag al,λk ay=>?_,by simp,?_,?_,?_,λk ay hh=>?_,by rw [O,K.2.2.2.2];exact .nil,by rw [O,K.2.2.2.2];simp⟩
 ·unfold Fam.Fp;split
  ·exact⟨by assumption,rfl⟩
  ·exact⟨rfl,by omega,rfl⟩
 ·by_cases e:k=j
  ·subst e;rw [show N0+k=N by omega,ao];exact rfl
  ·rw [ac _ (by omega) (by omega)];exact h.work k (by omega)
 ·rw [O,K.2.2.2.1,sum cU Z.1 K.1,Y.1];exact am
 ·rw [O,K.2.2.2.1];exact an
 ·have hm:=h.mode;simp only [Bool.false_eq_true,if_false] at hm ⊢;rw [sum cL Z.2.1 K.2.1,sum cS Z.2.2 K.2.2.1,Y.2.1,Y.2.2];exact hm
 ·rw [O,K.2.2.2.2];by_cases e:k=j
  ·exact absurd hh Bool.false_ne_true
  ·rw [ac _ (by omega) (by omega)];have:=h.Kt k (by omega) hh
   rwa [aw] at this
theorem Cv.Ys(h:Cv F N0 N j c φ v wt sm cl)(O:φ 0= .ph .GL):
  Cv F N0 (N+1) j true (upd (upd φ N (.ph .Db)) 0 (.ph (.FB [] []))) v wt sm cl:=by
 obtain⟨ap,aq,ar⟩:=h.main;obtain rfl:ap= .GL:=by rw [aq] at O;exact Nx.ph.inj O
 obtain⟨ao,rfl⟩:=ar;have au:=h.size;have ay:=h.pos;simp only [Bool.toNat_false,Nat.add_zero] at au;have U:cU (φ 0)=0/\cL (φ 0)=0/\cS (φ 0)=0:=by rw [O];exact⟨rfl,rfl,rfl⟩
 let φ':Nat->Nx:=upd (upd φ N (.ph .Db)) 0 (.ph (.FB [] []));have K:φ' 0= .ph (.FB [] []):=upd_same _ _ _;have Y:φ' N= .ph .Db:=by show upd _ _ _ _=_;rw [upd_ne _ _ (by omega),upd_same]
 have Z:∀i,0<i->i≠N->φ' i=φ i:=λi ac ag=>by show upd _ _ _ _=_;rw [upd_ne _ _ (by omega),upd_ne _ _ ag]
 have sum:∀f:Nx->Nat,f (φ 0)=0->f (.ph (.FB [] []))=0->f (.ph .Db)=0->(sumTo (N+1) λi=>f (φ' i))=(sumTo N λi=>f (φ i)):=by
  intro f f0 f1 f2;simp only [sumTo,Y,f2];have av:0<N:=by omega
  have:=sumTo_upd (upd φ N (.ph .Db)) (.ph (.FB [] [])) f av;have e2:upd φ N (.ph .Db) 0=φ 0:=upd_ne _ _ (by omega);rw [e2,f0,f1] at this;have az:=sumTo_upd_out φ (.ph .Db) f (i:=N) (j:=N) (Nat.le_refl _);show sumTo N (λi=>f (upd (upd φ N (.ph .Db)) 0 (.ph (.FB [] [])) i))+0=_;omega
 have al:=h.cnt;have am:=h.JU;rw [O] at al am;simp only [pend] at al am;show Cv F N0 (N+1) j true φ' v wt sm cl;have aw:got (φ 0)= []:=by rw [O];rfl
 refine⟨h.pos,h.n1,h.HH,by simp;omega,h.jn,λ_=>ao,⟨.FB [] [],K,ao,rfl⟩,λi ac ag=>by rw [Z i ac (by omega)];exact h.old i ac ag,λk an=>?_,λ_=>by rw [show N0+F.n=N by omega,Y];trivial,?_,?_,?_,λk an hh=>?_,by rw [K];exact .nil,by rw [K];simp [got]⟩
 ·rw [Z _ (by omega) (by omega)];exact h.work k an
 ·rw [K,sum cU U.1 rfl rfl];exact al
 ·rw [K];exact am
 ·have hm:=h.mode;simp only [Bool.false_eq_true,if_false,if_true] at hm ⊢;rw [show N0+F.n=N by omega,Y,sum cL U.2.1 rfl rfl,sum cS U.2.2 rfl rfl];exact hm
 ·rw [K];rw [Z _ (by omega) (by omega)];have:=h.Kt k an hh
  rwa [aw] at this
theorem Cv.leave(h:Cv F N0 N j c φ v wt sm cl){i d d':Nat}(hi:i<N)(K:φ i= .gone d):Cv F N0 N j c (upd φ i (.gone d')) v wt sm cl:=by
 rcases h.Ew hi with rfl | ⟨a,b⟩ | ⟨k,U,rfl⟩ | ⟨Y,rfl⟩
 ·obtain⟨p,Z,_⟩:=h.main;rw [K] at Z;cases Z
 ·have am:=hi;have z:∀f:Nx->Nat,f (.gone d)=0->f (.gone d')=0->(sumTo N λa=>f (upd φ i (.gone d') a))=sumTo N λa=>f (φ a):=by
   intro f f0 f1;have:=sumTo_upd φ (.gone d') f am;rw [K] at this;omega
  have aq:=h.size;have O:upd φ i (.gone d') 0=φ 0:=upd_ne _ _ (by omega);refine⟨h.pos,h.n1,h.HH,h.size,h.jn,h.cj,by rw [O];exact h.main,λac an ao=>?_,λk U=>by rw [upd_ne _ _ (by omega)];exact h.work k U,λY=>by rw [upd_ne _ _ (by omega)];exact h.cls Y,by rw [O,z cU rfl rfl];exact h.cnt,by rw [O];exact h.JU,?_,λk U hh=>by rw [O,upd_ne _ _ (by omega)];exact h.Kt k U hh,by rw [O];exact h.nd,by rw [O];exact h.sub⟩
  ·by_cases e:ac=i
   ·subst e;rw [upd_same];trivial
   ·rw [upd_ne _ _ e];exact h.old ac an ao
  ·rw [z cL rfl rfl,z cS rfl rfl,upd_ne _ _ (by omega)];exact h.mode
 ·refine h.Ig U (x:= .gone d') trivial (by rw [K];simp) (by simp) (by rw [K];rfl) λL S ag al=>?_;rw [K] at ag al;have ap:L=sumTo N λi=>cL (φ i):=ag;have e2:S=sumTo N λi=>cS (φ i):=al;subst ap e2;exact h.mode
 ·have hm:=h.mode;rw [if_pos Y,K] at hm;exact h.HG Y (x:= .gone d') trivial hm
theorem Cv.XB(h:Cv F N0 N j c φ v wt sm cl)(O:c=true)(U:φ (N0+F.n)= .ph .G6∨φ (N0+F.n)= .ph .FU∨φ (N0+F.n)= .ph .Gc∨φ (N0+F.n)= .ph .Hv∨Nw (φ (N0+F.n))):∀k,k<j->Nw (φ (N0+k)):=by
 intro k Y;have hm:=h.mode;rw [if_pos O] at hm;have Z:=h.size;have ac:=h.cnt;have ag:cU (φ (N0+k))<=sumTo N λi=>cU (φ i):=le_sumTo (f:=λi=>cU (φ i)) (show N0+k<N by omega);have al:cL (φ (N0+k))<=sumTo N λi=>cL (φ i):=le_sumTo (f:=λi=>cL (φ i)) (show N0+k<N by omega);have am:cS (φ (N0+k))<=sumTo N λi=>cS (φ i):=le_sumTo (f:=λi=>cS (φ i)) (show N0+k<N by omega);have an:v=0/\(sumTo N λi=>cL (φ i))=0/\(sumTo N λi=>cS (φ i))=0:=by
  rcases U with e | e | e | e | e
  ·rw [e] at hm;exact⟨hm.2.2.2.2.1,hm.1,hm.2.1⟩
  ·rw [e] at hm;exact⟨hm.2.2.2.2.1,hm.1,hm.2.1⟩
  ·rw [e] at hm;exact⟨hm.2.2.2.2.1,hm.1,hm.2.1⟩
  ·rw [e] at hm;exact⟨hm.2.2.2.2.1,hm.1,hm.2.1⟩
  ·cases K:φ (N0+F.n) with
   | gone d=>rw [K] at hm;exact⟨hm.2.2.2.2.1,hm.1,hm.2.1⟩
   | ph p=>rw [K] at e;exact e.elim
 have hw:=h.work k Y;cases K:φ (N0+k) with
 | gone d=>trivial
 | ph p=>
  have ao:1<=cU (φ (N0+k))+cL (φ (N0+k))+cS (φ (N0+k)):=by
   rw [K] at hw ⊢;cases p <;> simp only [GG] at hw <;> simp [cU,cL,cS]
  exfalso;omega
end
open Go.ConcN (RelBy)
def dl:LP->Nat
 | .G8 | .Ed _ _ _ | .Cg _ _ _ _ | .H7 _ | .Co _ | .FR | .Eu _ | .DY _ | .len=>1
 | .HE | .ED _ | .Hb | .ET _ | .EV=>1
 | _=>0
def FE:Nx->Nat
 | .gone d=>d
 | .ph .Hc | .ph .GH | .ph .G5 | .ph .Fe=>1
 | .ph (.FP _) | .ph (.Ha _) | .ph .Im | .ph .HK | .ph .Ft | .ph .G6 | .ph .FU=>1
 | .ph (.Ii _) | .ph (.Ip _) | .ph (.HB _) | .ph (.GQ _)=>1
 | .ph (.lk _ p)=>dl p
 | _=>0
def late:Nx->Prop
 | .ph (.G9 _) | .ph .HI | .ph .Gr | .ph (.lk _ _)=>False
 | _=>True
def KE(t:Trace)(E:LH)(ρ:Nat):Prop:=∀b,E b≠none->∀x a,touchAt t x=some a->CF a.loc=some b->a.write=true->Before t x ρ
structure EU (F:Fam) (N0 t0 N j:Nat) (φ:Nat->Nx) (S:Nat->St) (t:Trace):Prop where
 deaf:∀i,i<N->Deaf t i=FE (φ i)
 above:∀i,N<=i->Deaf t i=0
 plain:∀x a b,touchAt t x=some a->CF a.loc=some b->(b=F.wg∨b=F.mu)->a.kind= .plain->∀i,i<N->(i=0∨N0<=i)->Knows t i x
 said:∀x a b,touchAt t x=some a->CF a.loc=some b->(b=F.wg∨b=F.mu)->a.kind= .said->Knows t 0 x
 Ge:∀x a,touchAt t x=some a->CF a.loc=some F.fd->(∀i,i<N->(i=0∨N0<=i)->Knows t i x)∨∃k,k<j/\t.g? x=some (N0+k)/\t.counts x/\a.loc= .cell ⟨F.fd,k,none⟩
 over:∀x g,t.g? x=some g->g≠0->t.counts x->(∃y,t.g? y=some 0/\HappensBefore t x y)∨(N0<=g/\g<N)
 norel:∀x,t0<=x->t.act? x≠some (.mark (.release F.sA))
 Ma:t0<=t.size
 rel:∀k,k<j->late (φ (N0+k))->∃ρ,t0<=ρ/\RelBy F.sA t (N0+k) ρ/\KE t (S (N0+k)).E ρ
section
variable {F:Fam}{N0 t0 N j:Nat}{φ:Nat->Nx}{S:Nat->St}{t u:Trace}
def EvS(F:Fam)(N0 j i:Nat)(e:Event):Prop:=
 (∀a,(MemAct.ofEvent e).touch? =some a->∃b,CF a.loc=some b/\(((b=F.wg∨b=F.mu)/\a.kind≠ .plain/\(a.kind= .said->i=0))∨(b=F.fd/\∃k,k<j/\i=N0+k/\a.loc= .cell ⟨F.fd,k,none⟩/\a.kind= .plain)))/\e.loc≠ .mark (.release F.sA)
theorem EU.noRace(h:EU F N0 t0 N j φ S t)(am:∀said,¬Race said t){i:Nat}(hi:i<N)(Z:i=0∨N0<=i){fn:FuncId}{pos:String}{es:Array Event}
  (an:∀e∈es,EvS F N0 j i e):∀said,¬Race said (t++MemOp.ofEvents i fn pos es):=by
 intro said;refine noRace_append (g:=i) (am said) (λop O=>by obtain⟨e,_,rfl⟩:=mem_ofEvents O;rfl) λx a U op O d hd ao=>?_;obtain⟨e,he,rfl⟩:=mem_ofEvents O;obtain⟨b,hb,K⟩:=(an e he).1 d hd;obtain⟨ac,hm,az,ap⟩:=ao;have Y:CF a.loc=some b:=by rw [ac];exact hb
 rcases K with⟨K,ag,aq⟩ | ⟨rfl,k,ag,ar,au,_⟩
 ·rcases ap with q | q | ⟨_,q,q'⟩
  ·exact h.plain x a b U Y K q i hi Z
  ·exact absurd q ag
  ·have:=h.said x a b U Y K q
   rwa [← aq q'] at this
 ·rcases h.Ge x a U Y with q | ⟨k',_,av,_,al⟩
  ·exact q i hi Z
  ·rw [ac,au] at al;have:k=k':=by simpa using al
   subst this;obtain⟨z,aw,ay⟩:=Option.map_eq_some_iff.1 av;have:=knows_own aw;rw [ay,← ar] at this;exact this
theorem OO(h:∀x g,t.g? x=some g->g≠0->t.counts x->(∃y,t.g? y=some 0/\HappensBefore t x y)∨(N0<=g/\g<N))(hu:∀op∈u,op.g=0∨(N0<=op.g/\op.g<N)∨op.act.touch? =none):
  ∀x g,(t++u).g? x=some g->g≠0->(t++u).counts x->(∃y,(t++u).g? y=some 0/\HappensBefore (t++u) x y)∨(N0<=g/\g<N):=by
 intro x g O U Y;rcases Nat.lt_or_ge x t.size with q | q
 ·rcases h x g (by rw [← g?_old (u:=u) q];exact O) U ((counts_old q).1 Y) with⟨y,K,hb⟩ | hh
  ·have al:y<t.size:=by
    unfold Trace.g? at K;obtain⟨z,am,_⟩:=Option.map_eq_some_iff.1 K;exact lt_size_of_getElem? am
   exact .inl ⟨y,by rw [g?_old al];exact K,hb_app u hb⟩
  ·exact .inr hh
 ·obtain⟨a,an,_⟩:=Y;obtain⟨op,Z,ac⟩:=touch_of an;have ag:op.g=g:=by simpa [Trace.g?,Z] using O
  rcases getElem?_append_cases Z with⟨ap,_⟩ | ⟨_,ao⟩
  ·omega
  ·rcases hu op ao with z | z | z
   ·exact absurd (ag▸z) U
   ·exact .inr (ag▸z)
   ·rw [z] at ac;cases ac
theorem OI(h:∀x,t0<=x->t.act? x≠some (.mark (.release F.sA)))(hu:∀op∈u,op.act≠ .mark (.release F.sA)):∀x,t0<=x->(t++u).act? x≠some (.mark (.release F.sA)):=by
 intro x O e;obtain⟨op,U,K⟩:=Option.map_eq_some_iff.1 e;rcases getElem?_append_cases U with⟨_,Y⟩ | ⟨_,Z⟩
 ·exact h x O (by rw [act?_of Y,K])
 ·exact hu op Z K
theorem T0{g:Nat}(hu:∀op∈u,op.g=g->op.act.touch? =none):∀x,t.size<=x->(t++u).g? x=some g->¬(t++u).counts x:=by
 intro x ag U Y;obtain⟨a,Z,_⟩:=Y;obtain⟨op,K,O⟩:=touch_of Z;rcases getElem?_append_cases K with⟨al,_⟩ | ⟨_,ac⟩
 ·omega
 ·rw [hu op ac (by simpa [Trace.g?,K] using U)] at O;cases O
theorem KE.app{E:LH}{ρ:Nat}(h:KE t E ρ)(hu:∀op∈u,∀a b,op.act.touch? =some a->CF a.loc=some b->a.write=true->E b=none):KE (t++u) E ρ:=by
 intro b hb x a U K hw;obtain⟨op,Y,O⟩:=touch_of U;rcases getElem?_append_cases Y with⟨ag,Z⟩ | ⟨_,ac⟩
 ·exact(h b hb x a (by rw [touchAt_of Z];exact O) K hw).app u
 ·exact absurd (hu op ac a b O K hw) hb
theorem EU.app(h:EU F N0 t0 N j φ S t){i:Nat}(hi:i<N){x:Nx}{s':St}{fn:FuncId}{pos:String}{es:Array Event}
  (hd:deafBehind (FE (φ i)) es=FE x)
  (ao:∀e∈es,(∀a b,(MemAct.ofEvent e).touch? =some a->CF a.loc=some b->(b=F.wg∨b=F.mu)->a.kind≠ .plain/\(a.kind= .said->i=0))/\
   (∀a,(MemAct.ofEvent e).touch? =some a->CF a.loc=some F.fd->∃k,k<j/\i=N0+k/\a.loc= .cell ⟨F.fd,k,none⟩/\a.kind= .plain)/\e.loc≠ .mark (.release F.sA))
  (aD:(i=0∨N0<=i)∨∀e∈es,(MemAct.ofEvent e).touch? =none)
  (aE:∀k,k<j->late (φ (N0+k))->∀e∈es,∀a b,(MemAct.ofEvent e).touch? =some a->CF a.loc=some b->a.write=true->(S (N0+k)).E b=none)
  (aq:∀k,k<j->i=N0+k->late x->(late (φ i)/\s'.E=(S i).E/\∀ρ,RelBy F.sA t i ρ->RelBy F.sA (t++MemOp.ofEvents i fn pos es) i ρ)∨∃ρ,t0<=ρ/\RelBy F.sA (t++MemOp.ofEvents i fn pos es) i ρ/\KE (t++MemOp.ofEvents i fn pos es) s'.E ρ):
  EU F N0 t0 N j (upd φ i x) (upd S i s') (t++MemOp.ofEvents i fn pos es):=by
 generalize hu:MemOp.ofEvents i fn pos es=u at*;have ag:∀op∈u,op.g=i:=λop O=>by rw [← hu] at O;obtain⟨e,_,rfl⟩:=mem_ofEvents O;rfl
 have ap:∀op∈u,∃e∈es,op.act=MemAct.ofEvent e:=λop O=>by rw [← hu] at O;obtain⟨e,he,rfl⟩:=mem_ofEvents O;exact⟨e,he,rfl⟩
 have hold:∀{y a},touchAt (t++u) y=some a->(touchAt t y=some a/\y<t.size)∨(Knows (t++u) i y/\(t++u).g? y=some i/\∃e∈es,(MemAct.ofEvent e).touch? =some a):=by
  intro y a aF;obtain⟨op,O,aw⟩:=touch_of aF;rcases getElem?_append_cases O with⟨aq,aG⟩ | ⟨_,ar⟩
  ·left;exact⟨by rw [touchAt_of aG];exact aw,aq⟩
  ·right;obtain⟨e,he,Z⟩:=ap op ar;exact⟨by have:=knows_own O;rwa [ag op ar] at this,by simp [Trace.g?,O,ag op ar],e,he,by rw [← Z];exact aw⟩
 have ay:∀k,k<j->late (φ (N0+k))->∀ρ,KE t (S (N0+k)).E ρ->KE (t++u) (S (N0+k)).E ρ:=λk K U ρ aH=>aH.app λop aI a b az hb hw=>by
  obtain⟨e,he,Z⟩:=ap op aI;rw [Z] at az;exact aE k K U e he a b az hb hw
 refine⟨λY ac=>?_,λY ac=>?_,λy a b al hb am K Y ac au=>?_,λy a b al hb am K=>?_,λy a al hb=>?_,OO h.over λop O=>?_,OI h.norel λop O e=>?_,by simp;have:=h.Ma;omega,λk K U=>?_⟩
 ·by_cases e:Y=i
  ·subst e;rw [upd_same,← hu,Deaf_own,h.deaf Y hi,hd]
  ·rw [upd_ne _ _ e,Deaf_other t (Ne.symm e) u ag];exact h.deaf Y ac
 ·rw [Deaf_other t (by omega) u ag];exact h.above Y ac
 ·rcases hold al with⟨q,_⟩ | ⟨_,_,e,he,an⟩
  ·exact(h.plain y a b q hb am K Y ac au).app _
  ·exact absurd K ((ao e he).1 a b an hb am).1
 ·rcases hold al with⟨q,_⟩ | ⟨aA,_,e,he,an⟩
  ·exact(h.said y a b q hb am K).app _
  ·rw [← ((ao e he).1 a b an hb am).2 K];exact aA
 ·rcases hold al with⟨q,aB⟩ | ⟨aA,av,e,he,an⟩
  ·rcases h.Ge y a q hb with z | ⟨k,K,av,aJ,U⟩
   ·exact .inl λY ac au=>(z Y ac au).app _
   ·exact .inr ⟨k,K,by rw [g?_old aB];exact av,(counts_old aB).2 aJ,U⟩
  ·obtain⟨k,K,aK,U,aL⟩:=(ao e he).2.1 a an hb;exact .inr ⟨k,K,by rw [av,aK],⟨a,al,by rw [U];rfl,.inl (by rw [aL];simp)⟩,U⟩
 ·rw [ag op O];rcases aD with(q | q) | q
  ·exact .inl q
  ·exact .inr (.inl ⟨q,hi⟩)
  ·obtain⟨e,he,Z⟩:=ap op O;rw [Z];exact .inr (.inr (q e he))
 ·obtain⟨ev,aM,Z⟩:=ap op O;rw [Z] at e;exact(ao ev aM).2.2 (by
   obtain⟨loc,wr,aN⟩:=ev
   cases loc with
   | mark m=>simp only [MemAct.ofEvent,MemAct.mark.injEq] at e;rw [e]
   | obj r=>cases wr <;> cases aN <;> simp [MemAct.ofEvent] at e
   | _=>simp [MemAct.ofEvent] at e)
 ·by_cases e:i=N0+k
  ·subst e;rw [upd_same] at U;rw [upd_same];rcases aq k K rfl U with⟨aC,aO,aP⟩ | hh
   ·obtain⟨ρ,a,b,c⟩:=h.rel k K aC;exact⟨ρ,a,aP ρ b,by rw [aO];exact ay k K aC ρ c⟩
   ·exact hh
  ·rw [upd_ne _ _ (Ne.symm e)] at U;rw [upd_ne _ _ (Ne.symm e)];obtain⟨ρ,a,b,c⟩:=h.rel k K U;exact⟨ρ,a,b.appOther ag e,ay k K U ρ c⟩
theorem EU.C6(h:EU F N0 t0 N j φ S t)(hu:∀op∈u,op.act.touch? =none/\∀m,op.act≠ .mark m):EU F N0 t0 N j φ S (t++u):=by
 have an:∀g,Deaf (t++u) g=Deaf t g:=by
  intro g;obtain⟨l⟩:=u;rw [Deaf_append];have key:∀(l:List MemOp) (d:Nat),(∀op∈l,∀m,op.act≠ .mark m)->l.foldl (deafStep g) d=d:=by
   intro l
   induction l with
   | nil=>intro d _;rfl
   | cons z l aq=>
    intro d U;have ar:=U z (by simp);have e2:deafStep g d z=d:=by
     unfold deafStep;split <;> first | (rename_i e;exact absurd e (ar _)) | rfl
    rw [List.foldl_cons,e2];exact aq d λop K=>U op (by simp [K])
  exact key l _ λop K=>(hu op (by simpa using K)).2
 have hold:∀{y a},touchAt (t++u) y=some a->touchAt t y=some a/\y<t.size:=by
  intro y a Z;obtain⟨op,K,ac⟩:=touch_of Z;rcases getElem?_append_cases K with⟨au,av⟩ | ⟨_,aw⟩
  ·exact⟨by rw [touchAt_of av];exact ac,au⟩
  ·rw [(hu op aw).1] at ac;cases ac
 have ay:∀g x,t.size<=x->(t++u).g? x=some g->¬(t++u).counts x:=λg=>T0 λop K _=>(hu op K).1;refine⟨λi hi=>by rw [an];exact h.deaf i hi,λi hi=>by rw [an];exact h.above i hi,λy a b Y hb ag O i hi al=>(h.plain y a b (hold Y).1 hb ag O i hi al).app _,λy a b Y hb ag O=>(h.said y a b (hold Y).1 hb ag O).app _,λy a Y hb=>?_,
  OO h.over λop K=> .inr (.inr (hu op K).1),OI h.norel λop K=>(hu op K).2 _,by simp;have:=h.Ma;omega,λk O U=>let ⟨ρ,a,b,c⟩:=h.rel k O U;⟨ρ,a,b.app λx Z am=>ay _ x Z am,c.app λop K a b ao=>by rw [(hu op K).1] at ao;cases ao⟩⟩
 obtain⟨q,ap⟩:=hold Y;rcases h.Ge y a q hb with z | ⟨k,O,am,az,U⟩
 ·exact .inl λaA aB al=>(z aA aB al).app _
 ·exact .inr ⟨k,O,by rw [g?_old ap];exact am,(counts_old ap).2 az,U⟩
theorem EU.spawn(h:EU F N0 t0 N j φ S t){φ':Nat->Nx}{S':Nat->St}(ac:0<N)(aG:N=N0+j)(hd:∀i,i<N->FE (φ' i)=FE (φ i))(ay:FE (φ' N)=0)(az:FE (φ 0)=0)
  (aA:∀k,k<j+1->late (φ' (N0+k))->k<j/\late (φ (N0+k))/\(S' (N0+k)).E=(S (N0+k)).E)
  {x y:MemOp} (Z:x.g=0/\x.act= .go N) (ao:y.g=N/\y.act= .start):EU F N0 t0 (N+1) (j+1) φ' S' (t++ #[x,y]):=by
 have hu:∀op∈(#[x,y]:Array MemOp),op.act.touch? =none/\∀m,op.act≠ .mark m:=by
  intro op ap;simp only [List.mem_toArray,List.mem_cons,List.not_mem_nil,or_false] at ap;rcases ap with rfl | rfl
  ·rw [Z.2];exact⟨rfl,by simp⟩
  ·rw [ao.2];exact⟨rfl,by simp⟩
 have K:=h.C6 hu;have aq:∀z,Knows t 0 z->Knows (t++ #[x,y]) N z:=λz O=>fork_knows Z ao (by rw [h.deaf 0 ac];exact az) (h.above N (Nat.le_refl _)) O;have hold:∀{z a},touchAt (t++ #[x,y]) z=some a->touchAt t z=some a:=by
  intro z a O;obtain⟨op,ag,U⟩:=touch_of O;rcases getElem?_append_cases ag with⟨ar,aB⟩ | ⟨_,al⟩
  ·rw [touchAt_of aB];exact U
  ·rw [(hu op al).1] at U;cases U
 refine⟨λi hi=>?_,λi hi=>K.above i (by omega),λz a b O hb au Y i hi am=>?_,K.said,λz a O hb=>?_,λz g an aC aD=>?_,K.norel,K.Ma,λk Y Z=>?_⟩
 ·rcases Nat.lt_or_ge i N with q | q
  ·rw [hd i q];exact K.deaf i q
  ·obtain rfl:i=N:=by omega
   rw [ay];exact K.above i (Nat.le_refl _)
 ·rcases Nat.lt_or_ge i N with q | q
  ·exact K.plain z a b O hb au Y i q am
  ·obtain rfl:i=N:=by omega
   exact aq z (h.plain z a b (hold O) hb au Y 0 ac (.inl rfl))
 ·have av:z<t.size:=by
   obtain⟨op,ag,U⟩:=touch_of O;rcases getElem?_append_cases ag with⟨ar,_⟩ | ⟨_,al⟩
   ·exact ar
   ·rw [(hu op al).1] at U;cases U
  rcases h.Ge z a (hold O) hb with aw | ⟨k,Y,an,aE,aF⟩
  ·refine .inl λi hi am=>?_;rcases Nat.lt_or_ge i N with q | q
   ·exact(aw i q am).app _
   ·obtain rfl:i=N:=by omega
    exact aq z (aw 0 ac (.inl rfl))
  ·exact .inr ⟨k,by omega,by rw [g?_old av];exact an,(counts_old av).2 aE,aF⟩
 ·rcases K.over z g an aC aD with q | q
  ·exact .inl q
  ·exact .inr ⟨q.1,by omega⟩
 ·obtain⟨a,b,c⟩:=aA k Y Z;rw [c];exact K.rel k a b
end
end Pal
namespace Pal
open Go Go.Conc
open Go.ConcN (upd upd_same upd_ne sumTo sumTo_upd sumTo_upd_out sumTo_congr le_sumTo sumTo_le)
def pH:LP->Nat
 | .len | .Kv | .JF | .Fu | .Gt | .JR | .JM | .JJ | .HE=>1
 | _=>0
def pN:LP->Nat
 | .ET false=>1
 | _=>0
def pZ:LP->Nat
 | .ET true=>1
 | _=>0
def pV:LP->Nat
 | .FR | .Eu _=>1
 | _=>0
def pT:LP->Nat
 | .Ed _ true _ | .Cg _ true _ _=>1
 | _=>0
def pQ:LP->Nat
 | .H7 _ | .Co _=>1
 | _=>0
def pD:LP->Nat
 | .DY _=>1
 | _=>0
def pX:LP->Nat
 | .ED _ | .Hb=>1
 | _=>0
def oC(f:LP->Nat):Option LP->Nat
 | some p=>f p
 | none=>0
def LN(m:M4)(q h rn rs v t s d x:Nat):Prop:=
 h=m.l.toNat/\
 (m.s=false->rs=0/\d=0/\m.k.toNat=rn+q+v+t/\s=m.w+rn+q/\(m.l=false->m.k=false->1<=m.w->1<=x))/\
 (m.s=true->m.k=false/\rn=0/\t=0/\m.l.toNat+rs+q+v+d=1/\m.w=s+v+d/\1<=m.w)
def La:LP->M4->Prop
 | .Cg sv aw it old,_=>(aw=true->old.k=true)/\(sv=true->aw=true)/\it<=4/\CX old
 | .Ed sv aw it,_=>(sv=true->aw=true)/\it<=4
 | .DY ex,m=>ex=false->2<=m.w
 | .ED old,_=>old.l=false/\old.k=false/\old.s=false/\old.w≠0/\CX old
 | _,_=>True
section
variable {F:Fam}{p:LP}{m m':M4}{q q' h rn rs v t s d x:Nat}{es:Array Event}{o:Option LP}
theorem XN(an:LN m q (pH p+h) (pN p+rn) (pZ p+rs) (pV p+v) (pT p+t) (pQ p+s) (pD p+d) (pX p+x))(K:La p m)(Y:CX m)(ao:∀sv,p= .Co sv->q≠0):Ds p m q:=by
 obtain⟨l,k,st,w⟩:=m;obtain⟨Z,O,U⟩:=an;cases p <;> simp only [Ds,La] at K ⊢ <;> (try exact Y)
 ·exact⟨K.1,K.2,Y,λe=>by
   subst e
   simp only [pH,pN,pZ,pV,pT,pQ,pD,pX] at Z O U
   cases st
   ·have:=(O rfl).2.2.1
    cases k
    ·simp at this;omega
    ·rfl
   ·have:=(U rfl).2.2.1;omega⟩
 ·exact⟨K.1,K.2.1,K.2.2.1,K.2.2.2,Y,λe=>by
   subst e
   simp only [pH,pN,pZ,pV,pT,pQ,pD,pX] at Z O U
   cases st
   ·have:=(O rfl).2.2.1
    cases k
    ·simp at this;omega
    ·rfl
   ·have:=(U rfl).2.2.1;omega⟩
 ·exact ao _ rfl
 ·simp only [pH,pN,pZ,pV,pT,pQ,pD,pX] at Z O U;refine⟨λe=>?_,λe=>?_,Y⟩
  ·subst e;obtain⟨a1,al,ag,ac,ap,am⟩:=U rfl;cases l
   ·exact⟨rfl,a1,by omega⟩
   ·simp at ac;omega
  ·subst e;obtain⟨a1,al,ag,ac⟩:=O rfl;cases k
   ·simp at ag;omega
   ·rfl
 ·simp only [pH,pN,pZ,pV,pT,pQ,pD,pX] at Z O U;cases st
  ·have:=(O rfl).2.1;omega
  ·obtain⟨a1,al,ag,ac,ap,am⟩:=U rfl;cases l
   ·exact⟨rfl,rfl,a1,am,K,Y⟩
   ·simp at ac;omega
 ·simp only [pH,pN,pZ,pV,pT,pQ,pD,pX] at Z;cases l
  ·simp at Z
  ·exact⟨rfl,Y⟩
 ·exact⟨K.1,K.2.1,K.2.2.1,K.2.2.2.1,K.2.2.2.2,Y⟩
 ·refine⟨?_,Y⟩;have aq:k.toNat<=1:=Bool.toNat_le k;cases st
  ·have:=(O rfl).2.2.1;simp only at this;omega
  ·have:=(U rfl).2.2.2.1;simp only at this;omega
set_option maxHeartbeats 1000000 in
theorem LN.step(K:(m',q',es,o)∈F.BV p m q)(U:Ds p m q)(O:LN m q (pH p+h) (pN p+rn) (pZ p+rs) (pV p+v) (pT p+t) (pQ p+s) (pD p+d) (pX p+x)):
  LN m' q' (oC pH o+h) (oC pN o+rn) (oC pZ o+rs) (oC pV o+v) (oC pT o+t) (oC pQ o+s) (oC pD o+d) (oC pX o+x):=by
 obtain⟨l,k,st,w⟩:=m;cases p <;> simp only [Fam.BV,List.mem_singleton,Prod.mk.injEq,List.not_mem_nil] at K
 case FT=>obtain⟨rfl,rfl,-,rfl⟩:=K;exact O
 case G8=>
  split at K
  ·rename_i e;simp only [M4.zero,M4.mk.injEq] at e;obtain⟨rfl,rfl,rfl,rfl⟩:=e;simp only [List.mem_singleton,Prod.mk.injEq] at K;obtain⟨rfl,rfl,-,rfl⟩:=K;simp [LN,pH,pN,pZ,pV,pT,pQ,pD,pX,oC] at O ⊢;omega
  ·simp only [List.mem_singleton,Prod.mk.injEq] at K;obtain⟨rfl,rfl,-,rfl⟩:=K;exact O
 case Ed sv aw it=>obtain⟨rfl,rfl,-,rfl⟩:=K;cases aw <;> exact O
 case Cg sv aw it old=>
  simp only [Fam.Fq,List.mem_append] at K;simp only [Ds] at U;obtain⟨k1,Y,Z,ac,am,-⟩:=U;rcases K with K | K
  ·split at K
   ·rename_i c;split at K
    ·rename_i c2;simp only [List.mem_singleton] at K;obtain⟨rfl,c3,c4⟩:=c2;split at K
     ·rename_i e;subst e;simp only [Prod.mk.injEq] at K;obtain⟨rfl,rfl,-,rfl⟩:=K;simp only at c c3 c4;obtain⟨rfl,rfl,-⟩:=c;subst c3;simp [LN,pH,pN,pZ,pV,pT,pQ,pD,pX,oC] at O ⊢;omega
     ·simp only [Prod.mk.injEq] at K;obtain⟨rfl,rfl,-,rfl⟩:=K;exact O
    ·simp only [List.mem_singleton,Prod.mk.injEq] at K;obtain⟨rfl,rfl,-,rfl⟩:=K;cases aw <;> exact O
   ·simp at K
  ·split at K
   ·rename_i e;subst e;split at K
    ·rename_i c;simp only [List.mem_singleton,Prod.mk.injEq] at K;obtain⟨rfl,rfl,-,rfl⟩:=K;simp only at c;obtain⟨rfl,rfl⟩:=c;cases aw <;> cases k <;> simp [LN,pH,pN,pZ,pV,pT,pQ,pD,pX,oC] at O k1 ⊢ <;> omega
    ·rename_i c;have key:∀o',(o'=some (LP.H7 sv)∨o'=some (LP.Co sv))->LN ⟨l,!aw&&k,st || (sv&&l),w+1⟩ q (oC pH o'+h) (oC pN o'+rn) (oC pZ o'+rs) (oC pV o'+v) (oC pT o'+t) (oC pQ o'+s) (oC pD o'+d) (oC pX o'+x):=by
      intro o' an;have ag:oC pH o'=0/\oC pN o'=0/\oC pZ o'=0/\oC pV o'=0/\oC pT o'=0/\oC pQ o'=1/\oC pD o'=0/\oC pX o'=0:=by
       rcases an with rfl | rfl <;> exact⟨rfl,rfl,rfl,rfl,rfl,rfl,rfl,rfl⟩
      obtain⟨ag,e2,ao,ap,aq,ar,au,av⟩:=ag;rw [ag,e2,ao,ap,aq,ar,au,av];cases l <;> cases st <;> cases k <;> cases aw <;> cases sv <;> simp [LN,pH,pN,pZ,pV,pT,pQ,pD,pX] at O k1 Y c ⊢ <;> omega
     simp only [List.mem_cons,List.not_mem_nil,or_false,Prod.mk.injEq] at K;rcases K with⟨rfl,rfl,-,rfl⟩ | ⟨rfl,rfl,-,rfl⟩
     ·exact key _ (.inl rfl)
     ·exact key _ (.inr rfl)
   ·simp only [List.mem_singleton,Prod.mk.injEq] at K;obtain⟨rfl,rfl,-,rfl⟩:=K;cases aw <;> exact O
 case H7 sv=>obtain⟨rfl,rfl,-,rfl⟩:=K;exact O
 case Co sv=>
  obtain⟨rfl,rfl,-,rfl⟩:=K;simp only [Ds] at U;cases st <;> cases k <;> cases l <;> cases sv <;> simp [LN,pH,pN,pZ,pV,pT,pQ,pD,pX,oC] at O ⊢ <;> omega
 case FR=>
  simp only [List.mem_cons,List.not_mem_nil,or_false,Prod.mk.injEq] at K;rcases K with⟨rfl,rfl,-,rfl⟩ | ⟨rfl,rfl,-,rfl⟩ <;> exact O
 case Eu sv=>
  simp only [Ds] at U;split at K
  ·rename_i c;simp only [List.mem_singleton,Prod.mk.injEq] at K;obtain⟨rfl,rfl,-,rfl⟩:=K;have c:st=true:=c;subst c;cases k <;> cases l <;> simp [LN,pH,pN,pZ,pV,pT,pQ,pD,pX,oC] at O ⊢ <;> omega
  ·rename_i c;simp only [List.mem_singleton,Prod.mk.injEq] at K;obtain⟨rfl,rfl,-,rfl⟩:=K;cases st
   ·cases k <;> cases l <;> simp [LN,pH,pN,pZ,pV,pT,pQ,pD,pX,oC] at O ⊢ <;> omega
   ·exact absurd rfl c
 case DY ex=>
  obtain⟨rfl,rfl,-,rfl⟩:=K;simp only [Ds] at U;obtain⟨rfl,rfl,rfl,ac,am,-⟩:=U;cases ex <;> simp [LN,pH,pN,pZ,pV,pT,pQ,pD,pX,oC] at O am ⊢ <;> omega
 case len=>obtain⟨rfl,rfl,-,rfl⟩:=K;exact O
 case Kv=>obtain⟨rfl,rfl,-,rfl⟩:=K;exact O
 case JF=>obtain⟨rfl,rfl,-,rfl⟩:=K;exact O
 case Gt=>obtain⟨rfl,rfl,-,rfl⟩:=K;exact O
 case JR=>obtain⟨rfl,rfl,-,rfl⟩:=K;exact O
 case JM=>obtain⟨rfl,rfl,-,rfl⟩:=K;exact O
 case JJ=>obtain⟨rfl,rfl,-,rfl⟩:=K;exact O
 case HE=>
  obtain⟨rfl,rfl,-,rfl⟩:=K;simp only [Ds] at U;obtain⟨rfl,-⟩:=U;rcases Nat.eq_zero_or_pos w with rfl | hw
  ·cases st <;> cases k <;> simp [LN,pH,pN,pZ,pV,pT,pQ,pD,pX,oC] at O ⊢ <;> omega
  ·have al:¬w=0:=by omega
   cases st <;> cases k <;> simp [LN,pH,pN,pZ,pV,pT,pQ,pD,pX,oC,al] at O ⊢ <;> omega
 case ED old=>
  simp only [Ds] at U;obtain⟨k1,Y,Z,ac,-⟩:=U;split at K
  ·rename_i e;subst e;simp only at k1 Y Z ac;subst k1 Y Z;simp only [List.mem_singleton,Prod.mk.injEq] at K;obtain⟨rfl,rfl,-,rfl⟩:=K;simp [LN,pH,pN,pZ,pV,pT,pQ,pD,pX,oC] at O ⊢;omega
  ·simp only [List.mem_singleton,Prod.mk.injEq] at K;obtain⟨rfl,rfl,-,rfl⟩:=K;exact O
 case Hb=>
  obtain⟨rfl,rfl,-,rfl⟩:=K;rcases Nat.eq_zero_or_pos w with rfl | hw
  ·cases st <;> cases k <;> cases l <;> simp [LN,pH,pN,pZ,pV,pT,pQ,pD,pX,oC] at O ⊢ <;> omega
  ·have al:¬w=0:=by omega
   cases st <;> cases k <;> cases l <;> simp [LN,pH,pN,pZ,pV,pT,pQ,pD,pX,oC,al] at O ⊢ <;> omega
 case ET b=>
  obtain⟨rfl,rfl,-,rfl⟩:=K;cases b <;> cases st <;> cases k <;> cases l <;> simp [LN,pH,pN,pZ,pV,pT,pQ,pD,pX,oC] at O ⊢ <;> omega
 case EV=>obtain⟨rfl,rfl,-,rfl⟩:=K;exact O
theorem LN.awake(O:LN m q (pH p+h) (pN p+rn) (pZ p+rs) (pV p+v) (pT p+t) (pQ p+s) (pD p+d) (pX p+x))(ag:pT p=1):m.k=true:=by
 obtain⟨l,k,st,w⟩:=m;obtain⟨al,U,Y⟩:=O;cases st
 ·obtain⟨a1,Z,K,ac⟩:=U rfl;cases k
  ·simp at K;omega
  ·rfl
 ·obtain⟨a1,Z,K,ac⟩:=Y rfl;omega
theorem LN.Z7(K:(m',q',es,o)∈F.BV p m q)(O:Ds p m q)(Z:La p m)(U:CX m)(al:LN m q (pH p+h) (pN p+rn) (pZ p+rs) (pV p+v) (pT p+t) (pQ p+s) (pD p+d) (pX p+x)):∀ac,o=some ac->La ac m':=by
 have ag:=λam=>al.awake am;cases p <;> simp only [Fam.BV,List.mem_singleton,Prod.mk.injEq,List.not_mem_nil] at K
 case G8=>
  split at K <;> simp only [List.mem_singleton,Prod.mk.injEq] at K <;> obtain⟨rfl,rfl,-,rfl⟩:=K <;> rintro _ ⟨⟩ <;> simp [La]
 case Ed sv aw it=>
  obtain⟨rfl,rfl,-,rfl⟩:=K;rintro _ ⟨⟩;exact⟨λe=>by subst e;exact ag rfl,Z.1,Z.2,U⟩
 case Cg sv aw it old=>
  simp only [Fam.Fq,List.mem_append] at K;simp only [Ds] at O;obtain⟨k1,Y,an,ao,ap,-⟩:=O;rcases K with K | K
  ·split at K
   ·rename_i c;split at K
    ·simp only [List.mem_singleton] at K;split at K <;> simp only [Prod.mk.injEq] at K <;> obtain⟨rfl,rfl,-,rfl⟩:=K <;> rintro _ ⟨⟩
     ·exact⟨λ_=>rfl,by omega⟩
     ·exact⟨Y,by omega⟩
    ·simp only [List.mem_singleton,Prod.mk.injEq] at K;obtain⟨rfl,rfl,-,rfl⟩:=K;rintro _ ⟨⟩;exact⟨λe=>by subst e;exact ag rfl,Y,by omega,U⟩
   ·simp at K
  ·split at K
   ·split at K
    ·simp only [List.mem_singleton,Prod.mk.injEq] at K;obtain⟨rfl,rfl,-,rfl⟩:=K;rintro _ ⟨⟩;trivial
    ·simp only [List.mem_cons,List.not_mem_nil,or_false,Prod.mk.injEq] at K;rcases K with⟨rfl,rfl,-,rfl⟩ | ⟨rfl,rfl,-,rfl⟩ <;> rintro _ ⟨⟩ <;> trivial
   ·simp only [List.mem_singleton,Prod.mk.injEq] at K;obtain⟨rfl,rfl,-,rfl⟩:=K;rintro _ ⟨⟩;exact⟨Y,an⟩
 case Co sv=>
  obtain⟨rfl,rfl,-,rfl⟩:=K;rintro _ h;cases sv <;> cases h <;> trivial
 case FR=>
  simp only [List.mem_cons,List.not_mem_nil,or_false,Prod.mk.injEq] at K;rcases K with⟨rfl,rfl,-,rfl⟩ | ⟨rfl,rfl,-,rfl⟩ <;> rintro _ ⟨⟩ <;> trivial
 case Eu sv=>
  simp only [Ds] at O;split at K
  ·rename_i c;simp only [List.mem_singleton,Prod.mk.injEq] at K;obtain⟨rfl,rfl,-,rfl⟩:=K;rintro _ ⟨⟩;intro e;have:=(O.1 c).2.2;simp at e;omega
  ·rename_i c;simp only [List.mem_singleton,Prod.mk.injEq] at K;obtain⟨rfl,rfl,-,rfl⟩:=K;rintro _ ⟨⟩;exact⟨λ_=>O.2.1 (by simpa using c),λ_=>rfl,by omega,U⟩
 case HE=>
  obtain⟨rfl,rfl,-,rfl⟩:=K;rintro _ h;split at h
  ·cases h;trivial
  ·rename_i c;split at h
   ·rename_i c2;cases h;exact⟨rfl,c2.1,by simpa using c,c2.2,U⟩
   ·cases h;trivial
 case ED old=>
  split at K <;> simp only [List.mem_singleton,Prod.mk.injEq] at K <;> obtain⟨rfl,rfl,-,rfl⟩:=K <;> rintro _ ⟨⟩ <;> trivial
 case Hb=>
  obtain⟨rfl,rfl,-,rfl⟩:=K;rintro _ h;split at h
  ·rename_i c;cases h;exact⟨c.1,c.2.1,c.2.2.1,c.2.2.2,U⟩
  ·cases h;trivial
 all_goals
  obtain⟨rfl,rfl,-,rfl⟩:=K;rintro _ ⟨⟩
 all_goals trivial
theorem LN.keepW(K:(m',q',es,o)∈F.BV p m q)(O:Ds p m q)(U:LN m q (pH p+h) (pN p+rn) (pZ p+rs) (pV p+v) (pT p+t) (pQ p+s) (pD p+d) (pX p+x))(hd:1<=d):m.w<=m'.w:=by
 obtain⟨l,k,st,w⟩:=m;obtain⟨al,Y,Z⟩:=U;have ac:st=true:=by
  cases st
  ·have:=(Y rfl).2.1;omega
  ·rfl
 subst ac;obtain⟨a1,am,an,ag,ao,ap⟩:=Z rfl;cases p <;> simp only [Fam.BV,List.mem_singleton,Prod.mk.injEq,List.not_mem_nil] at K
 case G8=>split at K <;> simp only [List.mem_singleton,Prod.mk.injEq] at K <;> obtain⟨rfl,rfl,-,rfl⟩:=K <;> simp_all [M4.zero]
 case Cg sv aw it old=>
  simp only [Fam.Fq,List.mem_append] at K;rcases K with K | K
  ·split at K
   ·split at K
    ·simp only [List.mem_singleton] at K;split at K <;> simp only [Prod.mk.injEq] at K <;> obtain⟨rfl,rfl,-,rfl⟩:=K <;> exact Nat.le_refl _
    ·simp only [List.mem_singleton,Prod.mk.injEq] at K;obtain⟨rfl,rfl,-,rfl⟩:=K;exact Nat.le_refl _
   ·simp at K
  ·split at K
   ·split at K
    ·simp only [List.mem_singleton,Prod.mk.injEq] at K;obtain⟨rfl,rfl,-,rfl⟩:=K;exact Nat.le_refl _
    ·simp only [List.mem_cons,List.not_mem_nil,or_false,Prod.mk.injEq] at K;rcases K with⟨rfl,rfl,-,rfl⟩ | ⟨rfl,rfl,-,rfl⟩ <;> simp
   ·simp only [List.mem_singleton,Prod.mk.injEq] at K;obtain⟨rfl,rfl,-,rfl⟩:=K;exact Nat.le_refl _
 case FR=>
  simp only [List.mem_cons,List.not_mem_nil,or_false,Prod.mk.injEq] at K;rcases K with⟨rfl,rfl,-,rfl⟩ | ⟨rfl,rfl,-,rfl⟩ <;> exact Nat.le_refl _
 case Eu sv=>split at K <;> simp only [List.mem_singleton,Prod.mk.injEq] at K <;> obtain⟨rfl,rfl,-,rfl⟩:=K <;> exact Nat.le_refl _
 case DY ex=>simp only [pD] at ag;omega
 case ED old=>
  simp only [Ds] at O;split at K
  ·rename_i e;subst e;exact absurd O.2.2.1 (by simp)
  ·simp only [List.mem_singleton,Prod.mk.injEq] at K;obtain⟨rfl,rfl,-,rfl⟩:=K;exact Nat.le_refl _
 all_goals
  obtain⟨rfl,rfl,-,rfl⟩:=K;exact Nat.le_refl _
end
def C4(f:LP->Nat):Nx->Nat
 | .ph (.lk _ p)=>f p
 | _=>0
def NP:Nx->M4->Prop
 | .ph (.lk _ p),m=>La p m
 | _,_=>True
def Sg(f:LP->Nat)(N:Nat)(φ:Nat->Nx):Nat:=sumTo N λi=>C4 f (φ i)
structure LI (N:Nat) (φ:Nat->Nx) (m:M4) (q:Nat):Prop where
 ln:LN m q (Sg pH N φ) (Sg pN N φ) (Sg pZ N φ) (Sg pV N φ) (Sg pT N φ) (Sg pQ N φ) (Sg pD N φ) (Sg pX N φ)
 loc:∀i,i<N->NP (φ i) m
section
variable {F:Fam}{N i k:Nat}{φ:Nat->Nx}{p:LP}{m m':M4}{q q':Nat}{es:Array Event}{o:Option LP}{y:Nx}
theorem Pw(f:LP->Nat)(hi:i<N):Sg f N (upd φ i y)+C4 f (φ i)=Sg f N φ+C4 f y:=sumTo_upd φ y (C4 f) hi
theorem Fy(f:LP->Nat)(hi:i<N)(K:φ i= .ph (.lk k p)):∃r,Sg f N φ=f p+r/\∀o,Sg f N (upd φ i (.ph (Fam.C3 k o)))=oC f o+r:=by
 have O:C4 f (φ i)<=Sg f N φ:=le_sumTo (f:=λi=>C4 f (φ i)) hi;have e:C4 f (φ i)=f p:=by rw [K];rfl
 refine⟨Sg f N φ - f p,by omega,λo=>?_⟩;have U:=Pw (φ:=φ) (y:= .ph (Fam.C3 k o)) f hi;have Y:C4 f (.ph (Fam.C3 k o))=oC f o:=by cases o <;> rfl
 omega
theorem MZ(f:LP->Nat)(hi:i<N)(K:C4 f (φ i)=C4 f y):Sg f N (upd φ i y)=Sg f N φ:=by
 have:=Pw (φ:=φ) (y:=y) f hi;omega
theorem LI.other(h:LI N φ m q)(hi:i<N)(U:∀k p,φ i≠ .ph (.lk k p))(K:∀k p,y≠ .ph (.lk k p)):LI N (upd φ i y) m q:=by
 have z:∀(f:LP->Nat) x,(∀k p,x≠Nx.ph (.lk k p))->C4 f x=0:=by
  intro f x Y;cases x with
  | gone d=>rfl
  | ph p=>cases p <;> first | rfl | exact absurd rfl (Y _ _)
 have e:∀f,Sg f N (upd φ i y)=Sg f N φ:=λf=>MZ f hi (by rw [z f _ U,z f _ K]);refine⟨by simp only [e];exact h.ln,λa Z=>?_⟩;by_cases O:a=i
 ·subst O;rw [upd_same];cases y with
  | gone d=>trivial
  | ph p=>cases p <;> first | trivial | exact absurd rfl (K _ _)
 ·rw [upd_ne _ _ O];exact h.loc a Z
theorem LI.ok(h:LI N φ m q)(hi:i<N)(K:φ i= .ph (.lk k p))(Y:CX m)(Z:∀sv,p= .Co sv->q≠0):Ds p m q:=by
 obtain⟨a,ac,-⟩:=Fy pH hi K;obtain⟨b,ag,-⟩:=Fy pN hi K;obtain⟨c,al,-⟩:=Fy pZ hi K;obtain⟨d,am,-⟩:=Fy pV hi K;obtain⟨e,an,-⟩:=Fy pT hi K;obtain⟨f,ao,-⟩:=Fy pQ hi K;obtain⟨g,ap,-⟩:=Fy pD hi K;obtain⟨j,aq,-⟩:=Fy pX hi K;have O:=h.ln;rw [ac,ag,al,am,an,ao,ap,aq] at O;have U:=h.loc i hi;rw [K] at U;exact XN O U Y Z
theorem LI.step(h:LI N φ m q)(hi:i<N)(K:φ i= .ph (.lk k p))(ao:CX m)(U:Ds p m q)(Y:(m',q',es,o)∈F.BV p m q):LI N (upd φ i (.ph (Fam.C3 k o))) m' q':=by
 obtain⟨a,ap,aq⟩:=Fy pH hi K;obtain⟨b,ar,au⟩:=Fy pN hi K;obtain⟨c,av,aw⟩:=Fy pZ hi K;obtain⟨d,ay,az⟩:=Fy pV hi K;obtain⟨e,aA,aB⟩:=Fy pT hi K;obtain⟨f,aC,aD⟩:=Fy pQ hi K;obtain⟨g,aE,aF⟩:=Fy pD hi K;obtain⟨j,aG,aH⟩:=Fy pX hi K;have O:=h.ln;rw [ap,ar,av,ay,aA,aC,aE,aG] at O;have ag:=h.loc i hi;rw [K] at ag;refine⟨by rw [aq,au,aw,az,aB,aD,aF,aH];exact O.step Y U,λy al=>?_⟩;by_cases Z:y=i
 ·subst Z;rw [upd_same];cases o with
  | none=>trivial
  | some aI=>exact O.Z7 Y U ag ao aI rfl
 ·rw [upd_ne _ _ Z];have ac:=h.loc y al;cases am:φ y with
  | gone d=>trivial
  | ph p0=>
   cases p0 with
   | lk aJ p0=>
    rw [am] at ac;cases p0 <;> try exact ac
    rename_i ex;intro aK;have hd:1<=g:=by
     have aL:=Pw (N:=N) (φ:=φ) (i:=i) (y:= .gone 0) pD hi;have an:C4 pD (upd φ i (.gone 0) y)<=Sg pD N (upd φ i (.gone 0)):=le_sumTo (f:=λa=>C4 pD (upd φ i (.gone 0) a)) al;rw [upd_ne _ _ Z,am] at an;have aM:C4 pD (φ i)=pD p:=by rw [K];rfl
     have e2:C4 pD (.gone 0)=0:=rfl;have aN:C4 pD (.ph (.lk aJ (.DY ex)))=1:=rfl;omega
    have:=O.keepW Y U hd;have an:2<=m.w:=ac aK;omega
   | _=>trivial
end
end Pal
namespace Pal
open Go Go.Conc
open Go.ConcN (upd upd_same upd_ne sumTo sumTo_upd sumTo_upd_out sumTo_congr le_sumTo sumTo_le)
def Hf:LP->Nat
 | .len=>22 | .Kv=>21 | .JF=>20 | .Fu=>19 | .Gt=>18 | .JR=>17 | .JM=>16 | .JJ=>15 | .HE=>14
 | .ED _=>13 | .Hb=>13 | .ET _=>12 | .EV=>11
 | _=>23
def kw:LP->Nat
 | .FT | .G8=>2
 | .Ed _ aw _=>if aw then 1 else 2
 | .Cg _ aw _ _=>if aw then 1 else 2
 | .FR | .Eu _ | .DY _=>1
 | _=>0
def lc(m:M4):LP->Nat
 | .FT=>27 | .G8=>26 | .Ed _ _ it=>2*(5 - it)+1
 | .Cg _ _ it old=>2*(5 - it)+if m=old then 0 else 2
 | .H7 _=>24 | .Co _=>23 | .FR=>22 | .Eu _=>21
 | .ED old=>if m=old then 1 else 3
 | .Hb=>2
 | _=>0
def wO:Option LP->Nat
 | some p=>Hf p
 | none=>9
def wt(n:Nat):Nx->Nat
 | .gone _=>0
 | .ph p=>match p with
  | .G9 _=>10 | .HI=>9 | .Gr=>8 | .II=>7 | .Hc=>6 | .GH=>5 | .G5=>4 | .Fe=>3
  | .Db=>3*n+25 | .FP m=>3*m+20 | .Ha m=>3*m+19 | .Im=>14 | .HK=>13 | .Ft=>12 | .G6=>11 | .FU=>10 | .Ic=>9 | .Gc=>8 | .Hv=>7
  | .F9 j=>5*n+90+50*(n - j) | .Ii j=>5*n+89+50*(n - j) | .Ip j=>5*n+88+50*(n - j) | .HB j=>5*n+87+50*(n - j) | .GQ j=>5*n+86+50*(n - j) | .FF j=>5*n+85+50*(n - j)
  | .GL=>5*n+60 | .FB _ _=>2
  | .lk _ p=>Hf p
theorem Yu{F:Fam}{p:Ph}{v w sm v' w' sm':Nat}{es:Array Event}{K:Nx}(h:F.act p v w sm=some ((v',w',sm'),es,K)):wt F.n K<wt F.n (.ph p):=by
  cases p <;> simp only [Fam.act] at h <;> (try (cases h;done))
  case Hc=>
    split at h
    ·cases h;split <;> simp [wt]
    ·cases h
  case FP=>
    split at h
    ·cases h;split <;> simp [wt] <;> omega
    ·cases h
  case Ha=>
    split at h
    ·split at h <;> cases h <;> simp [wt] <;> omega
    ·cases h
  case Ii=>
    split at h
    ·cases h;split <;> simp [wt]
    ·cases h
  all_goals first
    | (cases h;simp [wt];done)
    | (split at h
       ·cases h;simp [wt]
       ·cases h)
section
variable {F:Fam}{p:LP}{m m':M4}{q q':Nat}{es:Array Event}{o:Option LP}
theorem Xy(K:(m',q',es,o)∈F.BV p m q)(O:Ds p m q):wO o<Hf p∨(wO o=Hf p/\(oC kw o+q'<kw p+q∨(oC kw o+q'=kw p+q/\m'=m/\oC (lc m) o<lc m p))):=by
 cases p <;> simp only [Fam.BV,List.mem_singleton,Prod.mk.injEq,List.not_mem_nil] at K
 case G8=>
  split at K <;> simp only [List.mem_singleton,Prod.mk.injEq] at K <;> obtain⟨rfl,rfl,-,rfl⟩:=K
  ·exact .inl (by simp [wO,Hf])
  ·exact .inr ⟨rfl,.inr ⟨rfl,rfl,by simp [oC,lc]⟩⟩
 case Ed sv aw it=>
  obtain⟨rfl,rfl,-,rfl⟩:=K;exact .inr ⟨rfl,.inr ⟨rfl,rfl,by simp [oC,lc]⟩⟩
 case Cg sv aw it old=>
  simp only [Fam.Fq,List.mem_append] at K;simp only [Ds] at O;obtain⟨k1,U,Y,Z,ac,-⟩:=O;rcases K with K | K
  ·split at K
   ·rename_i c;split at K
    ·rename_i c2;simp only [List.mem_singleton] at K;obtain⟨rfl,c3,c4⟩:=c2;split at K <;> simp only [Prod.mk.injEq] at K <;> obtain⟨rfl,rfl,-,rfl⟩:=K
     ·exact .inr ⟨rfl,.inl (by simp [oC,kw])⟩
     ·rename_i e;refine .inr ⟨rfl,.inr ⟨rfl,rfl,?_⟩⟩;simp only [oC,lc,if_neg e];omega
    ·simp only [List.mem_singleton,Prod.mk.injEq] at K;obtain⟨rfl,rfl,-,rfl⟩:=K;refine .inr ⟨rfl,.inr ⟨rfl,rfl,?_⟩⟩;simp only [oC,lc,if_true];omega
   ·simp at K
  ·split at K
   ·rename_i e;split at K
    ·simp only [List.mem_singleton,Prod.mk.injEq] at K;obtain⟨rfl,rfl,-,rfl⟩:=K;exact .inl (by simp [wO,Hf])
    ·simp only [List.mem_cons,List.not_mem_nil,or_false,Prod.mk.injEq] at K;rcases K with⟨rfl,rfl,-,rfl⟩ | ⟨rfl,rfl,-,rfl⟩ <;> exact .inr ⟨rfl,.inl (by cases aw <;> simp [oC,kw])⟩
   ·rename_i e;simp only [List.mem_singleton,Prod.mk.injEq] at K;obtain⟨rfl,rfl,-,rfl⟩:=K;refine .inr ⟨rfl,.inr ⟨rfl,rfl,?_⟩⟩;simp only [oC,lc,if_neg e];omega
 case Co sv=>
  obtain⟨rfl,rfl,-,rfl⟩:=K;simp only [Ds] at O;cases sv
  ·refine .inr ⟨rfl,.inr ⟨?_,rfl,by simp [oC,lc]⟩⟩;simp only [oC,kw,Bool.false_eq_true,if_false];omega
  ·refine .inr ⟨rfl,.inr ⟨?_,rfl,by simp [oC,lc]⟩⟩;simp only [oC,kw,if_true];omega
 case FR=>
  simp only [List.mem_cons,List.not_mem_nil,or_false,Prod.mk.injEq] at K;rcases K with⟨rfl,rfl,-,rfl⟩ | ⟨rfl,rfl,-,rfl⟩ <;> exact .inr ⟨rfl,.inr ⟨rfl,rfl,by simp [oC,lc]⟩⟩
 case Eu sv=>
  split at K <;> simp only [List.mem_singleton,Prod.mk.injEq] at K <;> obtain⟨rfl,rfl,-,rfl⟩:=K <;> exact .inr ⟨rfl,.inr ⟨rfl,rfl,by simp [oC,lc]⟩⟩
 case HE=>
  obtain⟨rfl,rfl,-,rfl⟩:=K;refine .inl ?_;split
  ·simp [wO,Hf]
  ·split <;> simp [wO,Hf]
 case ED old=>
  split at K <;> simp only [List.mem_singleton,Prod.mk.injEq] at K <;> obtain⟨rfl,rfl,-,rfl⟩:=K
  ·exact .inl (by simp [wO,Hf])
  ·rename_i e;refine .inr ⟨rfl,.inr ⟨rfl,rfl,?_⟩⟩;simp only [oC,lc,if_neg e];omega
 case Hb=>
  obtain⟨rfl,rfl,-,rfl⟩:=K;split
  ·exact .inr ⟨rfl,.inr ⟨rfl,rfl,by simp [oC,lc]⟩⟩
  ·exact .inl (by simp [wO,Hf])
 case H7 sv=>obtain⟨rfl,rfl,-,rfl⟩:=K;exact .inr ⟨rfl,.inr ⟨rfl,rfl,by simp [oC,lc]⟩⟩
 case FT=>obtain⟨rfl,rfl,-,rfl⟩:=K;exact .inr ⟨rfl,.inr ⟨rfl,rfl,by simp [oC,lc]⟩⟩
 all_goals
  obtain⟨rfl,rfl,-,rfl⟩:=K;exact .inl (by simp [wO,Hf])
end
def Dn(N:Nat)(r' r:Nat->Rk):Prop:=∃i,i<N/\Rk.sub (r' i) (r i)/\∀j,j≠i->r' j=r j
theorem Dn.wf:∀N,WellFounded (Dn N)
 | 0=>⟨λ_=>⟨_,λ_ ⟨_,h,_⟩=>by omega⟩⟩
 | N+1=>⟨by
  have key:∀x:Rk,∀r:Nat->Rk,r N=x->Acc (Dn (N+1)) r:=by
   intro x
   induction x using Rk.wf.induction with
   | _ x Y=>
    intro r
    induction r using (Dn.wf N).induction with
    | _ r Z=>
     intro e
     refine⟨_,λr' ⟨i,hi,K,O⟩=>?_⟩
     by_cases U:i=N
     ·subst U;exact Y (r' i) (by rw [← e];exact K) r' rfl
     ·exact Z r' ⟨i,by omega,K,O⟩ (by rw [O N (Ne.symm U),e])
  exact λr=>key _ r rfl⟩
def chain:Nat->Rk
 | 0=> .leaf
 | n+1=> .node λ_=>chain n
theorem VI(n:Nat)(w:World):Rk.sub (chain n) (chain (n+1)):=⟨_,w,rfl,rfl⟩
structure Mu where
 a:Nat
 k:Nat
 l:Nat
 N:Nat
 r:Nat->Rk
 b:Nat
def Mu.lt(x y:Mu):Prop:=x.a<y.a∨(x.a=y.a/\(x.k<y.k∨(x.k=y.k/\(x.l<y.l∨(x.l=y.l/\x.N=y.N/\(Dn y.N x.r y.r∨(x.r=y.r/\x.b<y.b)))))))
theorem Mu.wf:WellFounded Mu.lt:=⟨by
 have key:∀(a k l N:Nat) (r:Nat->Rk) (b:Nat),Acc Mu.lt ⟨a,k,l,N,r,b⟩:=by
  intro a
  induction a using Nat.strongRecOn with
  | _ a ag=>
   intro k
   induction k using Nat.strongRecOn with
   | _ k al=>
    intro l
    induction l using Nat.strongRecOn with
    | _ l am=>
     intro N r
     induction r using (Dn.wf N).induction with
     | _ r an=>
      intro b
      induction b using Nat.strongRecOn with
      | _ b ao=>
       refine⟨_,λ⟨ap,k',l',N',r',b'⟩ h=>?_⟩
       rcases h with h | ⟨K,h | ⟨O,h | ⟨U,Y,h | ⟨Z,ac⟩⟩⟩⟩
       ·exact ag ap h k' l' N' r' b'
       ·simp only at K h;subst K;exact al k' h l' N' r' b'
       ·simp only at K O h;subst K O;exact am l' h N' r' b'
       ·simp only at K O U Y h;subst K O U Y;exact an r' h b'
       ·simp only at K O U Y Z ac;subst K O U Y Z;exact ao b' ac
 exact λ⟨a,k,l,N,r,b⟩=>key a k l N r b⟩
def bit(b:Bool):Nat:=if b then 1 else 0
def mu(F:Fam)(N:Nat)(φ:Nat->Nx)(m:M4)(q:Nat)(r:Nat->Rk)(bt:Nat->Bool):Mu:=⟨sumTo N λi=>wt F.n (φ i),Sg kw N φ+q,Sg (lc m) N φ,N,r,sumTo N λi=>bit (bt i)⟩
section
variable {F:Fam}{N N' i k:Nat}{φ φ':Nat->Nx}{p:LP}{m m':M4}{q q':Nat}{es:Array Event}{o:Option LP}{r r':Nat->Rk}{b b':Nat->Bool}{x:Nx}{ρ:Rk}
theorem Zh(h:(sumTo N' λi=>wt F.n (φ' i))<sumTo N λi=>wt F.n (φ i)):Mu.lt (mu F N' φ' m' q' r' b') (mu F N φ m q r b):= .inl h
theorem Tb(hi:i<N)(h:wt F.n x<wt F.n (φ i)):Mu.lt (mu F N (upd φ i x) m' q' r' b') (mu F N φ m q r b):=by
 have:=sumTo_upd φ x (wt F.n) hi;exact .inl (by show(sumTo N λa=>wt F.n (upd φ i x a))<sumTo N λa=>wt F.n (φ a);omega)
theorem TL(hi:i<N)(K:∀f,C4 f x=C4 f (φ i))(hw:wt F.n x=wt F.n (φ i))(h:Rk.sub ρ (r i)):Mu.lt (mu F N (upd φ i x) m q (upd r i ρ) b') (mu F N φ m q r b):=by
 have:=sumTo_upd φ x (wt F.n) hi;refine .inr ⟨by show(sumTo N λa=>wt F.n (upd φ i x a))=sumTo N λa=>wt F.n (φ a);omega,.inr ⟨by show Sg kw N (upd φ i x)+q=_;rw [MZ kw hi (K kw).symm];rfl,.inr ⟨MZ (lc m) hi (K _).symm,rfl,.inl ⟨i,hi,?_,λa O=>upd_ne _ _ O⟩⟩⟩⟩;show Rk.sub (upd r i ρ i) _;rw [upd_same];exact h
theorem Z2(hi:i<N)(K:φ i= .ph (.lk k p))(Y:(m',q',es,o)∈F.BV p m q)(Z:Ds p m q):Mu.lt (mu F N (upd φ i (.ph (Fam.C3 k o))) m' q' r' b') (mu F N φ m q r b):=by
 have hw:=sumTo_upd φ (.ph (Fam.C3 k o)) (wt F.n) hi;have ac:wt F.n (φ i)=Hf p:=by rw [K];rfl
 have e2:wt F.n (.ph (Fam.C3 k o))=wO o:=by cases o <;> rfl
 rw [ac,e2] at hw;obtain⟨a,O,U⟩:=Fy (k:=k) kw hi K;obtain⟨c,ag,al⟩:=Fy (k:=k) (lc m) hi K;rcases Xy Y Z with h | ⟨an,h | ⟨ao,am,ap⟩⟩
 ·exact .inl (by show(sumTo N λa=>wt F.n (upd φ i _ a))<sumTo N λa=>wt F.n (φ a);omega)
 ·exact .inr ⟨by show(sumTo N λa=>wt F.n (upd φ i _ a))=sumTo N λa=>wt F.n (φ a);omega,.inl (by show Sg kw N (upd φ i _)+q'<Sg kw N φ+q;rw [O,U];omega)⟩
 ·subst am;exact .inr ⟨by show(sumTo N λa=>wt F.n (upd φ i _ a))=sumTo N λa=>wt F.n (φ a);omega,.inr ⟨by show Sg kw N (upd φ i _)+q'=Sg kw N φ+q;rw [O,U];omega,.inl (by show Sg (lc m') N (upd φ i _)<Sg (lc m') N φ;rw [ag,al];omega)⟩⟩
end
end Pal
namespace Pal
open Go Go.Conc
open Go.ConcN (upd upd_same upd_ne sumTo sumTo_upd sumTo_upd_out sumTo_congr le_sumTo sumTo_le fork_knows RelBy)
section
variable {F:Fam}{N0 t0 N j:Nat}{φ:Nat->Nx}{S:Nat->St}{t u:Trace}{v wt sm v' wt' sm':Nat}
theorem MO{α:Type}(f:Nat->α)(i:Nat):upd f i (f i)=f:=by
 funext a;unfold upd;split
 ·rename_i e;rw [e]
 ·rfl
def Fv(F:Fam)(K:Prop)(e:Event):Prop:=
 (∀a,(MemAct.ofEvent e).touch? =some a->(∃b,CF a.loc=some b/\(b=F.wg∨b=F.mu))/\a.kind≠ .plain/\(a.kind= .said->K))/\e.loc≠ .mark (.release F.sA)
theorem Fv.toS{K:Prop}{e:Event}{i:Nat}(h:Fv F K e)(O:K->i=0):EvS F N0 j i e:=
 ⟨λa U=>let ⟨⟨b,Y,Z⟩,ac,ag⟩:=h.1 a U;⟨b,Y,.inl ⟨Z,ac,λq=>O (ag q)⟩⟩,h.2⟩
theorem Fv.keep{O:Prop}{e:Event}{i:Nat}(h:Fv F O e)(Y:O->i=0)(Z:F.fd≠F.wg)(ac:F.fd≠F.mu):(∀a b,(MemAct.ofEvent e).touch? =some a->CF a.loc=some b->(b=F.wg∨b=F.mu)->a.kind≠ .plain/\(a.kind= .said->i=0))/\
   (∀a,(MemAct.ofEvent e).touch? =some a->CF a.loc=some F.fd->∃k,k<j/\i=N0+k/\a.loc= .cell ⟨F.fd,k,none⟩/\a.kind= .plain)/\e.loc≠ .mark (.release F.sA):=
 ⟨λa b K _ _=>⟨(h.1 a K).2.1,λq=>Y ((h.1 a K).2.2 q)⟩,λa K hb=>by
  obtain⟨⟨b,U,ag⟩,-⟩:=h.1 a K
  rw [hb] at U
  obtain rfl:=Option.some.inj U
  rcases ag with e | e
  ·exact absurd e Z
  ·exact absurd e ac,h.2⟩
theorem Q9{m:Mark}(K:∀a,m≠ .read a)(O:∀a,m≠ .write a):(MemAct.ofEvent (Fam.Cx m)).touch? =none:=by
 cases m <;> first | rfl | exact absurd rfl (K _) | exact absurd rfl (O _)
theorem YA(p:Ph){es:Array Event}{ao:Nx}(K:F.act p v wt sm=some ((v',wt',sm'),es,ao)):
  (∀e∈es,Fv F (p= .HK∨∃j,p= .HB j) e)/\deafBehind (FE (.ph p)) es=FE ao/\(∀e∈es,∀B,F.wg<B->(MemAct.ofEvent e).low B):=by
 have av:∀b w,(MemAct.ofEvent ⟨.cell F.sA,w,b⟩).touch? =some ⟨.cell F.sA,w,if b then .atomic else .plain⟩:=by intro b w;cases b <;> cases w <;> rfl
 have ac:∀(a:Addr) w (T:Prop),a.block=F.wg->Fv F T ⟨.cell a,w,true⟩:=by
  intro a w T hb;refine⟨λx U=>?_,by simp⟩;have:x=⟨.cell a,w,.atomic⟩:=by cases w <;> (simp [MemAct.ofEvent,MemAct.touch?] at U;exact U.symm)
  subst this;exact⟨⟨F.wg,by simp [CF,hb],.inl rfl⟩,by simp,by simp⟩
 have ag:∀(a:Addr) w B,a.block=F.wg->F.wg<B->(MemAct.ofEvent ⟨.cell a,w,true⟩).low B:=by
  intro a w B hb O;cases w <;> simp [MemAct.ofEvent,MemAct.low,Loc.low,hb,O]
 have GM:∀(m:Mark) (T:Prop),(∀a,m≠ .read a)->(∀a,m≠ .write a)->(∀a,m≠ .release a)->Fv F T (Fam.Cx m):=by
  intro m T aq ar au;exact⟨λx U=>(by rw [Q9 aq ar] at U;cases U),λe=>au _ (Loc.mark.inj e)⟩
 have al:F.mA.block=F.wg:=rfl;have Z:F.sA.block=F.wg:=rfl;have EW:∀(T:Prop),∀e∈semEvents F.mA,Fv F T e:=by
  intro T e he;simp only [semEvents,List.mem_toArray,List.mem_cons,List.not_mem_nil,or_false] at he;rcases he with rfl | rfl | rfl | rfl
  ·exact GM .disable T (by simp) (by simp) (by simp)
  ·exact ac _ _ _ al
  ·exact ac _ _ _ al
  ·exact GM .enable T (by simp) (by simp) (by simp)
 have ap:∀e∈semEvents F.mA,∀B,F.wg<B->(MemAct.ofEvent e).low B:=by
  intro e he B O;simp only [semEvents,List.mem_toArray,List.mem_cons,List.not_mem_nil,or_false] at he;rcases he with rfl | rfl | rfl | rfl
  ·trivial
  ·exact ag _ _ _ al O
  ·exact ag _ _ _ al O
  ·trivial
 have am:∀(T:Prop),∀e∈(#[Fam.B7 F.sA,Fam.El F.sA]:Array Event),Fv F T e:=by
  intro T e he;simp only [List.mem_toArray,List.mem_cons,List.not_mem_nil,or_false] at he;rcases he with rfl | rfl <;> exact ac _ _ _ Z
 have an:∀e∈(#[Fam.B7 F.sA,Fam.El F.sA]:Array Event),∀B,F.wg<B->(MemAct.ofEvent e).low B:=by
  intro e he B O;simp only [List.mem_toArray,List.mem_cons,List.not_mem_nil,or_false] at he;rcases he with rfl | rfl <;> exact ag _ _ _ Z O
 have one:∀{e:Event} {T:Prop},Fv F T e->∀x∈(#[e]:Array Event),Fv F T x:=by
  intro e T h x U;simp at U;subst U;exact h
 have Y:∀{e:Event},(∀B,F.wg<B->(MemAct.ofEvent e).low B)->∀x∈(#[e]:Array Event),∀B,F.wg<B->(MemAct.ofEvent x).low B:=by
  intro e h x U;simp at U;subst U;exact h
 cases p <;> simp only [Fam.act] at K <;> (try (cases K;done))
 ·cases K;exact⟨one (GM _ _ (by simp) (by simp) (by simp)),rfl,Y λB O=>O⟩
 ·cases K;exact⟨one (GM _ _ (by simp) (by simp) (by simp)),rfl,Y λB O=>trivial⟩
 ·split at K
  ·cases K;exact⟨am _,by split <;> rfl,an⟩
  ·cases K
 ·split at K
  ·cases K;exact⟨one (ac _ _ _ Z),rfl,Y λB O=>ag _ _ _ Z O⟩
  ·cases K
 ·split at K
  ·cases K;exact⟨one (ac _ _ _ Z),rfl,Y λB O=>ag _ _ _ Z O⟩
  ·cases K
 ·split at K
  ·cases K;exact⟨EW _,rfl,ap⟩
  ·cases K
 ·cases K;exact⟨one (GM _ _ (by simp) (by simp) (by simp)),rfl,Y λB O=>trivial⟩
 ·split at K
  ·cases K;exact⟨one (ac _ _ _ Z),by split <;> rfl,Y λB O=>ag _ _ _ Z O⟩
  ·cases K
 ·split at K
  ·split at K
   ·cases K;exact⟨am _,rfl,an⟩
   ·cases K;exact⟨one (ac _ _ _ Z),rfl,Y λB O=>ag _ _ _ Z O⟩
  ·cases K
 ·cases K;refine⟨one ⟨λx U=>?_,by simp [Fam.Cx]⟩,rfl,Y λB O=>O⟩;simp [Fam.Cx,MemAct.ofEvent,MemAct.touch?] at U;subst U;exact⟨⟨F.wg,rfl,.inl rfl⟩,by simp,λ_=> .inl rfl⟩
 ·split at K
  ·cases K;exact⟨EW _,rfl,ap⟩
  ·cases K
 ·split at K
  ·cases K;exact⟨one (ac _ _ _ Z),rfl,Y λB O=>ag _ _ _ Z O⟩
  ·cases K
 ·cases K;exact⟨one (GM _ _ (by simp) (by simp) (by simp)),rfl,Y λB O=>trivial⟩
 ·cases K;exact⟨one (GM _ _ (by simp) (by simp) (by simp)),rfl,Y λB O=>trivial⟩
 ·split at K
  ·cases K;exact⟨am _,by split <;> rfl,an⟩
  ·cases K
 ·cases K;refine⟨one ⟨λx U=>?_,by simp [Fam.Cx]⟩,rfl,Y λB O=>O⟩;simp [Fam.Cx,MemAct.ofEvent,MemAct.touch?] at U;subst U;exact⟨⟨F.wg,rfl,.inl rfl⟩,by simp,λ_=> .inr ⟨_,rfl⟩⟩
 ·cases K;exact⟨one (GM _ _ (by simp) (by simp) (by simp)),rfl,Y λB O=>trivial⟩
 all_goals
  cases K;exact⟨by simp,rfl,by simp⟩
theorem WS(p:Ph){es:Array Event}{U:Nx}(K:F.act p v wt sm=some ((v',wt',sm'),es,U)){k:Nat}(hw:GG F k (.ph p))(O:late (.ph p)):
  ∀m e,es[m]? =some e->(MemAct.ofEvent e).touch? =none∨((∃ad wr,e=⟨.cell ad,wr,true⟩)/\0<deafBehind (FE (.ph p)) (es.extract 0 m)):=by
 have two:∀m e,(#[Fam.B7 F.sA,Fam.El F.sA]:Array Event)[m]? =some e->(∃ad wr,e=⟨.cell ad,wr,true⟩)/\0<deafBehind 1 ((#[Fam.B7 F.sA,Fam.El F.sA]:Array Event).extract 0 m):=by
  intro m e h
  match m with
  | 0=>simp at h;subst h;exact⟨⟨_,_,rfl⟩,by simp [deafBehind]⟩
  | 1=>simp at h;subst h;exact⟨⟨_,_,rfl⟩,by simp [deafBehind,Fam.B7]⟩
  | m+2=>simp at h
 cases p <;> simp only [GG] at hw <;> (try exact hw.elim) <;> simp only [late] at O <;> (try exact O.elim) <;> simp only [Fam.act] at K <;> (try (cases K;done))
 ·cases K;intro m e h
  match m with
  | 0=>simp at h;subst h;exact .inl rfl
  | m+1=>simp at h
 ·split at K
  ·cases K;exact λm e h=> .inr (two m e h)
  ·cases K
 ·split at K
  ·cases K;intro m e h
   match m with
   | 0=>simp at h;subst h;exact .inr ⟨⟨_,_,rfl⟩,by simp [deafBehind,FE]⟩
   | m+1=>simp at h
  ·cases K
 ·split at K
  ·cases K;intro m e h
   match m with
   | 0=>simp at h;subst h;exact .inr ⟨⟨_,_,rfl⟩,by simp [deafBehind,FE]⟩
   | m+1=>simp at h
  ·cases K
 ·split at K
  ·cases K;intro m e h
   match m with
   | 0=>simp [semEvents] at h;subst h;exact .inl rfl
   | 1=>simp [semEvents] at h;subst h;exact .inr ⟨⟨_,_,rfl⟩,by simp [deafBehind,FE,semEvents]⟩
   | 2=>simp [semEvents] at h;subst h;exact .inr ⟨⟨_,_,rfl⟩,by simp [deafBehind,FE,semEvents]⟩
   | 3=>simp [semEvents] at h;subst h;exact .inl rfl
   | m+4=>simp [semEvents] at h
  ·cases K
theorem WZ{p:LP}{m m':M4}{q q':Nat}{es:Array Event}{o:Option LP}(K:(m',q',es,o)∈F.BV p m q):
  (∀e∈es,Fv F False e)/\deafBehind (dl p) es=oC dl o/\(∀e∈es,∀B,F.mu<B->(MemAct.ofEvent e).low B):=by
 have ac:∀(a:Addr) w,a.block=F.mu->Fv F False ⟨.cell a,w,true⟩:=by
  intro a w hb;refine⟨λx Z=>?_,by simp⟩;have:x=⟨.cell a,w,.atomic⟩:=by cases w <;> (simp [MemAct.ofEvent,MemAct.touch?] at Z;exact Z.symm)
  subst this;exact⟨⟨F.mu,by simp [CF,hb],.inr rfl⟩,by simp,by simp⟩
 have ag:∀(a:Addr) w B,a.block=F.mu->F.mu<B->(MemAct.ofEvent ⟨.cell a,w,true⟩).low B:=by
  intro a w B hb O;cases w <;> simp [MemAct.ofEvent,MemAct.low,Loc.low,hb,O]
 have GM:∀(m:Mark),(∀a,m≠ .read a)->(∀a,m≠ .write a)->(∀a,m≠ .release a)->Fv F False (Fam.Cx m):=by
  intro m al am an;exact⟨λx Z=>(by rw [Q9 al am] at Z;cases Z),λe=>an _ (Loc.mark.inj e)⟩
 have nil:∀d,(∀e∈(#[]:Array Event),Fv F False e)/\deafBehind d #[]=d/\(∀e∈(#[]:Array Event),∀B,F.mu<B->(MemAct.ofEvent e).low B):=λd=>⟨by simp,rfl,by simp⟩;have rd:∀d,(∀e∈(#[Fam.B7 F.uA]:Array Event),Fv F False e)/\deafBehind d #[Fam.B7 F.uA]=d/\(∀e∈(#[Fam.B7 F.uA]:Array Event),∀B,F.mu<B->(MemAct.ofEvent e).low B):=λd=>
  ⟨λe he=>by simp at he;subst he;exact ac _ _ rfl,rfl,λe he B O=>by simp at he;subst he;exact ag _ _ _ rfl O⟩
 have U:∀d,(∀e∈(#[Fam.B7 F.uA,Fam.El F.uA]:Array Event),Fv F False e)/\deafBehind d #[Fam.B7 F.uA,Fam.El F.uA]=d/\(∀e∈(#[Fam.B7 F.uA,Fam.El F.uA]:Array Event),∀B,F.mu<B->(MemAct.ofEvent e).low B):=λd=>
  ⟨λe he=>by
   simp only [List.mem_toArray,List.mem_cons,List.not_mem_nil,or_false] at he
   rcases he with rfl | rfl <;> exact ac _ _ rfl,rfl,λe he B O=>by
   simp only [List.mem_toArray,List.mem_cons,List.not_mem_nil,or_false] at he
   rcases he with rfl | rfl <;> exact ag _ _ _ rfl O⟩
 have EW:(∀e∈semEvents F.qA,Fv F False e)/\deafBehind 1 (semEvents F.qA)=1/\(∀e∈semEvents F.qA,∀B,F.mu<B->(MemAct.ofEvent e).low B):=by
  refine⟨λe he=>?_,rfl,λe he B O=>?_⟩
  ·simp only [semEvents,List.mem_toArray,List.mem_cons,List.not_mem_nil,or_false] at he;rcases he with rfl | rfl | rfl | rfl
   ·exact GM .disable (by simp) (by simp) (by simp)
   ·exact ac _ _ rfl
   ·exact ac _ _ rfl
   ·exact GM .enable (by simp) (by simp) (by simp)
  ·simp only [semEvents,List.mem_toArray,List.mem_cons,List.not_mem_nil,or_false] at he;rcases he with rfl | rfl | rfl | rfl
   ·trivial
   ·exact ag _ _ _ rfl O
   ·exact ag _ _ _ rfl O
   ·trivial
 have Y:∀(m:Mark) (d d':Nat),(∀a,m≠ .read a)->(∀a,m≠ .write a)->(∀a,m≠ .release a)->deafBehind d #[Fam.Cx m]=d'->(∀B,F.mu<B->(MemAct.ofEvent (Fam.Cx m)).low B)->
   (∀e∈(#[Fam.Cx m]:Array Event),Fv F False e)/\deafBehind d #[Fam.Cx m]=d'/\(∀e∈(#[Fam.Cx m]:Array Event),∀B,F.mu<B->(MemAct.ofEvent e).low B):=λm d d' al am an ao ap=>
  ⟨λe he=>by simp at he;subst he;exact GM m al am an,ao,λe he B O=>by simp at he;subst he;exact ap B O⟩
 cases p <;> simp only [Fam.BV,List.mem_singleton,Prod.mk.injEq,List.not_mem_nil] at K
 case FT=>obtain⟨rfl,rfl,rfl,rfl⟩:=K;exact Y .disable 0 1 (by simp) (by simp) (by simp) rfl λB O=>trivial
 case G8=>
  split at K <;> simp only [List.mem_singleton,Prod.mk.injEq] at K <;> obtain⟨rfl,rfl,rfl,rfl⟩:=K
  ·exact U 1
  ·exact rd 1
 case Cg sv aw it old=>
  simp only [Fam.Fq,List.mem_append] at K;rcases K with K | K
  ·split at K
   ·split at K
    ·simp only [List.mem_singleton] at K;split at K <;> simp only [Prod.mk.injEq] at K <;> obtain⟨rfl,rfl,rfl,rfl⟩:=K
     ·exact U 1
     ·exact rd 1
    ·simp only [List.mem_singleton,Prod.mk.injEq] at K;obtain⟨rfl,rfl,rfl,rfl⟩:=K;exact nil 1
   ·simp at K
  ·split at K
   ·split at K
    ·simp only [List.mem_singleton,Prod.mk.injEq] at K;obtain⟨rfl,rfl,rfl,rfl⟩:=K;exact U 1
    ·simp only [List.mem_cons,List.not_mem_nil,or_false,Prod.mk.injEq] at K;rcases K with⟨rfl,rfl,rfl,rfl⟩ | ⟨rfl,rfl,rfl,rfl⟩ <;> exact U 1
   ·simp only [List.mem_singleton,Prod.mk.injEq] at K;obtain⟨rfl,rfl,rfl,rfl⟩:=K;exact rd 1
 case Co sv=>obtain⟨rfl,rfl,rfl,rfl⟩:=K;cases sv <;> exact EW
 case FR=>
  simp only [List.mem_cons,List.not_mem_nil,or_false,Prod.mk.injEq] at K;rcases K with⟨rfl,rfl,rfl,rfl⟩ | ⟨rfl,rfl,rfl,rfl⟩ <;> exact nil 1
 case Eu sv=>split at K <;> simp only [List.mem_singleton,Prod.mk.injEq] at K <;> obtain⟨rfl,rfl,rfl,rfl⟩:=K <;> exact nil 1
 case HE=>
  obtain⟨rfl,rfl,rfl,rfl⟩:=K;split
  ·exact U 1
  ·split <;> exact U 1
 case ED old=>
  split at K <;> simp only [List.mem_singleton,Prod.mk.injEq] at K <;> obtain⟨rfl,rfl,rfl,rfl⟩:=K
  ·exact U 1
  ·exact rd 1
 case Hb=>obtain⟨rfl,rfl,rfl,rfl⟩:=K;split <;> exact nil 1
 case ET b=>obtain⟨rfl,rfl,rfl,rfl⟩:=K;exact EW
 case len=>obtain⟨rfl,rfl,rfl,rfl⟩:=K;exact Y .enable 1 0 (by simp) (by simp) (by simp) rfl λB O=>trivial
 case EV=>obtain⟨rfl,rfl,rfl,rfl⟩:=K;exact Y .enable 1 0 (by simp) (by simp) (by simp) rfl λB O=>trivial
 case JJ=>obtain⟨rfl,rfl,rfl,rfl⟩:=K;exact Y .disable 0 1 (by simp) (by simp) (by simp) rfl λB O=>trivial
 case JF=>obtain⟨rfl,rfl,rfl,rfl⟩:=K;exact Y (.acquire F.uA) 0 0 (by simp) (by simp) (by simp) rfl λB O=>O
 case JM=>obtain⟨rfl,rfl,rfl,rfl⟩:=K;exact Y (.releaseMerge F.uA) 0 0 (by simp) (by simp) (by simp) rfl λB O=>O
 all_goals
  obtain⟨rfl,rfl,rfl,rfl⟩:=K
 all_goals first | exact nil 0 | exact nil 1 | exact U 1
end
end Pal
namespace Pal
open Go Go.Conc
open Go.ConcN (upd upd_same upd_ne sumTo sumTo_upd sumTo_upd_out sumTo_congr le_sumTo sumTo_le fork_knows RelBy)
def Cq(c:Bool)(N:Nat)(φ:Nat->Nx):Nat->Nx:=λi=>if c=true/\i=N then φ 0 else if c=true/\i=0 then .ph (.FB [] []) else φ i
theorem I6{N:Nat}{φ:Nat->Nx}:Cq false N φ=φ:=by funext i;simp [Cq]
theorem IC{c:Bool}{N:Nat}{φ:Nat->Nx}{i:Nat}(K:i≠0)(O:i≠N):Cq c N φ i=φ i:=by simp [Cq,K,O]
theorem Jx{N:Nat}{φ:Nat->Nx}:Cq true N φ N=φ 0:=by simp [Cq]
theorem Nc{c:Bool}{N:Nat}{φ:Nat->Nx}{i:Nat}{x:Nx}(K:i≠0)(O:i≠N):upd (Cq c N φ) i x=Cq c N (upd φ i x):=by
 funext a;unfold Cq;by_cases e:a=i
 ·subst e;rw [upd_same,if_neg (by simp [O]),if_neg (by simp [K]),upd_same]
 ·rw [upd_ne _ _ e];rw [upd_ne φ x (Ne.symm K),upd_ne _ _ e]
theorem Wx{N:Nat}{φ:Nat->Nx}{x:Nx}(O:N≠0):upd (Cq true N φ) N x=Cq true N (upd φ 0 x):=by
 funext a;unfold Cq;by_cases e:a=N
 ·subst e;simp [upd_same]
 ·rw [upd_ne _ _ e];by_cases K:a=0
  ·subst K;simp [e]
  ·rw [upd_ne φ x K];simp [e,K]
def Hx:Nx->Bool
 | .gone _=>true
 | .ph p=>Fam.CC p
def loc(x:Nx)(s:St):St:=if Hx x=true then .quiet else s
def Gq:LP->Prop
 | .Gt | .JR | .JM | .JJ | .HE | .ED _ | .Hb | .ET _ | .EV=>True
 | _=>False
def stored:Nx->Prop
 | .gone _=>True
 | .ph (.lk _ p)=>Gq p
 | .ph .HI | .ph .Gr | .ph .II | .ph .Hc | .ph .GH | .ph .G5 | .ph .Fe=>True
 | _=>False
def Pp(p:Ph):Prop:=p= .Ft∨∃k sv,p= .lk k (.Co sv)
inductive Gw (P:Program) (F:Fam) (main:Bool):Nx->Rk->Bool->Gs_
 | walk {p:Ph} {r:Rk} {g:Goroutine} {s:St}:main=Fam.Cu p->(Fam.CC p=true->s= .quiet)->Jr P main (JQ (Stop P F p)) r g s->Gw P F main (.ph p) r true g s
 | blk {p:Ph} {r:Rk} {g:Goroutine} {s:St}:Pp p->main=Fam.Cu p->Stop P F p g s->Gw P F main (.ph p) r false {g with status:= .blocked} s
 | gone {q d:Nat} {g:Goroutine}:main=false->QuitsD P q d g->Gw P F main (.gone d) (chain q) true g .quiet
section
variable {P:Program}{F:Fam}{main:Bool}
theorem Jr.running{p:Ph}{r:Rk}{g:Goroutine}{s:St}(h:Jr P main (JQ (Stop P F p)) r g s):g.status= .running:=by
 cases r with
 | leaf=>obtain⟨s₀,_,K⟩:=h;exact K.law.run
 | node f=>
  rcases h with⟨s₀,_,K⟩ | ⟨O,_⟩
  ·exact K.law.run
  ·exact O
theorem Jr.at_{Q:GP}{r:Rk}{g:Goroutine}{s:St}(h:Q g s):Jr P main Q r g s:=by
 cases r with
 | leaf=>exact h
 | node f=>exact .inl h
theorem Gw.awake{x:Nx}{r:Rk}{b:Bool}{g:Goroutine}{s:St}(h:Gw P F main x r b g s):Go.Conc.awake g:=by
 cases h with
 | walk _ _ K=>exact awake_of (.inl K.running)
 | blk _ _ _=>exact awake_of (.inr (.inl rfl))
 | gone _ O=>exact awake_of (O.status.elim .inl λx=> .inr (.inr x))
theorem Uc{g:Goroutine}(h:g.status= .running):{({g with status:= .blocked}:Goroutine) with status:= .running}=g:=by
 obtain⟨a,b,c,d,e⟩:=g;simp only at h;subst h;rfl
theorem Qp{p:Ph}(h:Pp p):Fam.CC p=false:=by
 rcases h with rfl | ⟨k,sv,rfl⟩ <;> rfl
theorem Gw.woken{x:Nx}{r:Rk}{b:Bool}{o:Goroutine}{s:St}(h:Gw P F main x r b o s){g g':Goroutine}{w':World}:
  ∃b',Gw P F main x r b' (Go.Conc.woken P g g' w' o) s/\(b=true->b'=true)/\(mayWake P g=true->g'.status= .running->b'=true):=by
 have am:∀(o:Goroutine),Go.Conc.woken P g g' w' o=o.again w'∨Go.Conc.woken P g g' w' o=o:=by
  intro o;unfold Go.Conc.woken;split
  ·exact .inl rfl
  ·exact .inr rfl
 cases h with
 | walk K an Y=>exact⟨true,by rw [woken_run Y.running];exact .walk K an Y,λ_=>rfl,λ_ _=>rfl⟩
 | @blk p _ go _ Z K O=>
  have ac:({go with status:= .blocked}:Goroutine).again w'=go:=by
   have:=O.law.offers;have ao:({go with status:= .blocked}:Goroutine).again w'={({go with status:= .blocked}:Goroutine) with status:= .running}:=by simp [Goroutine.again,this]
   rw [ao];exact Uc O.law.run
  have ag:Gw P F main (.ph p) r true go s:= .walk K (λq=>by rw [Qp Z] at q;cases q) (Jr.at_ ⟨s,.refl _,O⟩);by_cases U:mayWake P g=true/\g'.status= .running
  ·have e:Go.Conc.woken P g g' w' ({go with status:= .blocked}:Goroutine)=({go with status:= .blocked}:Goroutine).again w':=by
    unfold Go.Conc.woken;rw [if_pos (by simp [U.1,U.2])]
   exact⟨true,by rw [e,ac];exact ag,λ_=>rfl,λ_ _=>rfl⟩
  ·rcases am ({go with status:= .blocked}:Goroutine) with e | e
   ·exact⟨true,by rw [e,ac];exact ag,λ_=>rfl,λa b=>absurd ⟨a,b⟩ U⟩
   ·exact⟨false,by rw [e];exact .blk Z K O,λe=>e,λa b=>absurd ⟨a,b⟩ U⟩
 | gone K al=>exact⟨true,by rw [woken_quitsD al];exact .gone K al,λ_=>rfl,λ_ _=>rfl⟩
end
structure Base where
 N0:Nat
 t0:Nat
 E0:LH
 w0:World
structure Inv (P:Program) (F:Fam) (B:Base) (gs:Array Goroutine) (w:World) (t:Trace) (φ:Nat->Nx) (r:Nat->Rk) (bt:Nat->Bool) (S:Nat->St) (Sh:Nat->Prop) (j:Nat) (c:Bool) (v wt sm:Nat) (m:M4) (q:Nat) (f:Nat->Value):Prop where
 Cw:Cv F B.N0 (gs.size+c.toNat) j c (Cq c gs.size φ) v wt sm false
 lock:LI gs.size φ m q
 EC:EU F B.N0 B.t0 gs.size j φ S t
 Kw:∀i g,gs[i]? =some g->Gw P F (i==0) (φ i) (r i) (bt i) g (loc (φ i) (S i))
 B6:BT t w gs.size S Sh
 HJ:Sh F.wg
 Ik:Sh F.mu
 IL:Sh F.fd
 Mg:F.mu≠F.wg
 JK:F.fd≠F.wg
 JN:F.fd≠F.mu
 HH:F.n<134217728
 mn:φ 0≠ .ph .GL/\φ 0≠ .ph .Hv
 wg:F.WG w v wt sm
 Jd:F.MU w m q
 Ge:F.FD w f
 blk:∀i,i<gs.size->bt i=false->(i=0/\φ 0= .ph .Ft/\sm=0)∨((∃k sv,φ i= .ph (.lk k (.Co sv)))/\q=0)
 Il:∀k,k<j->stored (φ (B.N0+k))->F.msg k (f k) (S (B.N0+k)).E
 le:Le B.E0 (S 0).E
 tape:w.tape=B.w0.tape
 os:Gd B.w0.os w.os
 output:w.output=B.w0.output
section
variable {P:Program}{F:Fam}{B:Base}{gs:Array Goroutine}{w w':World}{t:Trace}{φ:Nat->Nx}{r:Nat->Rk}{bt:Nat->Bool}{S:Nat->St}{Sh:Nat->Prop}{j:Nat}{c:Bool}{v wt' sm v₁ wt₁ sm₁:Nat}{m m₁:M4}{q q₁:Nat}{f f₁:Nat->Value}
theorem Inv.at_(h:Inv P F B gs w t φ r bt S Sh j c v wt' sm m q f)(d:Nat):Inv P F B gs (w.at d) t φ r bt S Sh j c v wt' sm m q f:=
 have K:BT t (w.at d) gs.size S Sh:=by
  have:=h.B6.mute (u:= #[]) (w':=w.at d) (g:=0) (by simp) (by simp) (by simp) rfl;simpa using this
 {h with B6:=K}
theorem Inv.size(h:Inv P F B gs w t φ r bt S Sh j c v wt' sm m q f):gs.size=B.N0+j:=by have:=h.Cw.size;omega
theorem Inv.Ew(h:Inv P F B gs w t φ r bt S Sh j c v wt' sm m q f){i:Nat}(hi:i<gs.size):i=0∨(i≠0/\∃d,φ i= .gone d/\i<B.N0)∨∃k,k<j/\i=B.N0+k/\i≠0/\GG F k (φ i):=by
 have Y:=h.size;have Z:=h.Cw.pos;rcases Nat.eq_zero_or_pos i with K | K
 ·exact .inl K
 rcases Nat.lt_or_ge i B.N0 with O | O
 ·have:=h.Cw.old i K O;rw [IC (by omega) (by omega)] at this;cases U:φ i with
  | gone d=>exact .inr (.inl ⟨by omega,d,rfl,O⟩)
  | ph p=>rw [U] at this;exact this.elim
 ·have:=h.Cw.work (i - B.N0) (by omega);rw [show B.N0+(i - B.N0)=i by omega,IC (by omega) (by omega)] at this;exact .inr (.inr ⟨i - B.N0,by omega,by omega,by omega,this⟩)
theorem Inv.main(h:Inv P F B gs w t φ r bt S Sh j c v wt' sm m q f):∃p,φ 0= .ph p/\Fam.Cu p=true/\((c=false/\Hu F.n j c p)∨(c=true/\I7 (.ph p))):=by
 have Z:=h.size;cases K:c with
 | false=>
  have:=h.Cw.main;rw [K,I6] at this;obtain⟨p,Y,O⟩:=this;exact⟨p,Y,by cases p <;> simp [Hu] at O <;> rfl,.inl ⟨rfl,O⟩⟩
 | true=>
  have:=h.Cw.cls K;have ac:=h.Cw.cj K;rw [K,show B.N0+F.n=gs.size by omega,Jx] at this;cases U:φ 0 with
  | gone d=>
   have:=h.Cw.mode;rw [if_pos K,K,show B.N0+F.n=gs.size by omega,Jx,U] at this;simp [Dm] at this
  | ph p=>rw [U] at this;exact⟨p,rfl,by cases p <;> simp [I7] at this <;> rfl,.inr ⟨rfl,this⟩⟩
theorem Jt(a b:LP->Nat)(N:Nat)(φ:Nat->Nx):Sg (λp=>a p+b p) N φ=Sg a N φ+Sg b N φ:=by
 unfold Sg
 induction N with
 | zero=>rfl
 | succ N K=>
  simp only [sumTo,K];have:C4 (λp=>a p+b p) (φ N)=C4 a (φ N)+C4 b (φ N):=by
   cases φ N with
   | gone d=>rfl
   | ph p=>cases p <;> rfl
  omega
theorem Oy{a b:Nat->Nat}:∀{N M:Nat},N<=M->(∀i,i<N->a i<=b i)->sumTo N a<=sumTo M b
 | 0,_,_,_=>by simp [sumTo]
 | N+1,0,h,_=>by omega
 | N+1,M+1,h,K=>by
  rcases Nat.lt_or_ge N M with q | q
  ·have O:sumTo (N+1) a<=sumTo M b:=Oy (by omega) K
   simp only [sumTo] at O ⊢;omega
  ·obtain rfl:N=M:=by omega
   have O:sumTo N a<=sumTo N b:=Oy (Nat.le_refl _) λi hi=>K i (by omega);have U:=K N (by omega);simp only [sumTo];omega
theorem Inv.small(h:Inv P F B gs w t φ r bt S Sh j c v wt' sm m q f):CX m:=by
 have Y:=h.size;have hb:Sg (λp=>(pQ p+pV p)+pD p) gs.size φ<=sumTo (gs.size+c.toNat) λi=>cU (Cq c gs.size φ i):=by
  refine Oy (by omega) λi hi=>?_;rcases Nat.eq_zero_or_pos i with rfl | Z
  ·obtain⟨p,O,hm,_⟩:=h.main;rw [O];cases p <;> first | (simp [C4];done) | (simp [Fam.Cu] at hm)
  ·rw [IC (by omega) (by omega)];cases φ i with
   | gone d=>simp [C4]
   | ph p=>
    cases p <;> simp only [C4] <;> (try omega)
    rename_i k l;cases l <;> simp [pQ,pV,pD,cU]
 rw [Jt,Jt] at hb;have ac:=h.Cw.cnt;have ag:=h.Cw.Qa;obtain⟨l1,l2,U⟩:=h.lock.ln;have al:=h.HH;show m.w<134217728;cases K:m.s with
 | false=>have:=(l2 K).2.2.2.1;omega
 | true=>have:=(U K).2.2.2.2.1;omega
theorem Inv.go(h:Inv P F B gs w t φ r bt S Sh j c v wt' sm m q f){i:Nat}{g g':Goroutine}{es:Array Event}{x:Nx}{ρ:Rk}{s':St}(hi:gs[i]? =some g)
  (ao:Cv F B.N0 (gs.size+c.toNat) j c (Cq c gs.size (upd φ i x)) v₁ wt₁ sm₁ false) (ap:LI gs.size (upd φ i x) m₁ q₁)
  (aq:EU F B.N0 B.t0 gs.size j (upd φ i x) (upd S i s') (t++MemOp.ofEvents i g.frame.fn g.frame.place es))
  (ar:Gw P F (i==0) x ρ true g' (loc x s'))
  (hC:BT (t++MemOp.ofEvents i g.frame.fn g.frame.place es) w' gs.size (upd S i s') Sh)
  (au:F.WG w' v₁ wt₁ sm₁) (av:F.MU w' m₁ q₁) (aw:F.FD w' f₁)
  (ay:sm₁≠0->sm=0->mayWake P g=true/\g'.status= .running) (az:q₁≠0->q=0->mayWake P g=true/\g'.status= .running)
  (aA:∀k,k<j->stored (upd φ i x (B.N0+k))->F.msg k (f₁ k) (upd S i s' (B.N0+k)).E)
  (aB:i=0->x≠ .ph .GL/\x≠ .ph .Hv) (aC:i=0->Le (S 0).E s'.E) (aD:w'.tape=w.tape) (aE:Gd w.os w'.os) (aF:w'.output=w.output):
  ∃O,Inv P F B ((gs.map (woken P g g' w')).setIfInBounds i g') w' (t++MemOp.ofEvents i g.frame.fn g.frame.place es) (upd φ i x) (upd r i ρ) O (upd S i s') Sh j c v₁ wt₁ sm₁ m₁ q₁ f₁:=by
 have aG:i<gs.size:=(Array.getElem?_eq_some_iff.1 hi).1;have U:((gs.map (woken P g g' w')).setIfInBounds i g').size=gs.size:=by simp
 have am:∀a,∃b',(a=i->b'=true)/\(a≠i->∀o,gs[a]? =some o->Gw P F (a==0) (φ a) (r a) b' (woken P g g' w' o) (loc (φ a) (S a))/\(bt a=true->b'=true)/\(mayWake P g=true->g'.status= .running->b'=true)):=by
  intro a;by_cases e:a=i
  ·exact⟨true,λ_=>rfl,λq=>absurd e q⟩
  ·cases K:gs[a]? with
   | none=>exact⟨true,λ_=>rfl,λ_ o q=>by cases q⟩
   | some o=>
    obtain⟨b',aH,Y,Z⟩:=(h.Kw a o K).woken (g:=g) (g':=g') (w':=w');exact⟨b',λq=>absurd q e,λ_ o' q=>by cases q;exact⟨aH,Y,Z⟩⟩
 let O:Nat->Bool:=λa=>Classical.choose (am a);have hb:∀a,(a=i->O a=true)/\(a≠i->∀o,gs[a]? =some o->Gw P F (a==0) (φ a) (r a) (O a) (woken P g g' w' o) (loc (φ a) (S a))/\(bt a=true->O a=true)/\(mayWake P g=true->g'.status= .running->O a=true)):=λa=>Classical.choose_spec (am a);refine⟨O,by rw [U];exact ao,by rw [U];exact ap,by rw [U];exact aq,λa o K=>?_,by rw [U];exact hC,h.HJ,h.Ik,h.IL,h.Mg,h.JK,h.JN,h.HH,(by
  by_cases e:i=0
  ·subst e;rw [upd_same];exact aB rfl
  ·rw [upd_ne _ _ (Ne.symm e)];exact h.mn),au,av,aw,λa ag al=>?_,aA,λb o K=>?_,aD.trans h.tape,h.os.trans aE,aF.trans h.output⟩
 ·by_cases e:a=i
  ·subst e;rw [Array.getElem?_setIfInBounds_self_of_lt (by simpa using aG)] at K;obtain rfl:=Option.some.inj K;rw [upd_same,upd_same,upd_same,(hb a).1 rfl];exact ar
  ·rw [Array.getElem?_setIfInBounds_ne (Ne.symm e),Array.getElem?_map] at K;obtain⟨o',aI,rfl⟩:=Option.map_eq_some_iff.1 K;rw [upd_ne _ _ e,upd_ne _ _ e,upd_ne _ _ e];exact((hb a).2 e o' aI).1
 ·rw [U] at ag;have e:a≠i:=λe=>by have:=(hb a).1 e;rw [al] at this;cases this
  obtain⟨_,k1,aJ⟩:=(hb a).2 e _ (Array.getElem?_eq_getElem ag);have an:¬(mayWake P g=true/\g'.status= .running):=λ⟨x,y⟩=>by have:=aJ x y;rw [al] at this;cases this
  have aK:bt a=false:=by
   cases ac:bt a with
   | false=>rfl
   | true=>have:=k1 ac;rw [al] at this;cases this
  rcases h.blk a ag aK with⟨rfl,Y,Z⟩ | ⟨⟨k,sv,Y⟩,Z⟩
  ·refine .inl ⟨rfl,by rw [upd_ne _ _ e];exact Y,?_⟩;exact Classical.not_not.1 λac=>an (ay ac Z)
  ·refine .inr ⟨⟨k,sv,by rw [upd_ne _ _ e];exact Y⟩,?_⟩;exact Classical.not_not.1 λac=>an (az ac Z)
 ·by_cases e:i=0
  ·subst e;rw [upd_same];exact aC rfl b o (h.le b o K)
  ·rw [upd_ne _ _ (Ne.symm e)];exact h.le b o K
end
end Pal
namespace Pal
open Go Go.Conc
open Go.ConcN (upd upd_same upd_ne sumTo sumTo_upd sumTo_upd_out sumTo_congr le_sumTo sumTo_le fork_knows RelBy)
def P7(P:Program)(F:Fam)(B:Base)(gs:Array Goroutine)(w:World)(t:Trace):Prop:=
 ∃q Sh g s,He P gs w t q Sh g s/\F.fin g s/\Le B.E0 s.E/\w.tape=B.w0.tape/\Gd B.w0.os w.os/\w.output=B.w0.output
def Ib(P:Program)(F:Fam)(B:Base)(gs:Array Goroutine)(w:World)(sl:Option (Nat×Nat))(t:Trace)(i:Nat)(K:Mu):Prop:=
 ∃gs' w' O u,runT P (crowd gs w sl) i=(.next (crowd gs' w' O),u)/\
  ((∃φ r bt S Sh j c v wt' sm m q f,Inv P F B gs' w' (t++u) φ r bt S Sh j c v wt' sm m q f/\Mu.lt (mu F gs'.size φ m q r bt) K)∨P7 P F B gs' w' (t++u))
theorem LI.same{N:Nat}{φ:Nat->Nx}{m:M4}{q i:Nat}{y:Nx}(h:LI N φ m q)(hi:i<N)(O:∀f,C4 f (φ i)=C4 f y∨(f≠pH/\f≠pN/\f≠pZ/\f≠pV/\f≠pT/\f≠pQ/\f≠pD/\f≠pX))(U:NP y m):LI N (upd φ i y) m q:=by
 have e:∀f,(f=pH∨f=pN∨f=pZ∨f=pV∨f=pT∨f=pQ∨f=pD∨f=pX)->Sg f N (upd φ i y)=Sg f N φ:=λf Y=>MZ f hi (by
  rcases O f with q | ⟨a,b,c,d,e,f,g,h⟩
  ·exact q
  ·rcases Y with q | q | q | q | q | q | q | q <;> contradiction)
 refine⟨by rw [e pH (by simp),e pN (by simp),e pZ (by simp),e pV (by simp),e pT (by simp),e pQ (by simp),e pD (by simp),e pX (by simp)];exact h.ln,λa Z=>?_⟩;by_cases K:a=i
 ·subst K;rw [upd_same];exact U
 ·rw [upd_ne _ _ K];exact h.loc a Z
section
variable {P:Program}{F:Fam}{B:Base}{gs:Array Goroutine}{w w':World}{sl:Option (Nat×Nat)}{t:Trace}{φ:Nat->Nx}{r:Nat->Rk}{bt:Nat->Bool}{S:Nat->St}{Sh:Nat->Prop}{j:Nat}{c:Bool}{v wt' sm v₁ wt₁ sm₁:Nat}{m m₁:M4}{q q₁:Nat}{f f₁:Nat->Value}
theorem Inv.go'(h:Inv P F B gs w t φ r bt S Sh j c v wt' sm m q f){i:Nat}{g g':Goroutine}{es:Array Event}{x:Nx}{ρ:Rk}{s':St}(hi:gs[i]? =some g)(O:stepG P (i==0) g w= .go g' w' es)
  (U:Cv F B.N0 (gs.size+c.toNat) j c (Cq c gs.size (upd φ i x)) v₁ wt₁ sm₁ false) (Y:LI gs.size (upd φ i x) m₁ q₁)
  (Z:EU F B.N0 B.t0 gs.size j (upd φ i x) (upd S i s') (t++MemOp.ofEvents i g.frame.fn g.frame.place es))
  (ac:Gw P F (i==0) x ρ true g' (loc x s'))
  (hC:BT (t++MemOp.ofEvents i g.frame.fn g.frame.place es) w' gs.size (upd S i s') Sh)
  (ag:F.WG w' v₁ wt₁ sm₁) (al:F.MU w' m₁ q₁) (am:F.FD w' f₁)
  (an:sm₁≠0->sm=0->mayWake P g=true/\g'.status= .running) (ao:q₁≠0->q=0->mayWake P g=true/\g'.status= .running)
  (ap:∀k,k<j->stored (upd φ i x (B.N0+k))->F.msg k (f₁ k) (upd S i s' (B.N0+k)).E)
  (aq:i=0->x≠ .ph .GL/\x≠ .ph .Hv) (ar:i=0->Le (S 0).E s'.E) (au:w'.tape=w.tape) (av:Gd w.os w'.os) (aw:w'.output=w.output)
  (hm:∀K,Mu.lt (mu F gs.size (upd φ i x) m₁ q₁ (upd r i ρ) K) (mu F gs.size φ m q r bt)):Ib P F B gs w sl t i (mu F gs.size φ m q r bt):=by
 obtain⟨K,ay⟩:=h.go hi U Y Z ac hC ag al am an ao ap aq ar au av aw;refine⟨_,_,_,_,runT_crowd_go hi O,.inl ⟨_,_,_,_,_,_,_,_,_,_,_,_,_,ay,?_⟩⟩;have az:((gs.map (woken P g g' w')).setIfInBounds i g').size=gs.size:=by simp
 rw [az];exact hm K
theorem QC{k:Nat}{p:Ph}(hw:GG F k (.ph p))(K:late (.ph p)):Fam.CC p=true:=by
 cases p <;> simp only [GG] at hw <;> (try exact hw.elim) <;> first | rfl | exact K.elim
theorem My(a:Nat)(fn:FuncId)(pos:String):MemOp.ofEvents a fn pos #[]= #[]:=by rw [ofEvents_eq];simp
theorem Inv.own(h:Inv P F B gs w t φ r bt S Sh j c v wt' sm m q f)(aG:∀k v E E',Le E E'->F.msg k v E->F.msg k v E'){i:Nat}{g g':Goroutine}{es:Array Event}{p:Ph}{ρ:Rk}{s':St}(hi:gs[i]? =some g)(K:φ i= .ph p)(av:(i==0)=Fam.Cu p)
  (aw:stepG P (i==0) g w= .go g' w' es) (ay:Jr P (i==0) (JQ (Stop P F p)) ρ g' s') (aH:Fits s' w') (O:Fr (loc (.ph p) (S i)) w s' w') (Y:∀e∈es,Ev (loc (.ph p) (S i)) w w' e) (aI:loc (.ph p) (S i)= .quiet->s'= .quiet/\w'=w/\es= #[]) (aJ:Rk.sub ρ (r i)):
  Ib P F B gs w sl t i (mu F gs.size φ m q r bt):=by
 have U:i<gs.size:=(Array.getElem?_eq_some_iff.1 hi).1;have Z:upd φ i (.ph p)=φ:=by rw [← K];exact MO _ _
 have az:∀aA,Mu.lt (mu F gs.size (upd φ i (.ph p)) m q (upd r i ρ) aA) (mu F gs.size φ m q r bt):=λaA=>TL U (λ_=>by rw [K]) (by rw [K]) aJ;cases ac:Fam.CC p with
 | true=>
  have ag:loc (.ph p) (S i)= .quiet:=by simp [loc,Hx,ac]
  obtain⟨rfl,rfl,rfl⟩:=aI ag;have ap:upd S i (S i)=S:=MO _ _;refine h.go' hi aw (x:= .ph p) (ρ:=ρ) (s':=S i) (by rw [Z];exact h.Cw) (by rw [Z];exact h.lock) ?_ (by rw [ag];exact .walk av (λ_=>rfl) ay) ?_ h.wg h.Jd h.Ge (λa b=>absurd b a) (λa b=>absurd b a) (by rw [Z,ap];exact h.Il) (λe=>by subst e;rw [← K];exact h.mn) (λe=>by subst e;exact .refl _) rfl (.refl _) rfl az
  ·rw [Z,ap,My];simpa using h.EC
  ·rw [ap,My];simpa using h.B6
 | false=>
  have ag:loc (.ph p) (S i)=S i:=by simp [loc,Hx,ac]
  rw [ag] at O Y;have aK:loc (.ph p) s'=s':=by simp [loc,Hx,ac]
  have aq:∀b₀,Sh b₀->∀b wr,GD (S i) w w' b wr->b≠b₀:=by
   intro b₀ am b wr aL;have aB:=h.B6.sh i U b₀ am;have aS:=h.B6.Ga b₀ am;rintro rfl;rcases aL.2 with q | q | ⟨q,_⟩
   ·exact q aB.1
   ·omega
   ·exact q aB.2
  have ar:∀b₀,Sh b₀->w'.heap[b₀]? =w.heap[b₀]? :=λb₀ am=>O.keep b₀ (h.B6.Ga b₀ am) (h.B6.sh i U b₀ am).1;have aC:∀k,k<j->i=B.N0+k->¬late (φ i):=by
   intro k al e aD;rcases h.Ew U with aT | ⟨_,d,hd,_⟩ | ⟨k',_,_,_,hw⟩
   ·have:=h.Cw.pos;omega
   ·rw [K] at hd;cases hd
   ·rw [K] at hw aD;rw [QC hw aD] at ac;cases ac
  have aM:∀e∈es,e.loc≠ .mark .disable/\e.loc≠ .mark .enable:=by
   intro e he;have:=Y e he;refine⟨λao=>?_,λao=>?_⟩ <;> unfold Ev at this <;> rw [ao] at this <;> exact this
  refine h.go' (f₁:=f) hi aw (x:= .ph p) (ρ:=ρ) (s':=s') (by rw [Z];exact h.Cw) (by rw [Z];exact h.lock) ?_ (by rw [aK];exact .walk av (λe=>by rw [ac] at e;cases e) ay) (h.B6.own U aH O Y) ?_ ?_ ?_ (λa b=>absurd b a) (λa b=>absurd b a) ?_ (λe=>by subst e;rw [← K];exact h.mn) (λe=>by subst e;exact λb o au=>O.ext b o au) O.tape (.of O.os) O.output az
  ·refine h.EC.app U (by rw [K];exact deafBehind_still aM _) (λe he=>⟨λa b an hb aN=>absurd aN ?_,λa an hb=>absurd rfl (aq F.fd h.IL F.fd a.write (KM (Y e he) an hb)),?_⟩) ?_ (λk al aO e he a b an hb hw=>?_) (λk al e ag=>absurd (K▸ag) (aC k al e))
   ·have:=KM (Y e he) an hb;rintro(q | q)
    ·exact aq F.wg h.HJ b _ this q
    ·exact aq F.mu h.Ik b _ this q
   ·intro ao;have:=Y e he;unfold Ev at this;rw [ao] at this;exact this
   ·rcases h.Ew U with e | ⟨_,d,hd,_⟩ | ⟨k,_,e,_,_⟩
    ·exact .inl (.inl e)
    ·rw [K] at hd;cases hd
    ·exact .inl (.inr (by omega))
   ·have aP:=KM (Y e he) an hb;have aQ:B.N0+k≠i:=λe=>aC k al e.symm (e▸aO);have aE:B.N0+k<gs.size:=by have:=h.size;omega
    rcases aP.2 with y | y | ⟨_,y⟩
    ·exact(h.B6.hh i (B.N0+k) U aE (Ne.symm aQ) b y).2
    ·cases aR:(S (B.N0+k)).E b with
     | none=>rfl
     | some o=>have:=(h.B6.fits _ aE).e b o aR;simp [Array.getElem?_eq_none y] at this
    ·rw [y] at hw;cases hw
  ·show w'.heap[F.wg]? =_;rw [ar _ h.HJ];exact h.wg
  ·show w'.heap[F.mu]? =_;rw [ar _ h.Ik];exact h.Jd
  ·show w'.heap[F.fd]? =_;rw [ar _ h.IL];exact h.Ge
  ·intro k al aF;rw [Z] at aF;have:=h.Il k al aF;by_cases e:B.N0+k=i
   ·rw [e,upd_same];rw [e] at this;exact aG _ _ _ _ (λb o au=>O.ext b o au) this
   ·rw [upd_ne _ _ e];exact this
theorem Inv.slip(h:Inv P F B gs w t φ r bt S Sh j c v wt' sm m q f){i:Nat}{g:Goroutine}(hi:gs[i]? =some g)(Z:g.status= .running){d U:Nat}(O:φ i= .gone d)(au:r i=chain U)(ag:(i==0)=false)(an:QuitsD P U d g):
  Ib P F B gs w sl t i (mu F gs.size φ m q r bt):=by
 have al:i<gs.size:=(Array.getElem?_eq_some_iff.1 hi).1;have ac:i≠0:=by simpa using ag
 cases U with
 | zero=>rw [an.1] at Z;cases Z
 | succ U=>
  rcases an with⟨av,_⟩ | ⟨_,g',es,hm,aw,ay⟩
  ·rw [av] at Z;cases Z
  have az:∀op∈MemOp.ofEvents i g.frame.fn g.frame.place es,op.act.touch? =none:=λop Y=>by obtain⟨e,he,rfl⟩:=mem_ofEvents Y;exact touch_mute (hm e he)
  have aA:∀e∈es,e.loc≠ .mark (.release F.sA):=by
   intro e he ao;have:=hm e he;obtain⟨loc,wr,aD⟩:=e;simp only at ao;subst ao;simp [Event.mute] at this
  have ap:upd S i (S i)=S:=MO _ _;have aq:=h.Cw.leave (i:=i) (d:=d) (d':=deafBehind d es) (by omega) (by rw [IC ac (by omega)];exact O);rw [Nc ac (by omega)] at aq;refine h.go' hi (by rw [ag];exact aw w) (x:= .gone (deafBehind d es)) (ρ:=chain U) (s':=S i) aq (h.lock.other al (λk p e=>by rw [O] at e;cases e) (λk p e=>by cases e)) ?_ (.gone ag ay) ?_ h.wg h.Jd h.Ge (λa b=>absurd b a) (λa b=>absurd b a) ?_ (λe=>absurd e ac) (λe=>absurd e ac) rfl (.refl _) rfl λaE=>TL al (λ_=>by rw [O];rfl) (by rw [O];rfl) (by rw [au];exact VI U w)
  ·refine h.EC.app al (by rw [O];rfl) (λe he=>⟨λa b K=>(by rw [touch_mute (hm e he)] at K;cases K),λa K=>(by rw [touch_mute (hm e he)] at K;cases K),aA e he⟩) (.inr λe he=>touch_mute (hm e he)) (λk am aB e he a b K=>(by rw [touch_mute (hm e he)] at K;cases K)) (λk am e aB=> .inl ⟨by rw [O];trivial,rfl,λρ aC=>?_⟩);exact aC.appOwn _ _ es λm e he=> .inl (touch_mute (hm e (Array.mem_of_getElem? he)))
  ·rw [ap];exact h.B6.mute (g:=i) (λop Y=>by obtain⟨e,_,rfl⟩:=mem_ofEvents Y;rfl) az (λop Y=>by obtain⟨e,he,rfl⟩:=mem_ofEvents Y;exact low_mute (hm e he) _) rfl
  ·rw [ap];intro k am ar;refine h.Il k am ?_;by_cases e:B.N0+k=i
   ·rw [e,O];trivial
   ·rw [upd_ne _ _ e] at ar;exact ar
theorem Y5{p:Ph}{es:Array Event}{K:Nx}(O:F.act p v wt' sm=some ((v₁,wt₁,sm₁),es,K)):
  (∀q,K= .ph q->Fam.Cu q=Fam.Cu p/\(Fam.CC q=true->p= .Gr∨Fam.CC p=true)/\(Fam.CC q=false->Fam.CC p=false/\p≠ .Gr)/\∀k l,q≠ .lk k l)/\(sm₁≠0->sm=0->p= .Fe)/\(∀d,K= .gone d->Fam.Cu p=false/\Fam.CC p=true)/\
  (∀k l,p≠ .lk k l)/\(Fam.Cu p=false->stored K)/\(Fam.Cu p=false->late K->late (.ph p)∨p= .Gr)/\(Fam.Cu p=false->stored (.ph p))/\K≠ .ph .GL/\K≠ .ph .Hv:=by
 cases p <;> simp only [Fam.act] at O <;> (try (cases O;done))
 all_goals (try (split at O)) <;> (try (cases O;done)) <;> (try (split at O))
 all_goals cases O
 all_goals first
  | (simp [Fam.Cu,Fam.CC,stored,late];done)
  | (split <;> simp [Fam.Cu,Fam.CC,stored,late];done)
  | (simp [Fam.Cu,Fam.CC,stored,late];omega)
theorem Cv.enabled{N0 N:Nat}{cl:Bool}(h:Cv F N0 N j c φ v wt' sm cl){i:Nat}(hi:i<N){p:Ph}(K:φ i= .ph p)(au:∀k,p≠ .G9 k)(av:∀k,p≠ .FF k)(aw:p≠ .GL)(ay:∀az vs,p≠ .FB az vs)(aA:p≠ .Hv)(aB:p= .Ft->sm=1)(aC:p≠ .Gc)(aD:∀k l,p≠ .lk k l):
  ∃v' w' sm' es aE,F.act p v wt' sm=some ((v',w',sm'),es,aE):=by
 have hm:=h.mode;have aI:=h.Qa;have aJ:=h.HH;have O:=h.cnt;have ac:cU (φ i)<=sumTo N λa=>cU (φ a):=le_sumTo (f:=λa=>cU (φ a)) hi;have ag:cL (φ i)<=sumTo N λa=>cL (φ a):=le_sumTo (f:=λa=>cL (φ a)) hi;have ao:cS (φ i)<=sumTo N λa=>cS (φ a):=le_sumTo (f:=λa=>cS (φ a)) hi;rw [K] at ac ag ao;have aF:wt'<=1:=by
  generalize (if c=true then φ (N0+F.n) else Nx.ph .Db)=y at hm
  cases y with
  | gone d=>simp only [Dm] at hm;omega
  | ph q=>cases q <;> simp only [Dm] at hm <;> (try exact hm.elim) <;> omega
 have al:1<=(sumTo N λa=>cL (φ a))+(sumTo N λa=>cS (φ a))->v=0/\sm=0/\wt'=sumTo N λa=>cL (φ a):=by
  intro hh;generalize (if c=true then φ (N0+F.n) else Nx.ph .Db)=y at hm
  cases y with
  | gone d=>simp only [Dm] at hm;omega
  | ph q=>cases q <;> simp only [Dm] at hm <;> (try exact hm.elim) <;> omega
 have am:∀x,φ i= .ph x->I7 (.ph x)->c=true/\(if c=true then φ (N0+F.n) else Nx.ph .Db)= .ph x:=by
  intro x Y ap;rcases h.Ew hi with rfl | ⟨a,b⟩ | ⟨k,an,rfl⟩ | ⟨O,rfl⟩
  ·obtain⟨q,U,Z⟩:=h.main;rw [Y] at U;cases U;cases x <;> simp [Hu] at Z <;> exact ap.elim
  ·have:=h.old i a b;rw [Y] at this;exact this.elim
  ·have:=h.work k an;rw [Y] at this;cases x <;> simp [GG] at this <;> exact ap.elim
  ·exact⟨O,by rw [if_pos O];exact Y⟩
 cases p <;> simp only [Fam.act]
 ·exact absurd rfl (au _)
 ·exact⟨_,_,_,_,_,rfl⟩
 ·exact⟨_,_,_,_,_,rfl⟩
 ·simp only [cU] at ac;have:1<=v:=by
   have aK:1<=sumTo N λa=>cU (φ a):=ac;omega
  rw [if_pos ⟨this,by omega,aF⟩];exact⟨_,_,_,_,_,rfl⟩
 ·have aG:1<=sumTo N λa=>cL (φ a):=ag;have:=al (by omega);rw [if_pos ⟨this.1,by omega⟩];exact⟨_,_,_,_,_,rfl⟩
 ·have aG:1<=sumTo N λa=>cL (φ a):=ag;have:=al (by omega);rw [if_pos ⟨this.1,by omega⟩];exact⟨_,_,_,_,_,rfl⟩
 ·have aL:1<=sumTo N λa=>cS (φ a):=ao;have:=al (by omega);rw [if_pos this.2.1];exact⟨_,_,_,_,_,rfl⟩
 ·exact⟨_,_,_,_,_,rfl⟩
 ·obtain⟨aq,e⟩:=am _ K trivial;rw [e] at hm;rw [if_pos ⟨hm.2.2.2.2.2,hm.2.2.2.1⟩];exact⟨_,_,_,_,_,rfl⟩
 ·obtain⟨aq,e⟩:=am _ K trivial;rw [e] at hm;rw [if_pos ⟨hm.2.2.2.2.2.1,hm.2.2.2.2.2.2,hm.2.2.2.1⟩];split <;> exact⟨_,_,_,_,_,rfl⟩
 ·exact⟨_,_,_,_,_,rfl⟩
 ·rw [if_pos (aB rfl)];exact⟨_,_,_,_,_,rfl⟩
 ·obtain⟨aq,e⟩:=am _ K trivial;rw [e] at hm;rw [if_pos ⟨hm.2.2.2.2.1,hm.2.2.2.1⟩];exact⟨_,_,_,_,_,rfl⟩
 ·exact⟨_,_,_,_,_,rfl⟩
 ·exact absurd rfl aC
 ·exact absurd rfl aA
 ·exact⟨_,_,_,_,_,rfl⟩
 ·have aH:c=false/\v<=j/\j<F.n:=by
   rcases h.Ew hi with rfl | ⟨a,b⟩ | ⟨k,an,rfl⟩ | ⟨O,rfl⟩
   ·obtain⟨q,U,Z⟩:=h.main;rw [K] at U;cases U;have ar:=h.JU;rw [K] at ar;exact⟨Z.2.2,by simpa [pend] using ar,Z.2.1⟩
   ·have:=h.old i a b;rw [K] at this;exact this.elim
   ·have:=h.work k an;rw [K] at this;exact this.elim
   ·have:=h.cls O;rw [K] at this;exact this.elim
  rw [aH.1] at hm;simp only [Bool.false_eq_true,if_false,Dm] at hm;rw [if_pos ⟨by omega,hm.2.2.2.1⟩];exact⟨_,_,_,_,_,rfl⟩
 ·exact⟨_,_,_,_,_,rfl⟩
 ·exact⟨_,_,_,_,_,rfl⟩
 ·exact absurd rfl (av _)
 ·exact absurd rfl aw
 ·exact absurd rfl (ay _ _)
 all_goals first | exact⟨_,_,_,_,_,rfl⟩ | exact absurd rfl (aD _ _)
end
end Pal
namespace Pal
open Go Go.Conc
open Go.ConcN (upd upd_same upd_ne sumTo sumTo_upd sumTo_upd_out sumTo_congr le_sumTo sumTo_le fork_knows RelBy)
section
variable {P:Program}{F:Fam}{B:Base}{gs:Array Goroutine}{w w':World}{sl:Option (Nat×Nat)}{t:Trace}{φ:Nat->Nx}{r:Nat->Rk}{bt:Nat->Bool}{S:Nat->St}{Sh:Nat->Prop}{j:Nat}{c:Bool}{v wt' sm v₁ wt₁ sm₁:Nat}{m m₁:M4}{q q₁:Nat}{f f₁:Nat->Value}
theorem Wn(w:World)(v wt sm:Nat):(F.put w v wt sm).heap.size=w.heap.size:=by simp [Fam.put]
theorem Pg(w:World)(v wt sm:Nat){b:Nat}(h:b≠F.wg):(F.put w v wt sm).heap[b]? =w.heap[b]? :=by simp [Fam.put,Array.getElem?_setIfInBounds_ne (Ne.symm h)]
theorem X4(w:World)(v wt sm:Nat)(h:F.wg<w.heap.size):F.WG (F.put w v wt sm) v wt sm:=by simp [Fam.WG,Fam.put,h]
theorem Vu(w:World)(m:M4)(q:Nat):(F.FC w m q).heap.size=w.heap.size:=by simp [Fam.FC]
theorem OZ(w:World)(m:M4)(q:Nat){b:Nat}(h:b≠F.mu):(F.FC w m q).heap[b]? =w.heap[b]? :=by simp [Fam.FC,Array.getElem?_setIfInBounds_ne (Ne.symm h)]
theorem XD(w:World)(m:M4)(q:Nat)(h:F.mu<w.heap.size):F.MU (F.FC w m q) m q:=by simp [Fam.MU,Fam.FC,h]
theorem U4(w:World)(f:Nat->Value):(F.Hd w f).heap.size=w.heap.size:=by simp [Fam.Hd]
theorem OY(w:World)(f:Nat->Value){b:Nat}(h:b≠F.fd):(F.Hd w f).heap[b]? =w.heap[b]? :=by simp [Fam.Hd,Array.getElem?_setIfInBounds_ne (Ne.symm h)]
theorem W2(w:World)(f:Nat->Value)(h:F.fd<w.heap.size):F.FD (F.Hd w f) f:=by simp [Fam.FD,Fam.Hd,h]
theorem Yc{p:Ph}{s:St}(h:p≠ .Gr):Fam.Je p s=s:=by cases p <;> first | rfl | exact absurd rfl h
theorem BT.heap{t:Trace}{w w':World}{N:Nat}{S:Nat->St}{Sh:Nat->Prop}(h:BT t w N S Sh)(hw:w'.heap=w.heap):BT t w' N S Sh:=by
 have:=h.mute (u:= #[]) (w':=w') (g:=0) (by simp) (by simp) (by simp) hw;simpa using this
theorem Inv.act(h:Inv P F B gs w t φ r bt S Sh j c v wt' sm m q f)(aP:∀k v E E',Le E E'->F.msg k v E->F.msg k v E'){i:Nat}{g:Goroutine}(hi:gs[i]? =some g){p:Ph}(K:φ i= .ph p)(ac:(i==0)=Fam.Cu p){s₀:St}(aQ:Cb (loc (.ph p) (S i)) s₀)(ao:Stop P F p g s₀)
  {es:Array Event} {Z:Nx} (O:F.act p v wt' sm=some ((v₁,wt₁,sm₁),es,Z)):Ib P F B gs w sl t i (mu F gs.size φ m q r bt):=by
 have U:i<gs.size:=(Array.getElem?_eq_some_iff.1 hi).1;obtain⟨g',aR,aS,az⟩:=ao.law.act _ _ _ _ _ _ _ _ O;obtain⟨n1,n2,aT,aU,n5,aV,aW,aX⟩:=Y5 O;obtain⟨am,e2,aY⟩:=YA p O;have aA:=h.B6.Ga F.wg h.HJ;have bl:=h.size;have bm:=h.Cw.pos;have aB:i≠0->Fam.Cu p=false:=λe=>by rw [← ac];simp [e]
 have aC:(p= .HK∨∃j,p= .HB j)->i=0:=by
  intro Y;have:Fam.Cu p=true:=by rcases Y with rfl | ⟨j,rfl⟩ <;> rfl
  rw [this] at ac;simpa using ac
 have aD:i=0∨B.N0<=i:=by
  rcases h.Ew U with e | ⟨_,d,hd,_⟩ | ⟨k,_,e,_,_⟩
  ·exact .inl e
  ·rw [K] at hd;cases hd
  ·exact .inr (by omega)
 let s':St:=if Fam.CC p=true then S i else s₀
 have ap:Fam.CC p=true->s'=S i:=λe=>by simp [s',e]
 have ag:Fam.CC p=false->s'=s₀:=λe=>by simp [s',e]
 have aE:Fam.CC p=false->Cb (S i) s₀:=λe=>by simpa [loc,Hx,e] using aQ
 have hle:Le (S i).E s'.E:=by
  cases e:Fam.CC p with
  | true=>rw [ap e];exact .refl _
  | false=>rw [ag e];exact λb o aq=>(aE e).ext b o aq
 have aF:BT t w gs.size (upd S i s') Sh:=by
  cases e:Fam.CC p with
  | true=>rw [ap e,MO];exact h.B6
  | false=>rw [ag e];exact h.B6.ghost U (aE e)
 have aZ:BT (t++MemOp.ofEvents i g.frame.fn g.frame.place es) (F.put w v₁ wt₁ sm₁) gs.size (upd S i s') Sh:=by
  refine aF.ext (h.EC.noRace h.B6.clean U aD λe he=>(am e he).toS aC) (λop ar a au b hb=>?_) (λop ar=>?_) (Wn ..) (λb hb=>Pg _ _ _ _ λe=>hb (e▸h.HJ))
  ·obtain⟨e,he,rfl⟩:=mem_ofEvents ar;obtain⟨⟨b',al,av⟩,_⟩:=(am e he).1 a au;rw [hb] at al;cases al;rcases av with rfl | rfl
   ·exact h.HJ
   ·exact h.Ik
  ·obtain⟨e,he,rfl⟩:=mem_ofEvents ar;exact aY e he _ aA
 have a0:stepG P (i==0) g w= .go g' (F.put w v₁ wt₁ sm₁) es:=by rw [ac];exact aR w h.wg
 have a2:Cv F B.N0 (gs.size+c.toNat) j c (Cq c gs.size (upd φ i Z)) v₁ wt₁ sm₁ false:=by
  by_cases e:i=0
  ·subst e;cases c with
   | false=>
    have:=h.Cw.act (i:=0) (by omega) (by rw [I6];exact K) O;rw [I6] at this;rw [I6];exact this
   | true=>
    have:=h.Cw.act (i:=gs.size) (by simp) (by rw [Jx];exact K) O
    rwa [Wx (by omega)] at this
  ·have:=h.Cw.act (i:=i) (by omega) (by rw [IC e (by omega)];exact K) O
   rwa [Nc e (by omega)] at this
 have a3:EU F B.N0 B.t0 gs.size j (upd φ i Z) (upd S i s') (t++MemOp.ofEvents i g.frame.fn g.frame.place es):=by
  refine h.EC.app U (by rw [K];exact e2) (λe he=>(am e he).keep aC h.JK h.JN) (.inl aD) (λk an aG e he a b au hb hw=>?_) (λk an e aG=>?_)
  ·obtain⟨⟨b',al,av⟩,_⟩:=(am e he).1 a au;rw [hb] at al;cases al;have aH:B.N0+k<gs.size:=by omega
   rcases av with rfl | rfl
   ·exact(h.B6.sh _ aH _ h.HJ).2
   ·exact(h.B6.sh _ aH _ h.Ik).2
  ·have aI:i≠0:=by omega
   have aJ:GG F k (.ph p):=by
    rcases h.Ew U with a4 | ⟨_,d,hd,_⟩ | ⟨k',_,bn,_,hw⟩
    ·exact absurd a4 aI
    ·rw [K] at hd;cases hd
    ·obtain rfl:k'=k:=by omega
     rwa [K] at hw
   rcases aV (aB aI) aG with aw | rfl
   ·refine .inl ⟨by rw [K];exact aw,by rw [ap (QC aJ aw)],λρ ay=>?_⟩;refine ay.appOwn _ _ es λm e he=>?_;rw [h.EC.deaf _ U,K];exact WS p O aJ aw m e he
   ·refine .inr ⟨t.size,h.EC.Ma,?_,?_⟩
    ·simp only [Fam.act] at O;cases O;exact .new (by rw [h.EC.deaf _ U,K];rfl) _ _
    ·simp only [Fam.act] at O;cases O;rw [ag rfl];intro b hb x a aK a5 hw;have a6:MemOp.ofEvents i g.frame.fn g.frame.place #[Fam.Cx (.releaseMerge F.sA)]= #[{g:=i,fn:=g.frame.fn,pos:=g.frame.place,act:= .mark (.releaseMerge F.sA)}]:=by rw [ofEvents_eq];simp [Fam.Cx,MemAct.ofEvent]
     rw [a6] at aK ⊢;obtain⟨op,aq,aL⟩:=touch_of aK;rcases getElem?_append_cases aq with⟨_,a7⟩ | ⟨_,aM⟩
     ·have a8:=aF.kE i U b (by rw [upd_same,ag rfl];exact hb) x a (by rw [touchAt_of a7];exact aL) a5 hw;have a9:(t++ #[({g:=i,fn:=g.frame.fn,pos:=g.frame.place,act:= .mark (.releaseMerge F.sA)}:MemOp)])[t.size]? =some {g:=i,fn:=g.frame.fn,pos:=g.frame.place,act:= .mark (.releaseMerge F.sA)}:=by simp
      exact .inr (a8.hb_new (Nat.le_refl _) a9 rfl)
     ·simp at aM;subst aM;cases aL
 have ba:∀k,k<j->stored (upd φ i Z (B.N0+k))->F.msg k (f k) (upd S i s' (B.N0+k)).E:=by
  intro k an aN;by_cases e:B.N0+k=i
  ·rw [e,upd_same];have:=h.Il k an (by rw [e,K];exact aW (aB (by omega)));rw [e] at this;exact aP _ _ _ _ hle this
  ·rw [upd_ne _ _ e] at aN ⊢;exact h.Il k an aN
 have bb:LI gs.size (upd φ i Z) m q:=h.lock.other U (λk l e=>aU k l (by rw [K] at e;exact Nx.ph.inj e)) (λk l e=>by subst e;exact(n1 _ rfl).2.2.2 k l rfl);have be:∀q,Z= .ph q->loc (.ph q) s'=Fam.Je p s₀:=by
  intro q e;obtain⟨_,aO,bf,_⟩:=n1 q e;cases Y:Fam.CC q with
  | true=>
   have:loc (.ph q) s'= .quiet:=by simp [loc,Hx,Y]
   rw [this];rcases aO Y with rfl | e
   ·rfl
   ·rw [ao.law.quiet e];cases p <;> rfl
  | false=>
   obtain⟨a1,bg⟩:=bf Y;rw [Yc bg,ag a1];simp [loc,Hx,Y]
 have fin:∀(ρ:Rk),Gw P F (i==0) Z ρ true g' (loc Z s')->Ib P F B gs w sl t i (mu F gs.size φ m q r bt):=λρ bh=>
  h.go' (f₁:=f) hi a0 a2 bb a3 bh aZ (X4 _ _ _ _ aA) (by show(F.put w v₁ wt₁ sm₁).heap[F.mu]? =_;rw [Pg _ _ _ _ h.Mg];exact h.Jd) (by show(F.put w v₁ wt₁ sm₁).heap[F.fd]? =_;rw [Pg _ _ _ _ h.JK];exact h.Ge)
   (λa b=>⟨ao.law.IJ (.inl (n2 a b)),aS⟩) (λa b=>absurd b a) ba (λ_=>aX) (λe=>by subst e;exact hle) rfl (.refl _) rfl λbo=>Tb U (by rw [K];exact Yu O)
 cases Z with
 | ph q=>
  obtain⟨ρ,ay⟩:=az;refine fin ρ ?_;obtain⟨bi,aO,_,_⟩:=n1 q rfl;refine .walk (by rw [ac,bi]) (λY=>by simp [loc,Hx,Y]) ?_;rw [be q rfl,ac];exact ay
 | gone d=>
  obtain⟨bj,Y⟩:=az;exact fin (chain bj) (.gone (by rw [ac];exact(aT d rfl).1) Y)
theorem YB{l:LP}{m m':M4}{q q':Nat}{es:Array Event}{o:Option LP}(K:(m',q',es,o)∈F.BV l m q):q'<=q∨∃b,l= .ET b:=by
 cases l <;> simp only [Fam.BV,List.mem_singleton,Prod.mk.injEq,List.not_mem_nil] at K
 case ET b=>exact .inr ⟨b,rfl⟩
 case G8=>split at K <;> simp only [List.mem_singleton,Prod.mk.injEq] at K <;> exact .inl (by omega)
 case Cg sv aw it old=>
  simp only [Fam.Fq,List.mem_append] at K;left;rcases K with K | K
  ·split at K
   ·split at K
    ·simp only [List.mem_singleton] at K;split at K <;> simp only [Prod.mk.injEq] at K <;> omega
    ·simp only [List.mem_singleton,Prod.mk.injEq] at K;omega
   ·simp at K
  ·split at K
   ·split at K
    ·simp only [List.mem_singleton,Prod.mk.injEq] at K;omega
    ·simp only [List.mem_cons,List.not_mem_nil,or_false,Prod.mk.injEq] at K;rcases K with K | K <;> omega
   ·simp only [List.mem_singleton,Prod.mk.injEq] at K;omega
 case FR=>
  simp only [List.mem_cons,List.not_mem_nil,or_false,Prod.mk.injEq] at K;left;rcases K with K | K <;> omega
 case Eu sv=>split at K <;> simp only [List.mem_singleton,Prod.mk.injEq] at K <;> exact .inl (by omega)
 case ED old=>split at K <;> simp only [List.mem_singleton,Prod.mk.injEq] at K <;> exact .inl (by omega)
 all_goals exact .inl (by omega)
theorem V0{l:LP}{m m':M4}{q q':Nat}{es:Array Event}{o:Option LP}(K:(m',q',es,o)∈F.BV l m q):(∀p,o=some p->Gq p->Gq l)/\(o=none->Gq l):=by
 cases l <;> simp only [Fam.BV,List.mem_singleton,Prod.mk.injEq,List.not_mem_nil] at K
 case G8=>split at K <;> simp only [List.mem_singleton,Prod.mk.injEq] at K <;> obtain⟨-,-,-,rfl⟩:=K <;> simp [Gq]
 case Cg sv aw it old=>
  simp only [Fam.Fq,List.mem_append] at K;rcases K with K | K
  ·split at K
   ·split at K
    ·simp only [List.mem_singleton] at K;split at K <;> simp only [Prod.mk.injEq] at K <;> obtain⟨-,-,-,rfl⟩:=K <;> simp [Gq]
    ·simp only [List.mem_singleton,Prod.mk.injEq] at K;obtain⟨-,-,-,rfl⟩:=K;simp [Gq]
   ·simp at K
  ·split at K
   ·split at K
    ·simp only [List.mem_singleton,Prod.mk.injEq] at K;obtain⟨-,-,-,rfl⟩:=K;simp [Gq]
    ·simp only [List.mem_cons,List.not_mem_nil,or_false,Prod.mk.injEq] at K;rcases K with⟨-,-,-,rfl⟩ | ⟨-,-,-,rfl⟩ <;> simp [Gq]
   ·simp only [List.mem_singleton,Prod.mk.injEq] at K;obtain⟨-,-,-,rfl⟩:=K;simp [Gq]
 case FR=>
  simp only [List.mem_cons,List.not_mem_nil,or_false,Prod.mk.injEq] at K;rcases K with⟨-,-,-,rfl⟩ | ⟨-,-,-,rfl⟩ <;> simp [Gq]
 case Co sv=>obtain⟨-,-,-,rfl⟩:=K;cases sv <;> simp [Gq]
 case Eu sv=>split at K <;> simp only [List.mem_singleton,Prod.mk.injEq] at K <;> obtain⟨-,-,-,rfl⟩:=K <;> simp [Gq]
 all_goals first
  | (obtain⟨-,-,-,rfl⟩:=K;simp [Gq];done)
  | (exact⟨λ_ _ _=>trivial,λ_=>trivial⟩)
theorem Inv.BV(h:Inv P F B gs w t φ r bt S Sh j c v wt' sm m q f)(aH:∀k v E E',Le E E'->F.msg k v E->F.msg k v E'){i:Nat}{g:Goroutine}(hi:gs[i]? =some g){k:Nat}{l:LP}(K:φ i= .ph (.lk k l))(aI:l≠ .Fu)(ag:(i==0)=false){s₀:St}(aw:Cb (S i) s₀)(ay:Stop P F (.lk k l) g s₀)
  (aJ:∀sv,l= .Co sv->q≠0):Ib P F B gs w sl t i (mu F gs.size φ m q r bt):=by
 have O:i<gs.size:=(Array.getElem?_eq_some_iff.1 hi).1;have aq:=h.lock.ok O K h.small aJ;obtain⟨m',q',es,o,g',al,U,aK,Y,aL,aM⟩:=ay.law.lk k l rfl aI w m q h.Jd aq;obtain⟨am,e2,aN⟩:=WZ U;have az:=h.B6.Ga F.mu h.Ik;have a6:=h.size;have a7:=h.Cw.pos;have Z:i≠0:=by simpa using ag
 obtain⟨k',aO,aA,_,aB⟩:∃k',k'<j/\i=B.N0+k'/\i≠0/\GG F k' (φ i):=by
  rcases h.Ew O with e | ⟨_,d,hd,_⟩ | e
  ·exact absurd e Z
  ·rw [K] at hd;cases hd
  ·exact e
 rw [K] at aB;obtain rfl:k=k':=aB;have aP:BT t w gs.size (upd S i s₀) Sh:=h.B6.ghost O aw;have aQ:BT (t++MemOp.ofEvents i g.frame.fn g.frame.place es) al gs.size (upd S i s₀) Sh:=by
  have:BT (t++MemOp.ofEvents i g.frame.fn g.frame.place es) (F.FC w m' q') gs.size (upd S i s₀) Sh:=by
   refine aP.ext (h.EC.noRace h.B6.clean O (.inr (by omega)) λe he=>(am e he).toS (λx=>x.elim)) (λop ar a au b hb=>?_) (λop ar=>?_) (Vu ..) (λb hb=>OZ _ _ _ λe=>hb (e▸h.Ik))
   ·obtain⟨e,he,rfl⟩:=mem_ofEvents ar;obtain⟨⟨b',ac,av⟩,_⟩:=(am e he).1 a au;rw [hb] at ac;cases ac;rcases av with rfl | rfl
    ·exact h.HJ
    ·exact h.Ik
   ·obtain⟨e,he,rfl⟩:=mem_ofEvents ar;exact aN e he _ az
  exact this.heap Y.1
 have aR:cU (.ph (Fam.C3 k o))=1/\cL (.ph (Fam.C3 k o))=0/\cS (.ph (Fam.C3 k o))=0/\GG F k (.ph (Fam.C3 k o))/\(∀a,Nx.ph (Fam.C3 k o)≠ .ph (.G9 a))/\Fam.Cu (Fam.C3 k o)=false/\Fam.CC (Fam.C3 k o)=false/\¬late (.ph (Fam.C3 k o)):=by
  cases o with
  | none=>exact⟨rfl,rfl,rfl,trivial,by simp [Fam.C3],rfl,rfl,λx=>x⟩
  | some p=>exact⟨rfl,rfl,rfl,rfl,by simp [Fam.C3],rfl,rfl,λx=>x⟩
 obtain⟨aS,x2,aT,aU,aV,aW,aC,aX⟩:=aR;have aY:Cv F B.N0 (gs.size+c.toNat) j c (Cq c gs.size (upd φ i (.ph (Fam.C3 k o)))) v wt' sm false:=by
  have an:Cq c gs.size φ (B.N0+k)= .ph (.lk k l):=by rw [← aA,IC Z (by omega)];exact K
  have:=h.Cw.Ig (v':=v) (wt':=wt') (sm':=sm) (cl':=false) aO (x:= .ph (Fam.C3 k o)) aU (λa=>by rw [an];simp) aV (by rw [an,aS];rfl) λL S' aD aE=>by
   rw [an,x2] at aD;rw [an,aT] at aE;have aZ:L=_:=aD;have a0:S'=_:=aE;rw [aZ,a0];exact h.Cw.mode
  rwa [← aA,Nc Z (by omega)] at this
 have a1:EU F B.N0 B.t0 gs.size j (upd φ i (.ph (Fam.C3 k o))) (upd S i s₀) (t++MemOp.ofEvents i g.frame.fn g.frame.place es):=by
  refine h.EC.app O (by rw [K];rw [show FE (.ph (.lk k l))=dl l from rfl,e2];cases o <;> rfl) (λe he=>(am e he).keep (λx=>x.elim) h.JK h.JN) (.inl (.inr (by omega))) (λk' ao aF e he a b au hb hw=>?_) (λk' ao e aF=>absurd aF aX);obtain⟨⟨b',ac,av⟩,_⟩:=(am e he).1 a au;rw [hb] at ac;cases ac;have aG:B.N0+k'<gs.size:=by omega
  rcases av with rfl | rfl
  ·exact(h.B6.sh _ aG _ h.HJ).2
  ·exact(h.B6.sh _ aG _ h.Ik).2
 obtain⟨ρ,a2⟩:=aM;have a3:loc (.ph (Fam.C3 k o)) s₀=s₀:=by simp [loc,Hx,aC]
 refine h.go' (f₁:=f) hi (by rw [ag];exact aK) aY (h.lock.step O K h.small aq U) a1 (ρ:=ρ) (by rw [a3];exact .walk (by rw [ag,aW]) (λe=>by rw [aC] at e;cases e) (by rw [ag];exact a2)) aQ ?_ ?_ ?_ (λa b=>absurd b a) (λa b=>?_) (λk' ao ap=>?_) (λe=>absurd e Z) (λe=>absurd e Z) (Y.2.1) Y.2.2.1 Y.2.2.2 λa8=>Z2 O K U aq
 ·show al.heap[F.wg]? =_;rw [Y.1,OZ _ _ _ (Ne.symm h.Mg)];exact h.wg
 ·show al.heap[F.mu]? =_;rw [Y.1];exact XD _ _ _ az
 ·show al.heap[F.fd]? =_;rw [Y.1,OZ _ _ _ h.JN];exact h.Ge
 ·rcases YB U with e | ⟨a4,rfl⟩
  ·omega
  ·exact⟨ay.law.IJ (.inr ⟨k,a4,rfl⟩),aL⟩
 ·by_cases e:B.N0+k'=i
  ·rw [e,upd_same] at ap ⊢;obtain rfl:k'=k:=by omega
   have a5:Gq l:=by
    obtain⟨a,b⟩:=V0 U;cases o with
    | none=>exact b rfl
    | some p=>exact a p rfl ap
   have:=h.Il k' ao (by rw [e,K];exact a5);rw [e] at this;exact aH _ _ _ _ (λb o U=>aw.ext b o U) this
  ·rw [upd_ne _ _ e] at ap ⊢;exact h.Il k' ao ap
end
end Pal
namespace Pal
open Go Go.Conc
open Go.ConcN (upd upd_same upd_ne sumTo sumTo_upd sumTo_upd_out sumTo_congr le_sumTo sumTo_le fork_knows RelBy)
section
variable {P:Program}{F:Fam}{B:Base}{gs gs':Array Goroutine}{w w':World}{sl:Option (Nat×Nat)}{t:Trace}{φ:Nat->Nx}{r:Nat->Rk}{bt:Nat->Bool}{S:Nat->St}{Sh:Nat->Prop}{j:Nat}{c:Bool}{v wt' sm v₁ wt₁ sm₁:Nat}{m m₁:M4}{q q₁:Nat}{f f₁:Nat->Value}
theorem Inv.store(h:Inv P F B gs w t φ r bt S Sh j c v wt' sm m q f){i:Nat}{g:Goroutine}(hi:gs[i]? =some g){k:Nat}(O:φ i= .ph (.lk k .Fu))(ag:(i==0)=false){s₀:St}(aA:Cb (S i) s₀)(aB:Stop P F (.lk k .Fu) g s₀):
  Ib P F B gs w sl t i (mu F gs.size φ m q r bt):=by
 have U:i<gs.size:=(Array.getElem?_eq_some_iff.1 hi).1;obtain⟨v0,aC,g',aQ,aD,aE⟩:=aB.law.store k rfl;have aq:=h.B6.Ga F.fd h.IL;have aR:=h.size;have aS:=h.Cw.pos;have Y:i≠0:=by simpa using ag
 obtain⟨k',al,Z,_,ar⟩:∃k',k'<j/\i=B.N0+k'/\i≠0/\GG F k' (φ i):=by
  rcases h.Ew U with e | ⟨_,d,hd,_⟩ | e
  ·exact absurd e Y
  ·rw [O] at hd;cases hd
  ·exact e
 rw [O] at ar;obtain rfl:k=k':=ar;have ac:∀e∈(#[⟨.cell ⟨F.fd,k,none⟩,true,false⟩]:Array Event),∀a,(MemAct.ofEvent e).touch? =some a->a=⟨.cell ⟨F.fd,k,none⟩,true,.plain⟩:=by
  intro e he a K;simp at he;subst he;simp [MemAct.ofEvent,MemAct.touch?] at K;exact K.symm
 have au:∀e∈(#[⟨.cell ⟨F.fd,k,none⟩,true,false⟩]:Array Event),e.loc≠ .mark (.release F.sA):=by
  intro e he;simp at he;subst he;simp
 have aF:∀e∈(#[⟨.cell ⟨F.fd,k,none⟩,true,false⟩]:Array Event),EvS F B.N0 j i e:=λe he=>
  ⟨λa K=>by have:=ac e he a K;subst this;exact⟨F.fd,rfl,.inr ⟨rfl,k,al,Z,rfl,rfl⟩⟩,au e he⟩
 have aG:BT t w gs.size (upd S i s₀) Sh:=h.B6.ghost U aA;have aH:BT (t++MemOp.ofEvents i g.frame.fn g.frame.place #[⟨.cell ⟨F.fd,k,none⟩,true,false⟩]) (F.Hd w (upd f k v0)) gs.size (upd S i s₀) Sh:=by
  refine aG.ext (h.EC.noRace h.B6.clean U (.inr (by omega)) aF) (λop am a aI b hb=>?_) (λop am=>?_) (U4 ..) (λb hb=>OY _ _ λe=>hb (e▸h.IL))
  ·obtain⟨e,he,rfl⟩:=mem_ofEvents am;have:=ac e he a aI;subst this;have:b=F.fd:=by simpa [CF] using hb.symm
   subst this;exact h.IL
  ·obtain⟨e,he,rfl⟩:=mem_ofEvents am;simp at he;subst he;simp [MemAct.ofEvent,MemAct.low,Loc.low,aq]
 have aJ:Cv F B.N0 (gs.size+c.toNat) j c (Cq c gs.size (upd φ i (.ph (.lk k .Gt)))) v wt' sm false:=by
  have an:Cq c gs.size φ (B.N0+k)= .ph (.lk k .Fu):=by rw [← Z,IC Y (by omega)];exact O
  have:=h.Cw.Ig (v':=v) (wt':=wt') (sm':=sm) (cl':=false) al (x:= .ph (.lk k .Gt)) rfl (λa=>by rw [an];simp) (by simp) (by rw [an];rfl) λL S' av aw=>by
   rw [an] at av aw;have aK:L=_:=av;have aL:S'=_:=aw;rw [aK,aL];exact h.Cw.mode
  rwa [← Z,Nc Y (by omega)] at this
 have aM:EU F B.N0 B.t0 gs.size j (upd φ i (.ph (.lk k .Gt))) (upd S i s₀) (t++MemOp.ofEvents i g.frame.fn g.frame.place #[⟨.cell ⟨F.fd,k,none⟩,true,false⟩]):=by
  refine h.EC.app U (by rw [O];rfl) (λe he=>⟨λa b K hb aN=>?_,λa K hb=>?_,au e he⟩) (.inl (.inr (by omega))) (λk' ao ay e he a b K hb hw=>?_) (λk' ao e ay=>ay.elim)
  ·have:=ac e he a K;subst this;have ap:b=F.fd:=by simpa [CF] using hb.symm
   subst ap;rcases aN with e | e
   ·exact absurd e h.JK
   ·exact absurd e h.JN
  ·have:=ac e he a K;subst this;exact⟨k,al,Z,rfl,rfl⟩
  ·have:=ac e he a K;subst this;have ap:b=F.fd:=by simpa [CF] using hb.symm
   subst ap;exact(h.B6.sh (B.N0+k') (by omega) _ h.IL).2
 obtain⟨ρ,aO⟩:=aE;have aP:LI gs.size (upd φ i (.ph (.lk k .Gt))) m q:=by
  refine h.lock.same U (λf=>?_) trivial;rw [O];by_cases e:f .Fu=f .Gt
  ·exact .inl e
  ·right;refine⟨?_,?_,?_,?_,?_,?_,?_,?_⟩ <;> rintro rfl <;> exact e rfl
 refine h.go' (f₁:=upd f k v0) hi (by rw [ag];exact aD w f h.Ge) aJ aP aM (ρ:=ρ) (.walk (by rw [ag];rfl) (λe=>by cases e) (by rw [ag];exact aO)) aH ?_ ?_ (W2 _ _ aq) (λa b=>absurd b a) (λa b=>absurd b a) (λk' ao az=>?_) (λe=>absurd e Y) (λe=>absurd e Y) rfl (.refl _) rfl λaT=>Tb U (by rw [O];simp [wt,Hf])
 ·show(F.Hd w (upd f k v0)).heap[F.wg]? =_;rw [OY _ _ (Ne.symm h.JK)];exact h.wg
 ·show(F.Hd w (upd f k v0)).heap[F.mu]? =_;rw [OY _ _ (Ne.symm h.JN)];exact h.Jd
 ·by_cases e:k'=k
  ·subst e;rw [← Z,upd_same,upd_same];exact aC
  ·rw [upd_ne _ _ e];rw [upd_ne _ _ (by omega)] at az ⊢;exact h.Il k' ao az
theorem Ud{g g' o:Goroutine}(h:g'.status= .blocked):woken P g g' w o=o:=by
 unfold woken;rw [if_neg (by simp [h])]
theorem EU.YZ{N0 t0 N:Nat}(h:EU F N0 t0 N j φ S t){i:Nat}{s':St}(U:∀k,k<j->late (φ (N0+k))->N0+k≠i):EU F N0 t0 N j φ (upd S i s') t:=
 ⟨h.deaf,h.above,h.plain,h.said,h.Ge,h.over,h.norel,h.Ma,λk K O=>by rw [upd_ne _ _ (U k K O)];exact h.rel k K O⟩
theorem Inv.block(h:Inv P F B gs w t φ r bt S Sh j c v wt' sm m q f){i:Nat}{g:Goroutine}(hi:gs[i]? =some g){p:Ph}(K:φ i= .ph p)(av:bt i=true)(ac:(i==0)=Fam.Cu p){s₀:St}(an:Cb (S i) s₀)(ag:Stop P F p g s₀)
  (al:(p= .Ft/\sm=0)∨((∃k sv,p= .lk k (.Co sv))/\q=0)):Ib P F B gs w sl t i (mu F gs.size φ m q r bt):=by
 have Y:i<gs.size:=(Array.getElem?_eq_some_iff.1 hi).1;have aB:=h.size;have aw:stepG P (i==0) g w= .go {g with status:= .blocked} w #[]:=by
  rw [ac];rcases al with⟨rfl,rfl⟩ | ⟨⟨k,sv,rfl⟩,rfl⟩
  ·exact ag.law.EW rfl w v wt' h.wg
  ·exact ag.law.Co k sv rfl w m h.Jd
 have Z:Pp p:=by
  rcases al with⟨rfl,_⟩ | ⟨⟨k,sv,rfl⟩,_⟩
  ·exact .inl rfl
  ·exact .inr ⟨k,sv,rfl⟩
 have ay:=Qp Z;have ao:=runT_crowd_go (P:=P) (sl:=sl) (i:=i) hi aw;have az:(gs.map (woken P g {g with status:= .blocked} w)).setIfInBounds i {g with status:= .blocked}=gs.setIfInBounds i {g with status:= .blocked}:=by
  have:(woken P g {g with status:= .blocked} w)=id:=by funext o;exact Ud rfl
  rw [this,Array.map_id]
 rw [az,My] at ao;have O:(gs.setIfInBounds i {g with status:= .blocked}).size=gs.size:=by simp
 have ap:t++(#[]:Trace)=t:=by simp
 have aA:∀k,k<j->late (φ (B.N0+k))->B.N0+k≠i:=by
  intro k aq ar e;rw [e,K] at ar;rcases Z with rfl | ⟨k',sv,rfl⟩
  ·rcases h.Ew Y with ap | ⟨_,d,hd,_⟩ | ⟨k',_,_,_,hw⟩
   ·have:=h.Cw.pos;omega
   ·rw [K] at hd;cases hd
   ·rw [K] at hw;exact hw
  ·exact ar
 refine⟨_,_,_,_,ao,.inl ⟨φ,r,upd bt i false,upd S i s₀,Sh,j,c,v,wt',sm,m,q,f,?_,?_⟩⟩
 ·rw [ap];refine⟨by rw [O];exact h.Cw,by rw [O];exact h.lock,by rw [O];exact h.EC.YZ aA,λa o U=>?_,by rw [O];exact h.B6.ghost Y an,h.HJ,h.Ik,h.IL,h.Mg,h.JK,h.JN,h.HH,h.mn,h.wg,h.Jd,h.Ge,λa au hb=>?_,λk aq am=>?_,?_,h.tape,h.os,h.output⟩
  ·by_cases e:a=i
   ·subst e;rw [Array.getElem?_setIfInBounds_self_of_lt Y] at U;obtain rfl:=Option.some.inj U;rw [upd_same,upd_same,K];have:loc (.ph p) s₀=s₀:=by simp [loc,Hx,ay]
    rw [this];exact .blk Z ac ag
   ·rw [Array.getElem?_setIfInBounds_ne (Ne.symm e)] at U;rw [upd_ne _ _ e,upd_ne _ _ e];exact h.Kw a o U
  ·by_cases e:a=i
   ·subst e;rcases al with⟨rfl,rfl⟩ | ⟨⟨k,sv,rfl⟩,rfl⟩
    ·have:a=0:=by simpa [Fam.Cu] using ac
     subst this;exact .inl ⟨rfl,K,rfl⟩
    ·exact .inr ⟨⟨k,sv,K⟩,rfl⟩
   ·rw [upd_ne _ _ e] at hb;rw [O] at au;exact h.blk a au hb
  ·by_cases e:B.N0+k=i
   ·rw [e,K] at am;rcases Z with rfl | ⟨k',sv,rfl⟩ <;> exact am.elim
   ·rw [upd_ne _ _ e];exact h.Il k aq am
  ·by_cases e:0=i
   ·subst e;rw [upd_same];exact λb o U=>an.ext b o (h.le b o U)
   ·rw [upd_ne _ _ e];exact h.le
 ·rw [O];have:=sumTo_upd bt false bit Y;rw [av] at this;exact .inr ⟨rfl,.inr ⟨rfl,.inr ⟨rfl,rfl,.inr ⟨rfl,by show(sumTo gs.size λa=>bit (upd bt i false a))<sumTo gs.size λa=>bit (bt a);simp only [bit] at this ⊢;simp only [if_true,Bool.false_eq_true,if_false] at this;omega⟩⟩⟩⟩
theorem LI.push{N:Nat}(h:LI N φ m q)(Z:0<N){p0:Ph}{j:Nat}(O:∀k p,φ 0≠ .ph (.lk k p))(U:∀k p,p0≠ .lk k p):LI (N+1) (upd (upd φ N (.ph (.lk j .FT))) 0 (.ph p0)) m q:=by
 have Y:LI (N+1) (upd φ N (.ph (.lk j .FT))) m q:=by
  have e:∀f,f LP.FT=0->Sg f (N+1) (upd φ N (.ph (.lk j .FT)))=Sg f N φ:=by
   intro f ac;unfold Sg;simp only [sumTo];have:=sumTo_upd_out φ (.ph (.lk j .FT)) (C4 f) (i:=N) (j:=N) (Nat.le_refl _);rw [upd_same];show _+f .FT=_;omega
  refine⟨by rw [e pH rfl,e pN rfl,e pZ rfl,e pV rfl,e pT rfl,e pQ rfl,e pD rfl,e pX rfl];exact h.ln,λa ag=>?_⟩;by_cases K:a=N
  ·subst K;rw [upd_same];trivial
  ·rw [upd_ne _ _ K];exact h.loc a (by omega)
 exact Y.other (by omega) (by rw [upd_ne _ _ (by omega)];exact O) (λk p e=>U k p (Nx.ph.inj e))
theorem Inv.spawn(h:Inv P F B gs w t φ r bt S Sh j c v wt' sm m q f){g:Goroutine}(hi:gs[0]? =some g){K:Nat}(ac:φ 0= .ph (.FF K)){s₀:St}(aG:Cb (S 0) s₀)(aL:Stop P F (.FF K) g s₀):
  Ib P F B gs w sl t 0 (mu F gs.size φ m q r bt):=by
 have Y:0<gs.size:=(Array.getElem?_eq_some_iff.1 hi).1;obtain⟨rfl,bi,rfl⟩:K=j/\j<F.n/\c=false:=by
  obtain⟨p,aH,_,hh⟩:=h.main;rw [ac] at aH;cases aH;rcases hh with⟨e,hm⟩ | ⟨_,hm⟩
  ·exact⟨hm.1,hm.2.1,e⟩
  ·exact hm.elim
 obtain⟨g',child,bj,bl,aM,aN,aO⟩:=aL.law.go _ rfl;have aP:=h.size;have bm:=h.Cw.pos;have ay:=runT_crowd_spawn (P:=P) (sl:=sl) (i:=0) hi (show stepG P (0==0) g w=_ from aM w);rw [My] at ay;generalize aQ:({g:=0,fn:=g.frame.fn,pos:=g.frame.place,act:= .go gs.size}:MemOp)=x at ay;generalize aR:({g:=gs.size,fn:=child.frame.fn,pos:=g.frame.place,act:= .start}:MemOp)=y at ay;have am:x.g=0/\x.act= .go gs.size:=by subst aQ;exact⟨rfl,rfl⟩
 have an:y.g=gs.size/\y.act= .start:=by subst aR;exact⟨rfl,rfl⟩
 have aS:((#[]:Trace).push x).push y= #[x,y]:=rfl;have al:((gs.setIfInBounds 0 g').push child).size=gs.size+1:=by simp
 have aT:Fam.Cu (F.Ex K)=true/\Fam.CC (F.Ex K)=false/\FE (.ph (F.Ex K))=0/\(∀k p,F.Ex K≠ .lk k p):=by
  unfold Fam.Ex;split <;> exact⟨rfl,rfl,rfl,by simp⟩
 obtain⟨aU,x2,aV,aW⟩:=aT;let φ':Nat->Nx:=upd (upd φ gs.size (.ph (F.start K))) 0 (.ph (F.Ex K));have f0:φ' 0= .ph (F.Ex K):=upd_same _ _ _;have ao:φ' gs.size= .ph (F.start K):=by show upd _ _ _ _=_;rw [upd_ne _ _ (by omega),upd_same]
 have ap:∀a,a≠0->a≠gs.size->φ' a=φ a:=λa aX aB=>by show upd _ _ _ _=_;rw [upd_ne _ _ aX,upd_ne _ _ aB]
 have hu:∀op∈(#[x,y]:Array MemOp),op.act.touch? =none/\∀m,op.act≠ .mark m:=by
  intro op O;simp only [List.mem_toArray,List.mem_cons,List.not_mem_nil,or_false] at O;rcases O with rfl | rfl
  ·rw [am.2];exact⟨rfl,by simp⟩
  ·rw [an.2];exact⟨rfl,by simp⟩
 have aq:=h.Cw.spawn (by rw [I6];exact ac);rw [I6] at aq;simp only [Bool.toNat_false,Nat.add_zero] at aq;have aC:∃ar,Cv F B.N0 (gs.size+1+ar.toNat) (K+1) ar (Cq ar (gs.size+1) φ') v wt' sm false:=by
  by_cases e:K+1=F.n
  ·refine⟨true,?_⟩;have aD:F.Fp K= .GL:=by unfold Fam.Fp;rw [if_pos e]
   have e2:F.Ex K= .Db:=by unfold Fam.Ex;rw [if_pos e]
   have:=aq.Ys (by rw [upd_same,aD]);have aY:Cq true (gs.size+1) φ'=upd (upd (upd (upd φ gs.size (.ph (F.start K))) 0 (.ph (F.Fp K))) (gs.size+1) (.ph .Db)) 0 (.ph (.FB [] [])):=by
    funext a;unfold Cq;by_cases aE:a=gs.size+1
    ·subst aE;rw [if_pos ⟨rfl,rfl⟩,upd_ne _ _ (by omega),upd_same,f0,e2]
    ·rw [if_neg (by simp [aE])];by_cases ag:a=0
     ·subst ag;rw [if_pos ⟨rfl,rfl⟩,upd_same]
     ·rw [if_neg (by simp [ag]),upd_ne _ _ ag,upd_ne _ _ aE];show upd _ _ _ _=_;rw [upd_ne _ _ ag,upd_ne _ _ ag]
   rw [aY];exact this
  ·refine⟨false,?_⟩;have aD:F.Fp K=F.Ex K:=by unfold Fam.Fp Fam.Ex;rw [if_neg e,if_neg e]
   rw [aD] at aq;rw [I6];exact aq
 obtain⟨ar,aC⟩:=aC;have aI:BT t w gs.size (upd S 0 s₀) Sh:=h.B6.ghost Y aG;have aZ:BT (t++ #[x,y]) w gs.size (upd S 0 s₀) Sh:=by
  refine aI.ext (λsaid=>?_) (λop O a au=>by rw [(hu op O).1] at au;cases au) (λop O=>?_) rfl λ_ _=>rfl
  ·have e:t++ #[x,y]=(t++ #[x])++ #[y]:=by apply Array.ext';simp
   rw [e];exact noRace_append (g:=gs.size) (noRace_append (g:=0) (h.B6.clean said) (λop O=>by simp at O;subst O;exact am.1) λz a _ op O b hb _=>by rw [(hu op (by simp at O ⊢;exact .inl O)).1] at hb;cases hb)
    (λop O=>by simp at O;subst O;exact an.1) λz a _ op O b hb _=>by rw [(hu op (by simp at O ⊢;exact .inr O)).1] at hb;cases hb
  ·simp only [List.mem_toArray,List.mem_cons,List.not_mem_nil,or_false] at O;rcases O with rfl | rfl
   ·rw [am.2];trivial
   ·rw [an.2];trivial
 have a0:Deaf t 0=0:=by rw [h.EC.deaf 0 Y,ac];rfl
 have a2:BT (t++ #[x,y]) w (gs.size+1) (upd (upd S 0 s₀) gs.size ⟨s₀.E,λ_=>none,false⟩) Sh:=by
  refine aZ.push (i:=0) Y (E:=s₀.E) (λb o av=>by rw [upd_same];exact av) λb hb z a a3 a4 a5=>?_;have hold:touchAt t z=some a:=by
   obtain⟨op,av,aF⟩:=touch_of a3;rcases getElem?_append_cases av with⟨_,a6⟩ | ⟨_,a7⟩
   ·rw [touchAt_of a6];exact aF
   ·rw [(hu op a7).1] at aF;cases aF
  exact fork_knows am an a0 (h.EC.above _ (Nat.le_refl _)) (aI.kE 0 Y b (by rw [upd_same];exact hb) z a hold a4 a5)
 have aJ:∀k,k<K->upd (upd S 0 s₀) gs.size ⟨s₀.E,λ_=>none,false⟩ (B.N0+k)=S (B.N0+k):=λk aK=>by rw [upd_ne _ _ (by omega),upd_ne _ _ (by omega)]
 have a8:EU F B.N0 B.t0 (gs.size+1) (K+1) φ' (upd (upd S 0 s₀) gs.size ⟨s₀.E,λ_=>none,false⟩) (t++ #[x,y]):=by
  refine h.EC.spawn Y aP (λa au=>?_) (by rw [ao];rfl) (by rw [ac];rfl) (λk aK az=>?_) am an
  ·by_cases e:a=0
   ·subst e;rw [f0,ac,aV];rfl
   ·rw [ap a e (by omega)]
  ·by_cases e:k=K
   ·subst e;rw [show B.N0+k=gs.size by omega,ao] at az;exact az.elim
   ·rw [ap _ (by omega) (by omega)] at az;exact⟨by omega,az,by rw [aJ k (by omega)]⟩
 obtain⟨a9,ba⟩:=aO;obtain⟨bb,be⟩:=aN;have aw:∀{α:Type} (f:Nat->α) (a b:α),upd (upd f 0 a) gs.size b 0=a:=λf a b=>by rw [upd_ne _ _ (by omega),upd_same]
 have bf:∀s:St,loc (.ph (F.Ex K)) s=s:=λs=>by simp [loc,Hx,x2]
 refine⟨_,_,_,_,ay,.inl ⟨φ',upd (upd r 0 a9) gs.size bb,upd (upd bt 0 true) gs.size true,upd (upd S 0 s₀) gs.size ⟨s₀.E,λ_=>none,false⟩,Sh,K+1,ar,v,wt',sm,m,q,f,?_,?_⟩⟩
 ·rw [aS];refine⟨by rw [al];exact aC,by rw [al];exact h.lock.push Y (λk p e=>by rw [ac] at e;cases e) aW,by rw [al];exact a8,λa o Z=>?_,by rw [al];exact a2,h.HJ,h.Ik,h.IL,h.Mg,h.JK,h.JN,h.HH,(by rw [f0];unfold Fam.Ex;split <;> simp),h.wg,h.Jd,h.Ge,λa au hb=>?_,λk aK aA=>?_,?_,h.tape,h.os,h.output⟩
  ·by_cases e:a=0
   ·subst e;rw [Array.getElem?_push_lt (by simpa using Y)] at Z;simp at Z;subst Z;rw [f0,aw,aw,aw,bf];exact .walk aU.symm (λq=>by rw [x2] at q;cases q) ba
   ·by_cases U:a=gs.size
    ·subst U;have:child=o:=by
      rw [show gs.size=(gs.setIfInBounds 0 g').size by simp,Array.getElem?_push_size] at Z;exact Option.some.inj Z
     subst this;rw [ao,upd_same,upd_same,upd_same];have bg:(gs.size==0)=false:=by rw [beq_eq_false_iff_ne];omega
     rw [bg];exact .walk rfl (λq=>by cases q) be
    ·rw [ap a e U,upd_ne _ _ U,upd_ne _ _ e,upd_ne _ _ U,upd_ne _ _ e,upd_ne _ _ U,upd_ne _ _ e];have:gs[a]? =some o:=by
      rw [Array.getElem?_push] at Z;simp [U] at Z;simpa [Array.getElem?_setIfInBounds_ne (Ne.symm e)] using Z
     exact h.Kw a o this
  ·rw [al] at au;by_cases e:a=0
   ·subst e;rw [aw] at hb;cases hb
   ·by_cases U:a=gs.size
    ·subst U;rw [upd_same] at hb;cases hb
    ·rw [upd_ne _ _ U,upd_ne _ _ e] at hb;rcases h.blk a (by omega) hb with⟨ag,_⟩ | ⟨⟨k,sv,aB⟩,bh⟩
     ·exact absurd ag e
     ·exact .inr ⟨⟨k,sv,by rw [ap a e U];exact aB⟩,bh⟩
  ·by_cases e:k=K
   ·subst e;rw [show B.N0+k=gs.size by omega,ao] at aA;exact aA.elim
   ·rw [ap _ (by omega) (by omega)] at aA;rw [aJ k (by omega)];exact h.Il k (by omega) aA
  ·rw [aw];exact h.le.trans λb o av=>aG.ext b o av
 ·rw [al];refine Zh ?_;simp only [sumTo];rw [ao];have a1:=sumTo_upd (upd φ gs.size (.ph (F.start K))) (.ph (F.Ex K)) (wt F.n) Y;rw [upd_ne _ _ (by omega),ac] at a1;have bn:=sumTo_upd_out φ (.ph (F.start K)) (wt F.n) (i:=gs.size) (j:=gs.size) (Nat.le_refl _);have bo:wt F.n (.ph (F.start K))=23:=rfl;have bp:wt F.n (.ph (.FF K))=5*F.n+85+50*(F.n - K):=rfl;have bq:wt F.n (.ph (F.Ex K))+30<=5*F.n+85+50*(F.n - K):=by
   unfold Fam.Ex;split <;> simp only [wt] <;> omega
  show(sumTo gs.size λi=>wt F.n (upd (upd φ gs.size (.ph (F.start K))) 0 (.ph (F.Ex K)) i))+_<_;omega
end
end Pal
namespace Pal
open Go Go.Conc
open Go.ConcN (upd upd_same upd_ne sumTo sumTo_upd sumTo_upd_out sumTo_congr le_sumTo sumTo_le fork_knows RelBy)
theorem BT.final{t:Trace}{w:World}{N:Nat}{S:Nat->St}{Sh:Nat->Prop}(h:BT t w N S Sh)(am:0<N){s':St}{fd:Nat}
  (Z:∀b o,s'.E b=some o->w.heap[b]? =some o/\¬Sh b/\∀x a,touchAt t x=some a->CF a.loc=some b->a.write=true->Knows t 0 x)
  (ac:∀b o,s'.H b=some o->w.heap[b]? =some o/\(¬Sh b∨b=fd)/\∀x a,touchAt t x=some a->CF a.loc=some b->Knows t 0 x)
  (hd:∀b,s'.E b≠none->s'.H b=none) (an:s'.E fd=none):BT t w N (lone s') (λb=>Sh b/\b≠fd):=by
 have l0:lone s' 0=s':=rfl;have ln:∀i,i≠0->lone s' i= .quiet:=λi hi=>by simp [lone,hi]
 have Y:∀i b,i≠0->(lone s' i).E b=none:=λi b hi=>by rw [ln i hi];rfl
 have U:∀i b,i≠0->(lone s' i).H b=none:=λi b hi=>by rw [ln i hi];rfl
 refine⟨λi hi=>?_,λa b ao hb al x O=>?_,λi hi b hb=>?_,λb hb=>h.Ga b hb.1,h.clean,h.low,λi hi b hb x a O ag=>?_,λi hi b hb x a O ag hw=>?_⟩
 ·by_cases e:i=0
  ·subst e;rw [l0];exact⟨λb o K=>(Z b o K).1,λb o K=>(ac b o K).1,hd⟩
  ·exact⟨λb o K=>(by rw [Y i b e] at K;cases K),λb o K=>(by rw [U i b e] at K;cases K),λb hb=>U i b e⟩
 ·by_cases e:b=0
  ·subst e;rw [U a x al] at O;exact absurd rfl O
  ·exact⟨U b x e,Y b x e⟩
 ·by_cases e:i=0
  ·subst e;rw [l0];constructor
   ·cases O:s'.H b with
    | none=>rfl
    | some o=>rcases(ac b o O).2.1 with q | q;exact absurd hb.1 q;exact absurd q hb.2
   ·cases O:s'.E b with
    | none=>rfl
    | some o=>exact absurd hb.1 (Z b o O).2.1
  ·exact⟨U i b e,Y i b e⟩
 ·by_cases e:i=0
  ·subst e;obtain⟨o,K⟩:=HV (x:=s'.H b) hb;exact(ac b o K).2.2 x a O ag
  ·rw [U i b e] at hb;exact absurd rfl hb
 ·by_cases e:i=0
  ·subst e;obtain⟨o,K⟩:=HV (x:=s'.E b) hb;exact(Z b o K).2.2 x a O ag hw
  ·rw [Y i b e] at hb;exact absurd rfl hb
section
variable {P:Program}{F:Fam}{B:Base}{gs gs':Array Goroutine}{w w':World}{sl:Option (Nat×Nat)}{t:Trace}{φ:Nat->Nx}{r:Nat->Rk}{bt:Nat->Bool}{S:Nat->St}{Sh:Nat->Prop}{j:Nat}{c:Bool}{v wt' sm v₁ wt₁ sm₁:Nat}{m m₁:M4}{q q₁:Nat}{f f₁:Nat->Value}
theorem Inv.over(h:Inv P F B gs w t φ r bt S Sh j c v wt' sm m q f)(a5:∀k v E E',Le E E'->F.msg k v E->F.msg k v E'){g:Goroutine}(hi:gs[0]? =some g)(aE:φ 0= .ph .Gc){s₀:St}(aQ:Cb (S 0) s₀)(am:Stop P F .Gc g s₀)(a6:Mu):
  Ib P F B gs w sl t 0 a6:=by
 classical
 have ag:0<gs.size:=(Array.getElem?_eq_some_iff.1 hi).1;have bn:=h.size;have bo:=h.Cw.pos;obtain rfl:c=true:=by
  obtain⟨p,aR,_,hh⟩:=h.main;rw [aE] at aR;cases aR;rcases hh with⟨_,hm⟩ | ⟨e,_⟩
  ·exact hm.elim
  ·exact e
 have bp:j=F.n:=h.Cw.cj rfl;have aF:∀i,i≠0->i<gs.size->∃d,φ i= .gone d:=by
  intro i aG ay;rcases h.Ew ay with e | ⟨_,d,hd,_⟩ | ⟨k,Z,a7,_,_⟩
  ·exact absurd e aG
  ·exact⟨d,hd⟩
  ·have:=h.Cw.XB rfl (.inr (.inr (.inl (by rw [show B.N0+F.n=gs.size by omega,Jx];exact aE)))) k Z;rw [← a7,IC aG (by omega)] at this;cases U:φ i with
   | gone d=>exact⟨d,rfl⟩
   | ph p=>rw [U] at this;exact this.elim
 obtain⟨g',a8,a9⟩:=am.law.fin rfl;have aS:=runT_crowd_go (P:=P) (sl:=sl) (i:=0) hi (show stepG P (0==0) g w=_ from a8 w);have aT:Deaf t 0=0:=by rw [h.EC.deaf 0 ag,aE];rfl
 have aH:MemOp.ofEvents 0 g.frame.fn g.frame.place #[Fam.Cx (.acquire F.sA)]= #[{g:=0,fn:=g.frame.fn,pos:=g.frame.place,act:= .mark (.acquire F.sA)}]:=by rw [ofEvents_eq];simp [Fam.Cx,MemAct.ofEvent]
 generalize hu:MemOp.ofEvents 0 g.frame.fn g.frame.place #[Fam.Cx (.acquire F.sA)]=u at aS;have an:∀op∈u,op.act.touch? =none/\op.g=0/\op.act.low w.heap.size:=by
  intro op ao;rw [← hu,aH] at ao;simp at ao;subst ao;exact⟨rfl,rfl,h.B6.Ga F.wg h.HJ⟩
 have az:(t++u)[t.size]? =some {g:=0,fn:=g.frame.fn,pos:=g.frame.place,act:= .mark (.acquire F.sA)}:=by rw [← hu,aH];simp
 have ba:(t++u).heard t.size:=⟨0,by simp [Trace.g?,az],by rw [deaf_old (Nat.le_refl _)];exact aT⟩;have bb:(t++u).g? t.size=some 0:=by simp [Trace.g?,az]
 have be:∀x,B.t0<=x->(t++u).act? x≠some (.mark (.release F.sA)):=OI h.EC.norel λop ao e=>by rw [← hu,aH] at ao;simp at ao;subst ao;cases e
 have aI:∀k,k<F.n->∃ρ,ρ<t.size/\RelBy F.sA t (B.N0+k) ρ/\KE t (S (B.N0+k)).E ρ/\HappensBefore (t++u) ρ t.size:=by
  intro k Z;obtain⟨d,hd⟩:=aF (B.N0+k) (by omega) (by omega);obtain⟨ρ,a,b,e⟩:=h.EC.rel k (by omega) (by rw [hd];trivial);have aA:ρ<t.size:=lt_of_act? b.act;refine⟨ρ,aA,b,e,.single (.inr ⟨.marked aA (.inr (by rw [act?_old aA];exact b.act)) (by rw [act?_of az]) λz Y al=>be z (by omega),(heard_old aA).2 b.heard,ba⟩)⟩
 have aU:∀{x ρ},Before t x ρ->HappensBefore (t++u) ρ t.size->Knows (t++u) 0 x:=λY al=>⟨t.size,_,az,rfl,.inr ((Y.app u).hb al)⟩;have aV:∀{x k},k<F.n->t.g? x=some (B.N0+k)->t.counts x->Knows (t++u) 0 x:=by
  intro x k Z ac ap;obtain⟨ρ,Y,al,_,aw⟩:=aI k Z;have hle:x<=ρ:=Nat.le_of_not_lt λar=>al.after x ar ac ap;refine aU (ρ:=ρ) ?_ aw;rcases Nat.lt_or_ge x ρ with U | U
  ·exact .inr (.single (.inl ⟨U,_,ac,al.g⟩))
  ·exact .inl (by omega)
 have hold:∀{y a},touchAt (t++u) y=some a->touchAt t y=some a:=by
  intro y a U;obtain⟨op,O,aJ⟩:=touch_of U;rcases getElem?_append_cases O with⟨ar,aK⟩ | ⟨_,aL⟩
  ·rw [touchAt_of aK];exact aJ
  ·rw [(an op aL).1] at aJ;cases aJ
 have aq:BT t w gs.size (upd S 0 s₀) Sh:=h.B6.ghost ag aQ;have aM:BT (t++u) w gs.size (upd S 0 s₀) Sh:=aq.mute (g:=0) (λop O=>(an op O).2.1) (λop O=>(an op O).1) (λop O=>(an op O).2.2) rfl;let K:Nat->Obj->Prop:=λb o=>s₀.E b=some o∨∃k,k<F.n/\(S (B.N0+k)).E b=some o;have aN:∀b o,K b o->w.heap[b]? =some o:=by
  rintro b o (Y | ⟨k,Z,Y⟩)
  ·exact(aq.fits 0 ag).e b o (by rw [upd_same];exact Y)
  ·exact(h.B6.fits (B.N0+k) (by omega)).e b o Y
 let E':LH:=λb=>if hb:∃o,K b o then some (Classical.choose hb) else none
 have aO:∀b o,E' b=some o->K b o:=by
  intro b o O;simp only [E'] at O;split at O
  ·rename_i hb;have:=Classical.choose_spec hb;rw [Option.some.inj O] at this;exact this
  ·cases O
 have aW:∀b o,K b o->E' b=some o:=by
  intro b o O;have hb:∃o,K b o:=⟨o,O⟩;have bf:E' b=some (Classical.choose hb):=by simp only [E'];rw [dif_pos hb]
  have e2:=aN b _ (Classical.choose_spec hb);rw [aN b o O] at e2;rw [bf,← Option.some.inj e2]
 have aX:Le s₀.E E':=λb o O=>aW b o (.inl O);have bg:∀k,k<F.n->Le (S (B.N0+k)).E E':=λk Z b o O=>aW b o (.inr ⟨k,Z,O⟩);have aY:∀b o,K b o->¬Sh b:=by
  rintro b o (Y | ⟨k,Z,Y⟩) hb
  ·have:=(aq.sh 0 ag b hb).2;rw [upd_same,Y] at this;cases this
  ·have:=(h.B6.sh (B.N0+k) (by omega) b hb).2;rw [Y] at this;cases this
 have aP:E' F.fd=none:=by
  cases U:E' F.fd with
  | none=>rfl
  | some o=>exact absurd h.IL (aY _ _ (aO _ _ U))
 have aZ:∀b,E' b≠none->s₀.H b=none:=by
  intro b hb;obtain⟨o,O⟩:=HV hb;rcases aO b o O with Y | ⟨k,Z,Y⟩
  ·have:=(aq.fits 0 ag).d b (by rw [upd_same,Y];simp)
   rwa [upd_same] at this
  ·cases U:s₀.H b with
   | none=>rfl
   | some o'=>
    have:=(aq.hh 0 (B.N0+k) ag (by omega) (by omega) b (by rw [upd_same,U];simp)).2;rw [upd_ne _ _ (by omega),Y] at this;cases this
 have bh:∀k,k<F.n->F.msg k (f k) E':=λk Z=>by
  obtain⟨d,hd⟩:=aF (B.N0+k) (by omega) (by omega);exact a5 _ _ _ _ (bg k Z) (h.Il k (by omega) (by rw [hd];trivial))
 have bi:=a9 E' f aX aP aZ bh;have a0:((gs.map (woken P g g' w)).setIfInBounds 0 g').size=gs.size:=by simp
 have bj:BT (t++u) w gs.size (lone ⟨E',F.Ju s₀.H f,false⟩) (λb=>Sh b/\b≠F.fd):=by
  refine aM.final ag (λb o O=>?_) (λb o O=>?_) (λb hb=>?_) aP
  ·have Z:=aO b o O;refine⟨aN b o Z,aY b o Z,λx a U au hw=>?_⟩;rcases Z with Y | ⟨k,Z,Y⟩
   ·exact aM.kE 0 ag b (by rw [upd_same,Y];simp) x a U au hw
   ·obtain⟨ρ,_,_,bl,aw⟩:=aI k Z;exact aU (bl b (by rw [Y];simp) x a (hold U) au hw) aw
  ·simp only [Fam.Ju] at O;split at O
   ·rename_i e;subst e;cases O;refine⟨h.Ge,.inr rfl,λx a U au=>?_⟩;rcases h.EC.Ge x a (hold U) au with z | ⟨k,Z,ac,ap,_⟩
    ·exact(z 0 ag (.inl rfl)).app u
    ·exact aV (by omega) ac ap
   ·refine⟨(aq.fits 0 ag).h b o (by rw [upd_same];exact O),.inl λhb=>?_,λx a U au=>aM.kH 0 ag b (by rw [upd_same,O];simp) x a U au⟩;have:=(aq.sh 0 ag b hb).1;rw [upd_same,O] at this;cases this
  ·simp only [Fam.Ju];rw [if_neg (λe=>by subst e;exact hb aP)];exact aZ b hb
 have bm:∀i g,i≠0->gs[i]? =some g->∃q d,φ i= .gone d/\QuitsD P q d g:=by
  intro i g hi ac;obtain⟨d,hd⟩:=aF i hi (Array.getElem?_eq_some_iff.1 ac).1;have am:=h.Kw i g ac;rw [hd] at am;generalize U:Nx.gone d=x at am;generalize loc x (S i)=s at am;generalize r i=ρ at am;generalize bt i=bq at am;cases am with
  | gone _ aB=>cases U;exact⟨_,_,hd,aB⟩
  | _=>cases U
 have aB:∀i,∃q,∀g,i≠0->gs[i]? =some g->QuitsD P q (Deaf t i) g:=by
  intro i;by_cases hi:i≠0/\i<gs.size
  ·obtain⟨q,d,Y,al⟩:=bm i _ hi.1 (Array.getElem?_eq_getElem hi.2);refine⟨q,λg _ ac=>?_⟩;rw [Array.getElem?_eq_getElem hi.2] at ac;obtain rfl:=Option.some.inj ac;rw [h.EC.deaf i hi.2,Y];exact al
  ·exact⟨0,λg Y al=>absurd ⟨Y,(Array.getElem?_eq_some_iff.1 al).1⟩ hi⟩
 have a1:∀i,i≠0->Deaf (t++u) i=Deaf t i:=λi hi=>Deaf_other t (Ne.symm hi) u λop O=>(an op O).2.1;refine⟨_,_,_,_,aS,.inr ⟨λi=>Classical.choose (aB i),λb=>Sh b/\b≠F.fd,g',⟨E',F.Ju s₀.H f,false⟩,⟨by simp [ag],⟨λi x aG U=>?_,λi ay=>?_⟩,by rw [a0];exact bj,λx aC ac av ap=>?_,?_⟩,bi,?_,h.tape,h.os,h.output⟩⟩
 ·have av:i≠0:=by omega
  rw [Array.getElem?_setIfInBounds_ne (Ne.symm av),Array.getElem?_map] at U;obtain⟨o',aK,rfl⟩:=Option.map_eq_some_iff.1 U;have a2:=Classical.choose_spec (aB i) o' av aK;rw [woken_quitsD a2,a1 i av];exact a2
 ·rw [a0] at ay;rw [a1 i (by omega)];exact h.EC.above i ay
 ·have:=OO h.EC.over (u:=u) (N0:=B.N0) (N:=gs.size) (λop O=> .inl (an op O).2.1) x aC ac av ap;rcases this with z | ⟨z1,br⟩
  ·exact z
  ·have aD:x<t.size:=by
    rcases Nat.lt_or_ge x t.size with z | z
    ·exact z
    ·obtain⟨op,O,a3⟩:=Option.map_eq_some_iff.1 ac;rcases getElem?_append_cases O with⟨ar,_⟩ | ⟨_,aL⟩
     ·exact ar
     ·rw [(an op aL).2.1] at a3;exact absurd a3.symm av
   obtain⟨bu,z,bv,bw,bx⟩:=aV (k:=aC - B.N0) (by omega) (by rw [← g?_old (u:=u) aD,ac];congr 1;omega) ((counts_old aD).1 ap);refine⟨t.size,bb,?_⟩;obtain⟨ρ,Y,al,_,aw⟩:=aI (aC - B.N0) (by omega);have a4:t.g? x=some (B.N0+(aC - B.N0)):=by rw [← g?_old (u:=u) aD,ac];congr 1;omega
   have hle:x<=ρ:=Nat.le_of_not_lt λar=>al.after x ar a4 ((counts_old aD).1 ap);have hb:Before t x ρ:=by
    rcases Nat.lt_or_ge x ρ with U | U
    ·exact .inr (.single (.inl ⟨U,_,a4,al.g⟩))
    ·exact .inl (by omega)
   exact(hb.app u).hb aw
 ·have:=Deaf_own t 0 g.frame.fn g.frame.place #[Fam.Cx (.acquire F.sA)];rw [hu] at this;rw [this,aT];rfl
 ·exact(h.le.trans λb o O=>aQ.ext b o O).trans aX
end
end Pal
namespace Pal
open Go Go.Conc
open Go.ConcN (upd upd_same upd_ne sumTo sumTo_upd sumTo_upd_out sumTo_congr le_sumTo sumTo_le fork_knows RelBy)
theorem LN.busy{m:M4}{h rn rs v t s d x:Nat}(Z:LN m 0 h rn rs v t s d x)(am:1<=s):1<=h+rn+rs+v+t+d+x:=by
 obtain⟨O,ac,ag⟩:=Z;cases hm:m.s with
 | true=>have:=(ag hm).2.2.2.1;rw [← O] at this;omega
 | false=>
  obtain⟨a1,an,K,ao,al⟩:=ac hm;cases Y:m.l with
  | true=>rw [Y] at O;simp at O;omega
  | false=>
   cases U:m.k with
   | true=>rw [U] at K;simp at K;omega
   | false=>
    rw [U] at K;simp at K;have:=al Y U (by omega);omega
section
variable {P:Program}{F:Fam}{B:Base}{gs gs':Array Goroutine}{w w':World}{sl:Option (Nat×Nat)}{t:Trace}{φ:Nat->Nx}{r:Nat->Rk}{bt:Nat->Bool}{S:Nat->St}{Sh:Nat->Prop}{j:Nat}{c:Bool}{v wt' sm v₁ wt₁ sm₁:Nat}{m m₁:M4}{q q₁:Nat}{f f₁:Nat->Value}
theorem Vi{N:Nat}{f:Nat->Nat}(h:1<=sumTo N f):∃i,i<N/\1<=f i:=by
 induction N with
 | zero=>simp [sumTo] at h
 | succ N K=>
  simp only [sumTo] at h;by_cases e:1<=f N
  ·exact⟨N,by omega,e⟩
  ·obtain⟨i,hi,O⟩:=K (by omega);exact⟨i,by omega,O⟩
theorem Inv.runs(h:Inv P F B gs w t φ r bt S Sh j c v wt' sm m q f):∃(i:Nat) (g:Goroutine),gs[i]? =some g/\g.status= .running:=by
 have aO:=h.Cw.pos;have aP:=h.size;have ao:0<gs.size:=by omega
 have ag:∀i (hi:i<gs.size) p,φ i= .ph p->bt i=true->∃(i:Nat) (g:Goroutine),gs[i]? =some g/\g.status= .running:=by
  intro i hi p U hb;refine⟨i,_,Array.getElem?_eq_getElem hi,?_⟩;have K:=h.Kw i _ (Array.getElem?_eq_getElem hi);rw [U,hb] at K;generalize loc (Nx.ph p) (S i)=s at K;generalize aC:Nx.ph p=x at K;generalize aD:true=b at K;generalize gs[i]=o at K ⊢;generalize r i=ρ at K;cases K with
  | walk _ _ ap=>exact ap.running
  | blk _ _ _=>cases aD
  | gone _ _=>cases aC
 obtain⟨p0,ac,aE,hh⟩:=h.main;cases aq:bt 0 with
 | true=>exact ag 0 ao p0 ac aq
 | false=>
  obtain⟨U,aQ⟩:φ 0= .ph .Ft/\sm=0:=by
   rcases h.blk 0 ao aq with⟨_,a,b⟩ | ⟨⟨k,sv,a⟩,_⟩
   ·exact⟨a,b⟩
   ·rw [ac] at a;cases a;cases aE
  rw [U] at ac;cases ac;obtain⟨rfl⟩:c=true:=by
   rcases hh with⟨_,hm⟩ | ⟨e,_⟩
   ·exact hm.elim
   ·exact e
  have ap:j=F.n:=h.Cw.cj rfl;have ar:=h.Cw.mode;rw [if_pos rfl,show B.N0+F.n=gs.size by omega,Jx,U] at ar;obtain⟨aF,_,_⟩:=ar;have al:=h.Cw.cnt;have au:Cq true gs.size φ 0= .ph (.FB [] []):=by simp [Cq];omega
  rw [au] at al;simp only [pend,Nat.add_zero] at al;have hex:∃i,i<gs.size+1/\1<=cU (Cq true gs.size φ i)+cL (Cq true gs.size φ i)+cS (Cq true gs.size φ i):=by
   apply Classical.byContradiction;intro aG;have am:∀i,i<gs.size+1->cU (Cq true gs.size φ i)=0/\cL (Cq true gs.size φ i)=0/\cS (Cq true gs.size φ i)=0:=λi hi=>by
    have:¬1<=cU (Cq true gs.size φ i)+cL (Cq true gs.size φ i)+cS (Cq true gs.size φ i):=λq=>aG ⟨i,hi,q⟩;omega
   have zero:∀f:Nat->Nat,(∀i,i<gs.size+1->f i=0)->sumTo (gs.size+1) f=0:=λf aH=>by
    have:=sumTo_le (f:=f) (c:=0) (j:=gs.size+1) (λi hi=>by rw [aH i hi];exact Nat.le_refl _);omega
   have z1:=zero (λi=>cU (Cq true gs.size φ i)) λi hi=>(am i hi).1;have aR:=zero (λi=>cL (Cq true gs.size φ i)) λi hi=>(am i hi).2.1;have aS:=zero (λi=>cS (Cq true gs.size φ i)) λi hi=>(am i hi).2.2;simp only [Bool.toNat_true] at aF al;omega
  obtain⟨i,hi,O⟩:=hex;have av:i≠0:=by rintro rfl;rw [au] at O;simp [cU,cL,cS] at O
  have aI:i≠gs.size:=by rintro rfl;rw [Jx,U] at O;simp [cU,cL,cS] at O
  rw [IC av aI] at O;have an:i<gs.size:=by omega
  cases aw:φ i with
  | gone d=>rw [aw] at O;simp [cU,cL,cS] at O
  | ph pi=>
   cases ay:bt i with
   | true=>exact ag i an pi aw ay
   | false=>
    obtain⟨⟨k,sv,aJ⟩,aK⟩:(∃k sv,φ i= .ph (.lk k (.Co sv)))/\q=0:=by
     rcases h.blk i an ay with⟨e,_⟩ | e
     ·exact absurd e av
     ·exact e
    subst aK;have aL:1<=Sg pQ gs.size φ:=by
     have:=le_sumTo (f:=λa=>C4 pQ (φ a)) an;have e:C4 pQ (φ i)=1:=by rw [aJ];rfl
     simp only [e] at this;exact this
    have hb:=h.lock.ln.busy aL;have aM:1<=Sg (λp=>(((((pH p+pN p)+pZ p)+pV p)+pT p)+pD p)+pX p) gs.size φ:=by
     rw [Jt,Jt,Jt,Jt,Jt,Jt];exact hb
    obtain⟨a,az,Y⟩:=Vi aM;cases Z:φ a with
    | gone d=>rw [Z] at Y;simp [C4] at Y
    | ph aN=>
     rw [Z] at Y;cases aN <;> (try (simp [C4] at Y;done))
     rename_i k' l;cases aA:bt a with
     | true=>exact ag a az _ Z aA
     | false=>
      rcases h.blk a az aA with⟨e,aB,_⟩ | ⟨⟨aT,aU,e⟩,_⟩
      ·subst e;rw [Z] at aB;cases aB
      ·rw [Z] at e;cases e;simp [C4,pH,pN,pZ,pV,pT,pD,pX] at Y
theorem Inv.step(h:Inv P F B gs w t φ r bt S Sh j c v wt' sm m q f)(am:∀k v E E',Le E E'->F.msg k v E->F.msg k v E'):
  ∃gs' w' ap u,stepT P (crowd gs w sl)=(.next (crowd gs' w' ap),u)/\
  ((∃φ' r' aB S' aJ an aK v' aL sm' m' q' aM,Inv P F B gs' w' (t++u) φ' r' aB S' aJ an aK v' aL sm' m' q' aM/\Mu.lt (mu F gs'.size φ' m' q' r' aB) (mu F gs.size φ m q r bt))∨P7 P F B gs' w' (t++u)):=by
 have a1:=h.size;have aN:∀x∈gs,awake x:=by
  intro x K;obtain⟨i,hi,rfl⟩:=Array.mem_iff_getElem.1 K;exact(h.Kw i _ (Array.getElem?_eq_getElem hi)).awake
 obtain⟨i,g,d,ap,hi,aC,aO⟩:=crowd_pick (P:=P) (w:=w) (sl:=sl) aN h.runs
 suffices Ib P F B gs (w.at d) ap t i (mu F gs.size φ m q r bt) by
  obtain⟨gs',w',aP,u,aq,ar⟩:=this;exact⟨gs',w',aP,u,aO.trans aq,ar⟩
 have O:=h.at_ d;have aD:i<gs.size:=(Array.getElem?_eq_some_iff.1 hi).1;have ac:=h.Kw i g hi;generalize K:φ i=x at ac;generalize aE:r i=ρ at ac;generalize hb:bt i=b at ac;generalize aF:loc x (S i)=s at ac;cases ac with
 | blk _ _ _=>cases aC
 | gone hm aG=>exact O.slip hi aC K aE hm aG
 | @walk p _ _ _ hm aG au=>
  have aQ:JQ (Stop P F p) g s∨∃f,ρ= .node f/\(∀w,Fits s w->∃g' s' w' es,stepG P (i==0) g w= .go g' w' es/\Jr P (i==0) (JQ (Stop P F p)) (f w) g' s'/\Fits s' w'/\Fr s w s' w'/\(∀e∈es,Ev s w w' e)/\(s= .quiet->s'= .quiet/\w'=w/\es= #[])):=by
   cases ρ with
   | leaf=>exact .inl au
   | node f=>
    rcases au with q | ⟨_,q⟩
    ·exact .inl q
    ·exact .inr ⟨f,rfl,q⟩
  rcases aQ with⟨s₀,aH,U⟩ | ⟨f0,rfl,hgo⟩
  ·subst aF;have Y:Fam.CC p=false->Cb (S i) s₀:=λe=>by simpa [loc,Hx,e] using aH
   by_cases c1:∃k l,p= .lk k l
   ·obtain⟨k,l,rfl⟩:=c1;by_cases c2:l= .Fu
    ·subst c2;exact O.store hi K hm (Y rfl) U
    by_cases c3:(∃sv,l= .Co sv)/\q=0
    ·obtain⟨⟨sv,rfl⟩,c3⟩:=c3;exact O.block hi K hb hm (Y rfl) U (.inr ⟨⟨k,sv,rfl⟩,c3⟩)
    exact O.BV am hi K c2 hm (Y rfl) U λsv e av=>c3 ⟨⟨sv,e⟩,av⟩
   by_cases c2:∃an,p= .FF an
   ·obtain⟨an,rfl⟩:=c2;have ag:i=0:=by simpa [Fam.Cu] using hm
    subst ag;exact O.spawn hi K (Y rfl) U
   by_cases c3:p= .Gc
   ·subst c3;have ag:i=0:=by simpa [Fam.Cu] using hm
    subst ag;exact O.over am hi K (Y rfl) U _
   by_cases c4:p= .Ft/\sm=0
   ·obtain⟨rfl,c4⟩:=c4;exact O.block hi K hb hm (Y rfl) U (.inl ⟨rfl,c4⟩)
   have aR:∃aw,aw<gs.size+c.toNat/\Cq c gs.size φ aw= .ph p:=by
    by_cases e:i=0
    ·subst e;cases c with
     | false=>exact⟨0,by omega,by rw [I6];exact K⟩
     | true=>exact⟨gs.size,by simp,by rw [Jx];exact K⟩
    ·exact⟨i,by omega,by rw [IC e (by omega)];exact K⟩
   have aS:p= .Ft->sm=1:=by
    rintro rfl;have ag:i=0:=by simpa [Fam.Cu] using hm
    subst ag;obtain⟨p0,al,_,hh⟩:=h.main;rw [K] at al;cases al;obtain rfl:c=true:=by
     rcases hh with⟨_,hm⟩ | ⟨e,_⟩
     ·exact hm.elim
     ·exact e
    have au:=h.Cw.cj rfl;have aI:=h.Cw.mode;rw [if_pos rfl,show B.N0+F.n=gs.size by omega,Jx,K] at aI;obtain⟨a2,_⟩:=aI;have:sm≠0:=λq=>c4 ⟨rfl,q⟩;omega
   obtain⟨aw,aT,aU⟩:=aR;have ao:(∀k,p≠ .G9 k)/\p≠ .GL/\(∀ay vs,p≠ .FB ay vs)/\p≠ .Hv:=by
    by_cases e:i=0
    ·subst e;have az:=h.mn;rw [K] at az;obtain⟨p0,al,_,hh⟩:=h.main;rw [K] at al;cases al;refine⟨λk e=>?_,λe=>?_,λay vs e=>?_,λe=>?_⟩
     ·subst e;rcases hh with⟨_,Z⟩ | ⟨_,Z⟩ <;> exact Z.elim
     ·subst e;exact az.1 rfl
     ·subst e;rcases hh with⟨e,Z⟩ | ⟨_,Z⟩
      ·have:=Z.2;rw [e] at this;cases this
      ·exact Z.elim
     ·subst e;exact az.2 rfl
    ·rcases h.Ew aD with av | ⟨_,d,hd,_⟩ | ⟨k',a3,a4,_,hw⟩
     ·exact absurd av e
     ·rw [K] at hd;cases hd
     ·rw [K] at hw;refine⟨λk e=>?_,λe=>?_,λay vs e=>?_,λe=>?_⟩ <;> subst e
      ·exact absurd hw.2 Bool.false_ne_true
      all_goals exact hw.elim
   obtain⟨v',w',sm',es,a5,aV⟩:=h.Cw.enabled aT aU ao.1 (λk e=>c2 ⟨k,e⟩) ao.2.1 ao.2.2.1 ao.2.2.2 aS c3 λk l e=>c1 ⟨k,l,e⟩;exact O.act am hi K hm aH U aV
  ·subst aF;have aW:Fits (loc (.ph p) (S i)) (w.at d):=by
    have:=O.B6.fits i aD;unfold loc;split
    ·exact⟨λb o aA=>(by cases aA),λb o aA=>(by cases aA),λb hb=>rfl⟩
    ·exact this
   obtain⟨g',s',w',es,aq,ar,aX,aY,aZ,a0⟩:=hgo (w.at d) aW;exact O.own am hi K hm aq ar aX aY aZ a0 (by rw [aE];exact⟨f0,_,rfl,rfl⟩)
theorem Inv.run(Z:∀k v E E',Le E E'->F.msg k v E->F.msg k v E'):∀(K:Mu) (gs:Array Goroutine) (w:World) (sl:Option (Nat×Nat)) (t:Trace) (φ:Nat->Nx) (r:Nat->Rk) (bt:Nat->Bool) (S:Nat->St) (Sh:Nat->Prop) (j:Nat) (c:Bool) (v wt' sm:Nat) (m:M4) (q:Nat) (f:Nat->Value),
  mu F gs.size φ m q r bt=K->Inv P F B gs w t φ r bt S Sh j c v wt' sm m q f->∃n gs' w' O U,runNT P n (crowd gs w sl) t=(.next (crowd gs' w' O),U)/\P7 P F B gs' w' U:=by
 intro K
 induction K using Mu.wf.induction with
 | _ K ac=>
  intro gs w sl t φ r bt S Sh j c v wt' sm m q f ag h;obtain⟨gs',w',O,u,Y,hh⟩:=h.step (sl:=sl) Z;rcases hh with⟨φ',r',al,S',am,an,ao,v',ap,sm',m',q',aq,ar,au⟩ | av
  ·obtain⟨n,aw,ay,az,aA,aB,aC⟩:=ac _ (ag▸au) gs' w' O (t++u) φ' r' al S' am an ao v' ap sm' m' q' aq rfl ar;exact⟨n+1,aw,ay,az,aA,MB Y aB,aC⟩
  ·exact⟨1,gs',w',O,t++u,MB Y rfl,av⟩
end
def Jq(H:LH)(a b c:Nat):LH:=λx=>if x=c then none else if x=b then none else if x=a then none else H x
theorem Xg{P:Program}(F:Fam){Q:GP}{g:Goroutine}{s:St}{f₀:Nat->Value}(aq:1<=F.n)(aB:F.n<134217728)(aC:∀k v E E',Le E E'->F.msg k v E->F.msg k v E')
  (ar:F.mu≠F.wg) (au:F.fd≠F.wg) (av:F.fd≠F.mu) (ac:s.H F.wg=some (F.HL 0 0)) (ag:s.H F.mu=some (F.HM 0 0)) (am:s.H F.fd=some (F.Io f₀))
  (aD:Way P true (Stop P F (.F9 0)) g ⟨s.E,Jq s.H F.wg F.mu F.fd,false⟩) (aE:∀g s,F.fin g s->(GC P).ok Q g s):(GC P).ok Q g s:=by
 intro gs w sl t q Sh hC;have Y:0<gs.size:=(Array.getElem?_eq_some_iff.1 hC.main).1;let s1:St:={s with H:=λb=>if b=F.wg then none else s.H b}
 let s2:St:={s with H:=λb=>if b=F.mu then none else s1.H b}
 have aw:lone s 0=s:=rfl;have c1:BT t w gs.size (upd (lone s) 0 s1) (λb=>Sh b∨b=F.wg):=by
  have:=hC.B6.share (i:=0) Y (b₀:=F.wg) (o₀:=F.HL 0 0) (by rw [aw];exact ac);exact this
 have c2:BT t w gs.size (upd (upd (lone s) 0 s1) 0 s2) (λb=>(Sh b∨b=F.wg)∨b=F.mu):=by
  have:=c1.share (i:=0) Y (b₀:=F.mu) (o₀:=F.HM 0 0) (by rw [upd_same];simp [s1,ar,ag]);refine this.congr λi hi=>?_;by_cases e:i=0
  ·subst e;simp only [upd_same];exact⟨rfl,rfl⟩
  ·have h:∀(f:Nat->St) (x:St),upd f 0 x i=f i:=λf x=>upd_ne f x e;constructor <;> simp only [h]
 have c3:BT t w gs.size (upd (upd (upd (lone s) 0 s1) 0 s2) 0 ⟨s.E,Jq s.H F.wg F.mu F.fd,false⟩) (λb=>((Sh b∨b=F.wg)∨b=F.mu)∨b=F.fd):=by
  have:=c2.share (i:=0) Y (b₀:=F.fd) (o₀:=F.Io f₀) (by rw [upd_same];simp [s2,s1,au,av,am]);refine this.congr λi hi=>?_;by_cases e:i=0
  ·subst e;simp only [upd_same];exact⟨rfl,rfl⟩
  ·have h:∀(f:Nat->St) (x:St),upd f 0 x i=f i:=λf x=>upd_ne f x e;constructor <;> simp only [h]
 have Z:∀b,s.H b≠none->∀x a,touchAt t x=some a->CF a.loc=some b->Knows t 0 x:=λb hb=>hC.B6.kH 0 Y b (by rw [aw];exact hb);have an:=hC.B6.fits 0 Y;obtain⟨ρ,aF⟩:=aD;let φ:Nat->Nx:=λi=>if i=0 then .ph (.F9 0) else .gone (Deaf t i)
 have z:∀f:Nx->Nat,(∀d,f (.gone d)=0)->f (.ph (.F9 0))=0->(sumTo gs.size λi=>f (φ i))=0:=by
  intro f ay az;have:=sumTo_le (f:=λi=>f (φ i)) (c:=0) (j:=gs.size) λi _=>by
   show f (φ i)<=0;by_cases e:i=0
   ·simp [φ,e,az]
   ·simp [φ,e,ay]
  omega
 have O:∀f:LP->Nat,Sg f gs.size φ=0:=λf=>z (C4 f) (λ_=>rfl) rfl;have aG:∀i,(upd (upd (upd (lone s) 0 s1) 0 s2) 0 ⟨s.E,Jq s.H F.wg F.mu F.fd,false⟩) i=if i=0 then⟨s.E,Jq s.H F.wg F.mu F.fd,false⟩ else .quiet:=by
  intro i;by_cases e:i=0
  ·subst e;rw [upd_same];rfl
  ·rw [upd_ne _ _ e,upd_ne _ _ e,upd_ne _ _ e];simp [lone,e]
 have aH:F.HL (Fam.word 0 0) (0:Nat)=F.HL 0 0:=by simp [Fam.word]
 have aI:F.HM M4.zero.num (0:Nat)=F.HM 0 0:=by simp [M4.num,M4.zero]
 have aA:∀i,i<gs.size->(i=0∨gs.size<=i)->i=0:=λi hi al=>by omega
 have aJ:Inv P F ⟨gs.size,t.size,s.E,w⟩ gs w t φ (λi=>if i=0 then ρ else chain (q i)) (λ_=>true) (upd (upd (upd (lone s) 0 s1) 0 s2) 0 ⟨s.E,Jq s.H F.wg F.mu F.fd,false⟩) (λb=>((Sh b∨b=F.wg)∨b=F.mu)∨b=F.fd) 0 false 0 0 0 M4.zero 0 f₀:=by
  refine⟨?_,⟨?_,λi hi=>?_⟩,⟨λi hi=>?_,λi hi=>hC.lv.above i hi,λx a b K hb ao U i hi al=>?_,λx a b K hb ao U=>?_,λx a K hb=> .inl λi hi al=>?_,λx g aK aL aM=> .inl (hC.over x g aK aL aM),λx K e=>?_,Nat.le_refl _,λk U=>by omega⟩,λi g' ap=>?_,c3,.inl (.inl (.inr rfl)),.inl (.inr rfl),.inr rfl,ar,au,av,aB,by simp [φ],?_,?_,an.h _ _ am,λi hi hb=>(by cases hb),λk U=>(by omega),?_,rfl,.refl _,rfl⟩
  ·rw [I6];refine⟨Y,aq,by omega,by simp,Nat.zero_le _,by simp,⟨.F9 0,rfl,rfl,aq,rfl⟩,λi ay az=>?_,λk U=>by omega,by simp,?_,by simp [φ,pend],?_,λk U=>by omega,.nil,λk U=>by cases U⟩
   ·have:i≠0:=by omega
    simp [φ,this,Nw]
   ·have:=z cU (λ_=>rfl) rfl;simp only [Bool.toNat_false,Nat.add_zero];rw [this];simp [φ,pend]
   ·simp only [Bool.false_eq_true,if_false,Dm];exact⟨z cL (λ_=>rfl) rfl,z cS (λ_=>rfl) rfl,trivial,trivial,trivial⟩
  ·rw [O,O,O,O,O,O,O,O];simp [LN,M4.zero]
  ·by_cases e:i=0
   ·simp [φ,e,NP]
   ·simp [φ,e,NP]
  ·by_cases e:i=0
   ·subst e;simp [φ,FE];exact hC.hears
   ·simp [φ,e,FE]
  ·obtain rfl:=aA i hi al;rcases ao with rfl | rfl
   ·exact Z _ (by rw [ac];simp) x a K hb
   ·exact Z _ (by rw [ag];simp) x a K hb
  ·rcases ao with rfl | rfl
   ·exact Z _ (by rw [ac];simp) x a K hb
   ·exact Z _ (by rw [ag];simp) x a K hb
  ·obtain rfl:=aA i hi al;exact Z _ (by rw [am];simp) x a K hb
  ·have:=lt_of_act? e;have a7:t.size<=x:=K;omega
  ·rw [aG];by_cases e:i=0
   ·subst e;rw [hC.main] at ap;obtain rfl:=Option.some.inj ap;simp only [if_true,φ];exact .walk rfl (λh=>by cases h) aF
   ·have hm:(i==0)=false:=by rw [beq_eq_false_iff_ne];exact e
    simp only [e,if_false,φ];exact .gone hm (hC.lv.old i g' (by omega) ap)
  ·show w.heap[F.wg]? =_;rw [aH];exact an.h _ _ ac
  ·show w.heap[F.mu]? =_;rw [aI];exact an.h _ _ ag
  ·rw [upd_same];exact Le.refl _
 obtain⟨n,gs',w',aN,aO,aP,q',aQ,g',s',aR,aS,hle,aT,aU,aV⟩:=Inv.run aC _ _ _ sl _ _ _ _ _ _ _ _ _ _ _ _ _ _ rfl aJ;obtain⟨n2,aW,w2,aX,t2,aY,aZ,g2,a0,k1,a1,a2,a3,a4,a5,a6⟩:=aE g' s' aS gs' w' aN aO q' aQ aR;refine⟨n+n2,aW,w2,aX,t2,aY,aZ,g2,a0,?_,a1,a2,λb o h=>a3 b o (hle b o h),a4.trans aT,aU.trans a5,a6.trans aV⟩;rw [runNT_add,aP];exact k1
end Pal
namespace Pal
open Go Go.Conc
section
variable {P:Program}{F:Fam}{J:Judge P}{Q:GP}{n:Nat}{L L':Env}{ds:Ld_}{k:Li_}{cs:Lf_}{s s':St}{b:Frame}{main:Bool}
theorem BJ(hb:b.roundOf=none)(T:Av_)(todo:Li_):fr b T ds todo=b.at ⟨T,ds⟩ todo:=by simp [fr,Frame.at,hb]
theorem KL(hb:b.roundOf=none)(T:Av_)(todo:Li_):Ej b T ds todo={b.at ⟨T,ds⟩ todo with mode:= .returning}:=by simp [Ej,Frame.at,hb]
theorem Ez(T:Av_)(ds:Ld_)(x:Operand):(⟨T,ds⟩:Act).eval x=Bv T x:=by cases x <;> rfl
theorem DW(T:Av_)(ds:Ld_)(d:Option Tmp)(v:Value):(⟨T,ds⟩:Act).put d v=⟨Cz T d v,ds⟩:=by cases d <;> rfl
def JO(J:Judge P)(Q:GP)(b:Frame)(n:Nat)(L:Env)(ds:Ld_)(cs:Lf_)(s:St):Prop:=
 ∀T,Has n L T->∀todo,J.ok Q (G (Ej b T ds todo) cs) s
theorem JL.out(K:b.roundOf=none)(h:JO J Q b n L ds cs s):JL J Q b n L ds [] cs s:=λT O=>
 Judge.C6 rfl (λw=>by simp [G,stepG,stepG.exec,fr,Ej,K]) (h T O [])
theorem IV(K:b.roundOf=none)(h:JO J Q b n L ds cs s):JL J Q b n L ds (.code .ret::k) cs s:=λT O=>
 Judge.C6 rfl (λw=>by simp [G,stepG,stepG.exec,fr,Ej,K]) (h T O (.code .ret::k))
theorem JO.leave{c:Frame}{v:Value}(O:b.kind= .normal)(K:Bs P b.fn L n s v)(h:J.ok Q (G (c.finish v) cs) s):JO J Q b n L [] (c::cs) s:=λT U todo=>by
 obtain⟨fn,Y,K⟩:=K
 exact Judge.leave O Y (K T U) h
theorem JO.leaveD{c:Frame}{fn:Func}(O:b.kind= .deferred)(U:P.funcs[b.fn]? =some fn)(K:fn.results= #[])(Y:c.mode= .returning∨c.mode= .panicking [goexitEntry])(h:J.ok Q (G c cs) s):JO J Q b n L [] (c::cs) s:=λT ac todo=>by
 refine Judge.C6 rfl (λw=>?_) h
 have Z:=results_none K T P w
 have e2:=λ(x:Array Event)=>events_results_none (P:=P) (w:=w) K T x
 rcases Y with e | e <;> simp [G,stepG,unwind,Ej,U,Z,e2,doReturn,O,GStep.after,seen_none,e,goexitEntry]
theorem JO.enter{f:FuncId}{fn:Func}{c:Code}{vs:Lv_}(O:b.roundOf=none)(Y:P.funcs[f]? =some fn)(Z:(fn.name== "runtime.NumGoroutine")=false)(hb:fn.body=some c)(am:vs.length<=fn.ntmps)
  (h:∀T,Has n L T->∀todo,JL J Q (baseD f) fn.ntmps (F6 0 vs) [] [.code c] (Ej b T ds todo::cs) s):JO J Q b n L (dcall f vs.toArray::ds) cs s:=λT ac todo=>by
 refine Judge.C6 rfl (λw=>?_) (h T ac todo (vs.toArray++Array.replicate (fn.ntmps - vs.length) undef) ⟨by simp;omega,λt v ag=>?_⟩)
 ·rw [KL O,stepG_unwind_enter (a:=⟨T,dcall f vs.toArray::ds⟩) rfl Y Z hb,KL O]
  rw [BJ (b:=baseD f) rfl];simp
 ·obtain⟨_,K⟩:=Jj ag;have al:t<vs.length:=by
   rcases Nat.lt_or_ge t vs.length with U | U
   ·exact U
   ·simp at K;have:=(List.getElem?_eq_some_iff.1 K).1;omega
  rw [Array.getD_eq_getD_getElem?,Array.getElem?_append_left (by simpa using al)];simp at K;simp [K]
theorem JL.defer{ops:Ao_}{i:Nat}{rest:List Nat}{d:Option Tmp}{f:FuncId}{args:Array Operand}{ats:Array TypeId}{ty:TypeId}{p:String}{af:Ae_}{g:On_}{vs:Lv_}
  (U:ops[i]? =some ⟨d,.defer ⟨.value (.func f),args,ats⟩,ty,p,af,g⟩) (Y:b.roundOf=none) (hw:AI L ops ⟨d,.defer ⟨.value (.func f),args,ats⟩,ty,p,af,g⟩=some true) (K:((b.kind != .early)&&A9 n d)=true)
  (Z:evs L args.toList=some vs) (h:JL J Q b n (Av L d undef) (dcall f vs.toArray::ds) (.inRegion ops rest::k) cs s):
  JL J Q b n L ds (.inRegion ops (i::rest)::k) cs s:=λT O=>by
 simp only [Bool.and_eq_true] at K
 have ac:args.map (Bv T)=vs.toArray:=by
  rw [← Gj O.F5 Z];apply Array.ext';simp
 refine Judge.oper U (B5 O hw) (by simpa using K.1) (.inl Y) ?_;have hd:execOp (Bv T) ⟨d,.defer ⟨.value (.func f),args,ats⟩,ty,p,af,g⟩= .pure (.defer (dcall f vs.toArray)):=by
  simp only [execOp,resolve,bind,Sem.bind,Deferred.ofValue,Bv,pure,dcall];rw [ac];simp
 rw [hd];exact h _ (O.put K.2 undef)
def KU:Ph->Bool
 | .G9 _ | .FF _ | .GL | .FB _ _ | .Hv | .Ft | .Gc | .lk _ _=>false
 | _=>true
theorem Iy{p:Ph}{g:Goroutine}(K:KU p=true)(Y:g.status= .running)(Z:g.offers=none)(O:if Fam.CC p=true then s= .quiet else s.q=false)(ac:p= .Fe->mayWake P g=true)
  (h:∀v wt sm v' wt' sm' es U,F.act p v wt sm=some ((v',wt',sm'),es,U)->∃g',(∀w,F.WG w v wt sm->stepG P (Fam.Cu p) g w= .go g' (F.put w v' wt' sm') es)/\g'.status= .running/\Mf P (Stop P F) (Fam.Cu p) U g' (Fam.Je p s)):Stop P F p g s:=
 GO.stop {
  run:=Y
  offers:=Z
  quiet:=λe=>by rw [if_pos e] at O;exact O
  live:=λe=>by rw [if_neg (by rw [e];simp)] at O;exact O
  act:=h
  IJ:=λe=>by rcases e with e | ⟨k,b,e⟩;exact ac e;subst e;cases K
  EW:=λe=>by subst e;cases K
  go:=λj e=>by subst e;cases K
  lk:=λk l e=>by subst e;cases K
  Co:=λk sv e=>by subst e;cases K
  store:=λk e=>by subst e;cases K
  fin:=λe=>by subst e;cases K}
theorem KH{w:World}{v wt sm:Nat}(h:F.WG w v wt sm):F.put w v wt sm=w:=by
 unfold Fam.put;have:w.heap.setIfInBounds F.wg (F.HL (Fam.word v wt) sm)=w.heap:=by
  apply Array.ext_getElem?;intro i;by_cases e:F.wg=i
  ·subst e;unfold Fam.WG at h;have O:F.wg<w.heap.size:=by
    rcases Nat.lt_or_ge F.wg w.heap.size with K | K
    ·exact K
    ·simp [Array.getElem?_eq_none K] at h
   rw [Array.getElem?_setIfInBounds_self_of_lt O,h]
  ·rw [Array.getElem?_setIfInBounds_ne e]
 rw [this]
theorem Iz{w:World}{v wt sm:Nat}(h:F.WG w v wt sm):w.cell? F.sA=some (.int .u64 (Fam.word v wt))/\w.cell? F.mA=some (.int .u32 sm)/\w.frozen? F.sA=false/\w.frozen? F.mA=false:=by
 unfold Fam.WG Fam.HL at h;refine⟨?_,?_,?_,?_⟩
 ·simp [World.cell?,Fam.sA,h]
 ·simp [World.cell?,Fam.mA,h]
 ·simp [World.frozen?,Fam.sA,h]
 ·simp [World.frozen?,Fam.mA,h]
theorem MD{w:World}{v wt sm v' wt':Nat}(h:F.WG w v wt sm):w.setCell F.sA (.int .u64 (Fam.word v' wt'))=F.put w v' wt' sm:=by
 unfold Fam.put World.setCell;congr 1;apply Array.ext_getElem?;intro i;unfold Fam.WG Fam.HL at h;rw [Array.getElem?_modify];have O:F.wg<w.heap.size:=by
  rcases Nat.lt_or_ge F.wg w.heap.size with K | K
  ·exact K
  ·simp [Array.getElem?_eq_none K] at h
 by_cases e:F.wg=i
 ·subst e;rw [Array.getElem?_setIfInBounds_self_of_lt O,h];simp [Fam.sA,Fam.HL]
 ·rw [Array.getElem?_setIfInBounds_ne e];simp [Fam.sA,e]
theorem QI{w:World}{v wt sm sm':Nat}(h:F.WG w v wt sm):w.setCell F.mA (.int .u32 sm')=F.put w v wt sm':=by
 unfold Fam.put World.setCell;congr 1;apply Array.ext_getElem?;intro i;unfold Fam.WG Fam.HL at h;rw [Array.getElem?_modify];have O:F.wg<w.heap.size:=by
  rcases Nat.lt_or_ge F.wg w.heap.size with K | K
  ·exact K
  ·simp [Array.getElem?_eq_none K] at h
 by_cases e:F.wg=i
 ·subst e;rw [Array.getElem?_setIfInBounds_self_of_lt O,h];simp [Fam.mA,Fam.HL]
 ·rw [Array.getElem?_setIfInBounds_ne e];simp [Fam.mA,e]
structure B2 (P:Program) (f:FuncId) (e:Av_->Sem Value):Prop where
 h:∃fn,P.funcs[f]? =some fn/\(fn.name== "runtime.NumGoroutine")=false/\fn.body.isNone=true/\Extern.findNext fn=none/\Extern.find fn=some e
section
variable {ops:Ao_}{i:Nat}{rest:List Nat}{d:Option Tmp}{f:FuncId}{args:Array Operand}{ats:Array TypeId}{ty:TypeId}{pp:String}{af:Ae_}{g:On_}{vs:Lv_}{p q:Ph}
theorem JD{T:Av_}(K:Has n L T)(O:evs L args.toList=some vs):args.map (⟨T,ds⟩:Act).eval=vs.toArray:=by
 have:(⟨T,ds⟩:Act).eval=Bv T:=funext λx=>Ez T ds x;rw [this,← Gj K.F5 O];apply Array.ext';simp
theorem LG{m:Mark}(Z:KU p=true)(ac:if Fam.CC p=true then s= .quiet else s.q=false)(ag:p≠ .Fe)(al:∀v wt sm,F.act p v wt sm=some ((v,wt,sm),#[Fam.Cx m],.ph q))(am:Fam.Je p s=s)
  (an:ops[i]? =some ⟨d,.call ⟨.value (.func f),args,ats⟩,ty,pp,af,g⟩) (O:b.roundOf=none) (hw:AI L ops ⟨d,.call ⟨.value (.func f),args,ats⟩,ty,pp,af,g⟩=some true) (K:((b.kind != .early)&&A9 n d)=true)
  (hm:∀x,m≠ .extern x) (he:B2 P f (λ_=>do mark m;pure Extern.Race.none_))
  (h:JL (AQ P (Fam.Cu p)) (Stop P F q) b n (Av L d (.tuple #[])) ds (.inRegion ops rest::k) cs s):
  JL (AQ P (Fam.Cu p)) (Stop P F p) b n L ds (.inRegion ops (i::rest)::k) cs s:=λT U=>by
 simp only [Bool.and_eq_true] at K
 obtain⟨fn,ao,ap,hb,aq,he⟩:=he.h
 refine(AQ P _).stop (Iy Z rfl rfl ac (λe=>absurd e ag) λv wt sm v' wt' sm' es au Y=>?_)
 rw [al] at Y;cases Y
 refine⟨_,λw ar=>?_,rfl,by rw [am];exact h _ (U.put K.2 _)⟩
 rw [BJ O,BJ O,stepG_mark0 (a:=⟨T,ds⟩) m hm an (B5 U hw) (by simpa using K.1) rfl ao ap hb aq he,KH ar,DW]
 rfl
theorem OB{mk:Addr->Mark}{ad:Addr}(Z:KU p=true)(ac:if Fam.CC p=true then s= .quiet else s.q=false)(ag:p≠ .Fe)(al:∀v wt sm,F.act p v wt sm=some ((v,wt,sm),#[Fam.Cx (mk ad)],.ph q))
  (am:ops[i]? =some ⟨d,.call ⟨.value (.func f),args,ats⟩,ty,pp,af,g⟩) (U:b.roundOf=none) (hw:AI L ops ⟨d,.call ⟨.value (.func f),args,ats⟩,ty,pp,af,g⟩=some true) (K:((b.kind != .early)&&A9 n d)=true)
  (hm:∀ad x,mk ad≠ .extern x) (he:B2 P f (Extern.Race.marked mk)) (an:evs L args.toList=some vs) (ao:vs[0]? =some (.pointer (some ad)))
  (h:JL (AQ P (Fam.Cu p)) (Stop P F q) b n (Av L d (.tuple #[])) ds (.inRegion ops rest::k) cs (Fam.Je p s)):
  JL (AQ P (Fam.Cu p)) (Stop P F p) b n L ds (.inRegion ops (i::rest)::k) cs s:=λT O=>by
 simp only [Bool.and_eq_true] at K
 obtain⟨fn,ap,aq,hb,ar,he⟩:=he.h
 refine(AQ P _).stop (Iy Z rfl rfl ac (λe=>absurd e ag) λv wt sm v' wt' sm' es av Y=>?_)
 rw [al] at Y;cases Y
 refine⟨_,λw au=>?_,rfl,h _ (O.put K.2 _)⟩
 rw [BJ U,BJ U,stepG_markAt (a:=⟨T,ds⟩) mk hm am (B5 O hw) (by simpa using K.1) rfl ap aq hb ar he (ad:=ad) (by rw [JD O an];simpa using ao),KH au,DW]
 rfl
end
end
end Pal
namespace Pal
open Go Go.Conc
section
variable {E H:LH}{S:List Seg}{j l:Nat}{o o':Obj}
theorem Kc(an:Ap E H S)(Y:S[j]? =some [(l,o)])(o':Obj):(Aj E H S).upd l o'=Aj E H (S.set j [(l,o')])/\Ap E H (S.set j [(l,o')]):=by
 obtain⟨K,Z⟩:=G4 an Y;have U:=Nd.iff.1 Z;have ac:E l=none:=(U.2 (l,o) (by simp)).1;have ao:H l=none:=(U.2 (l,o) (by simp)).2;have ag:Nd E H (S.set j []).flatten:=J3.Nd.left Z;have ap:∀q∈(S.set j []).flatten,q.1≠l:=λq O e=>by
  have:=U.1;rw [List.map_append,List.nodup_append] at this;exact this.2.2 q.1 (List.mem_map_of_mem O) l (by simp) e
 have al:Bb (S.set j []).flatten H l=none:=by
  have key:∀(B:List (Nat×Obj)),(∀q∈B,q.1≠l)->Bb B H l=none:=by
   intro B
   induction B with
   | nil=>intro _;exact ao
   | cons q B aq=>
    intro O;obtain⟨c,ar⟩:=q;have am:l≠c:=λe=>O (c,ar) (by simp) e.symm;have K:=aq λq' au=>O q' (List.mem_cons_of_mem _ au);simp only [Bb]
    first
    | rw [if_neg am];exact K
    | rw [if_neg (Ne.symm am)];exact K
  exact key _ ap
 have f1:=J9 (E:=E) (H:=H) (B:=(S.set j []).flatten) (r:=l) ac al o ag;have f2:=J9 (E:=E) (H:=H) (B:=(S.set j []).flatten) (r:=l) ac al o' ag;obtain⟨av,g2⟩:=I3 (seg:= [(l,o)]) Y f2.1;refine⟨?_,g2⟩;rw [K,← av,← f1.2,← f2.2];unfold St.upd;congr 1;funext x;by_cases aw:x=l <;> simp [aw]
end
section
variable {P:Program}{J:Judge P}{Q:Gs_}{b:Frame}{n:Nat}{L:Env}{ds:Ld_}{k:Li_}{cs:Lf_}{E H:LH}{S:List Seg}{j l:Nat}
theorem Judge.EW{α:Type}{g:Goroutine}{g':α->Goroutine}{s:St}(x:Sem α)(ac:s.q=false)(ag:g.status= .running)
  (al:∀w a w',x.run P w= .ok a w'->∃es,stepG P J.main g w= .go (g' a) w' es/\∀e∈es,e∈x.events P w #[])
  (h:lp P x s (λa s'=>J.ok Q (g' a) s') (λ_ _=>False)):J.ok Q g s:=by
 refine J.step ⟨ag,λw f=>?_,λe=>by subst e;cases ac⟩;obtain⟨s',O,U,Y,K⟩:=MQ _ h f;cases Z:x.run P w with
 | ok a w'=>
  rw [Z] at O U Y K;simp only [Km] at O U Y;obtain⟨es,he,hm⟩:=al w a w' Z;exact⟨g' a,s',w',es,he,K,O,U,λe am=>Y e (hm e am)⟩
 | halt a w'=>rw [Z] at K;exact K.elim
theorem MF{r:Loop}{s:St}{K:Loop->St->Prop}{X:Halt->St->Prop}(h:s.get l=some (.loop r))(k:K r s):lp P (Instr.getLoop l) s K X:=by
 unfold Instr.getLoop getObj;simp only [bind,Sem.bind,lp];exact⟨_,h,rfl,k⟩
theorem Uw{r:Loop}{T:Av_}(j:Nat)(K:Ap E H S)(O:S[j]? =some [(l,.loop r)])(U:(r.state== .busy)=false)(Y:r.pending=none)
  (h:Ap E H (S.set j [(l,.loop {r with state:= .exhausted})])->J.ok Q (G (fr b T ds k) cs) (Aj E H (S.set j [(l,.loop {r with state:= .exhausted})]))):
  J.ok Q (G (fr b T ds (.endRangeFunc l::k)) cs) (Aj E H S):=by
 obtain⟨Z,ac⟩:=Kc K O (.loop {r with state:= .exhausted});have ag:lp P (Instr.endLoop l) (Aj E H S) (λa s'=>a=none/\s'=Aj E H (S.set j [(l,.loop {r with state:= .exhausted})])) (λ_ _=>False):=by
  unfold Instr.endLoop;refine As _ _ (MF (DO (i:=0) K O rfl) ?_);rw [if_neg (by rw [U];simp)];have al:(Aj E H S).H l=some (.loop r):=by
   have:=DO (i:=0) K O rfl;have am:E l=none:=Nl K O;unfold St.get at this;rw [show(Aj E H S).E l=none from am] at this;exact this
  simp only [bind,Sem.bind,lp,setObj,pure];refine⟨⟨_,al,rfl⟩,rfl,Y,?_⟩;exact Z
 refine Judge.EW (g':=λan=>G (fr b T ds ((an.map Item.code).toList++k)) cs) (Instr.endLoop l) rfl rfl (λw a w' ao=>?_) (Ei _ ag (λa s' ⟨ap,aq⟩=>by subst ap aq;exact h ac) (λ_ _ h=>h));refine⟨seen P b.fn ((Instr.endLoop l).events P w #[])++ #[],?_,λe he=>?_⟩
 ·simp [G,stepG,stepG.exec,fr,ao,GStep.after]
 ·exact mem_seen (by simpa using he)
def TJ(l:Nat)(f:FuncId):Frame:={(default:Frame) with fn:=f,kind:= .normal,roundOf:=some l}
theorem FV.yield{r:Loop}{t:Tmp}{v:Value}{B:Seg}{R:Value->LH->Seg->Prop}{i:Nat}(K:B[i]? =some (l,.loop r))(O:r.params= #[t])
  (h:∀(Q:Gs_) (U:Frame) (cs:Lf_) (H:LH),Ap E H [B]->(∀w E' S' B',Le E E'->S'.flatten=B'->R w E' B'->Ap E' H S'->J.ok Q (G (U.finish w) cs) (Aj E' H S'))->
   J.ok Q (G (fr (TJ l r.fn) (r.tmps.setIfInBounds t v) [] [.code r.assign,.beginRound,.code r.body]) (U::cs)) (Aj E H [B])):
  FV J (.func (.yield l) #[] #[]) [v] E B R:=λH Y Q c cs Z=>by
 have ac:(mk E H B).get l=some (.loop r):=Ot Y K
 simp only [Deferred.ofValue,bind,Sem.bind,pure,invoke]
 unfold Instr.yield
 refine As _ _ (MF ac ?_)
 have ag:¬((#[]:Av_)++ [v].toArray).size≠r.params.size:=by rw [O];simp
 rw [if_neg ag];have e2:((r.params.zip ((#[]:Av_)++ [v].toArray)).foldl (λtmps (t,a)=>tmps.setIfInBounds t a) r.tmps)=r.tmps.setIfInBounds t v:=by rw [O];simp [Array.zip,Array.zipWith,Array.zipWithMAux]
 simp only [lp,pure];have al:mk E H B=Aj E H [B]:=by unfold Aj;simp
 rw [e2,al];exact h Q c cs H (by unfold Ap;simpa using Y) λw E' S' B' hle K am an=>by
  subst K;exact Z w _ ⟨E',S'.flatten,hle,am,an,rfl⟩
theorem JL.beginRound{r:Loop}(j:Nat)(U:b.roundOf=some l)(Y:b.kind= .normal)(K:Ap E H S)(O:S[j]? =some [(l,.loop r)])(Z:r.state= .ready)
  (h:Ap E H (S.set j [(l,.loop {r with state:= .busy})])->JL J Q b n L ds k cs (Aj E H (S.set j [(l,.loop {r with state:= .busy})]))):
  JL J Q b n L ds (.beginRound::k) cs (Aj E H S):=λT ac=>by
 obtain⟨ag,al⟩:=Kc K O (.loop {r with state:= .busy})
 have am:lp P (Instr.beginRound l) (Aj E H S) (λ_ s'=>s'=Aj E H (S.set j [(l,.loop {r with state:= .busy})])) (λ_ _=>False):=by
  unfold Instr.beginRound;refine As _ _ (MF (DO (i:=0) K O rfl) ?_);have an:(Aj E H S).H l=some (.loop r):=by
   have:=DO (i:=0) K O rfl;have ao:E l=none:=Nl K O;unfold St.get at this;rw [show(Aj E H S).E l=none from ao] at this;exact this
  simp only [bind,Sem.bind,lp,setObj,pure,Z];exact⟨⟨_,an,rfl⟩,rfl,ag⟩
 refine Judge.EW (g':=λ_=>G (fr b T ds k) cs) (Instr.beginRound l) rfl rfl (λw a w' ap=>?_) (Ei _ am (λa s' aq=>by subst aq;exact h al T ac) (λ_ _ h=>h));refine⟨seen P b.fn ((Instr.beginRound l).events P w #[])++ #[],?_,λe he=>?_⟩
 ·simp [G,stepG,stepG.exec,fr,stepG.apply,U,Y,ap,GStep.after,Frame.finish]
 ·exact mem_seen (by simpa using he)
theorem Jz{o:Obj}{seg:Seg}(K:Ap E H S)(O:S[j]? =some ((l,o)::seg)):(Aj E H S).H l=some o:=by
 have:=DO (i:=0) K O rfl;have U:E l=none:=Nl K O;unfold St.get at this;rw [show(Aj E H S).E l=none from U] at this;exact this
theorem JL.endRound{r:Loop}{c:Frame}(j:Nat)(U:b.roundOf=some l)(Y:b.kind= .normal)(K:Ap E H S)(O:S[j]? =some [(l,.loop r)])
  (h:Ap E H (S.set j [(l,.loop {r with state:= .ready,pending:=none})])->J.ok Q (G (c.finish (.bool true)) cs) (Aj E H (S.set j [(l,.loop {r with state:= .ready,pending:=none})]))):
  JL J Q b n L [] [] (c::cs) (Aj E H S):=λT ao=>by
 obtain⟨Z,ac⟩:=Kc K O (.loop {r with state:= .ready,pending:=none})
 have ag:lp P (Instr.endRound l none) (Aj E H S) (λa s'=>a= .bool true/\s'=Aj E H (S.set j [(l,.loop {r with state:= .ready,pending:=none})])) (λ_ _=>False):=by
  unfold Instr.endRound;refine As _ _ (MF (DO (i:=0) K O rfl) ?_);simp only [bind,Sem.bind,lp,setObj,pure];exact⟨⟨_,Jz K O,rfl⟩,rfl,rfl,Z⟩
 refine Judge.EW (g':=λv=>G (c.finish v) cs) (Instr.endRound l none) rfl rfl (λw a w' al=>?_) (Ei _ ag (λa s' ⟨am,an⟩=>by subst am an;exact h ac) (λ_ _ h=>h));refine⟨seen P b.fn ((Instr.endRound l none).events P w #[])++ #[],?_,λe he=>?_⟩
 ·simp [G,stepG,stepG.exec,fr,U,Y,al,GStep.after,doReturn]
 ·exact mem_seen (by simpa using he)
theorem JL.rangeFunc{x:Operand}{params:Array Tmp}{as O:Code}{f:FuncId}{caps:Lv_}(ao:b.roundOf=none)(ap:b.kind≠ .early)(ag:ev L x=some (.func (.func f) #[] caps.toArray))(hb:Dw P f=true)(aq:Ap E H S)
  (h:∀K l T,Has n L T->Ap E H (S++ [[(K,.deferred (some []))]]++ [[(l,.loop ⟨.ready,none,b.fn,T,params,as,O,K⟩)]])->
   J.ok Q (G (Frame.enter P f (.func (.yield l) #[] #[]::caps).toArray .normal) (fr b T (⟨.collected K,#[]⟩::ds) (.inRangeFunc l::k)::cs)) (Aj E H (S++ [[(K,.deferred (some []))]]++ [[(l,.loop ⟨.ready,none,b.fn,T,params,as,O,K⟩)]]))):
  JL J Q b n L ds (.code (.rangeFunc x params as O)::k) cs (Aj E H S):=λT al=>by
 have ar:lp P (Instr.enterLoop b.fn T params as O b.roundOf) (Aj E H S) (λq s'=>∃K,q.2= [⟨.collected K,#[]⟩]/\Ap E H (S++ [[(K,.deferred (some []))]]++ [[(q.1,.loop ⟨.ready,none,b.fn,T,params,as,O,K⟩)]])/\s'=Aj E H (S++ [[(K,.deferred (some []))]]++ [[(q.1,.loop ⟨.ready,none,b.fn,T,params,as,O,K⟩)]])) (λ_ _=>False):=by
  unfold Instr.enterLoop;rw [ao];simp only [newObj,bind,Sem.bind,lp,pure];refine⟨rfl,λK Y Z=>?_⟩;obtain⟨ac,au⟩:=J9 Y Z (.deferred (some [])) aq;obtain⟨p1,p2⟩:=EY ac;have av:(Aj E H S).upd K (.deferred (some []))=Aj E H (S++ [[(K,.deferred (some []))]]):=by rw [← p1,← au];rfl
  rw [av];refine⟨rfl,λl aw ay=>?_⟩;obtain⟨az,aA⟩:=J9 aw ay (.loop ⟨.ready,none,b.fn,T,params,as,O,K⟩) p2;obtain⟨p3,p4⟩:=EY az;exact⟨K,rfl,p4,by rw [← p3,← aA];rfl⟩
 refine Judge.EW (g':=λq=>G (Frame.enter P f (.func (.yield q.1) #[] #[]::caps).toArray .normal) (fr b T (q.2++ds) (.inRangeFunc q.1::k)::cs)) (Instr.enterLoop b.fn T params as O b.roundOf) rfl rfl (λw a w' aB=>?_) (Ei _ ar (λa s' ⟨K,Y,Z,ac⟩=>by subst ac;simp only [Y];exact h K a.1 T al Z) (λ_ _ h=>h));obtain⟨l,mk⟩:=a;have aC:Bv T x= .func (.func f) #[] caps.toArray:=al.ev ag;obtain⟨fn,U,aD,am⟩:∃fn,P.funcs[f]? =some fn/\(fn.name== "runtime.NumGoroutine")=false/\fn.body.isNone=false:=by
  unfold Dw at hb;cases U:P.funcs[f]? with
  | none=>rw [U] at hb;cases hb
  | some fn=>
   rw [U] at hb;simp only [Bool.and_eq_true,Bool.not_eq_true'] at hb;exact⟨fn,rfl,hb.1,by cases ag:fn.body <;> simp_all⟩
 refine⟨seen P b.fn ((Instr.enterLoop b.fn T params as O b.roundOf).events P w #[])++ #[],?_,λe he=>?_⟩
 ·have an:=RA (b:=b) (ds:=mk++ds) T (.inRangeFunc l::k);simp only [fr] at an;have aE:¬fn.name= "runtime.NumGoroutine" :=by simpa using aD
  have aF:¬fn.body=none:=by intro e;rw [e] at am;cases am
  have aG:Bv T (.const (.func (.yield l) #[] #[]))= .func (.yield l) #[] #[]:=rfl;simp [G,stepG,stepG.exec,fr,aB,GStep.after,stepG.apply,resolve,an,aC,Deferred.ofValue,invoke,callFunc,U,aE,aF,ap,aG,seen_none]
 ·exact mem_seen (by simpa using he)
theorem JO.collected{K:Nat}(j:Nat)(ao:b.roundOf=none)(O:Ap E H S)(U:S[j]? =some [(K,.deferred (some []))])
  (h:Ap E H (S.set j [(K,.deferred none)])->JO J Q b n L ds cs (Aj E H (S.set j [(K,.deferred none)]))):JO J Q b n L (⟨.collected K,#[]⟩::ds) cs (Aj E H S):=λT Y todo=>by
 obtain⟨Z,ac⟩:=Kc O U (.deferred none)
 have ag:lp P (Instr.takeDeferred K) (Aj E H S) (λa s'=>a= []/\s'=Aj E H (S.set j [(K,.deferred none)])) (λ_ _=>False):=by
  unfold Instr.takeDeferred getObj;simp only [bind,Sem.bind,lp,setObj,pure];exact⟨_,DO (i:=0) O U rfl,rfl,⟨_,Jz O U,rfl⟩,rfl,rfl,Z⟩
 refine Judge.EW (g':=λl=>G (Ej b T (l++ds) todo) cs) (Instr.takeDeferred K) rfl rfl (λw a w' al=>?_) (Ei _ ag (λa s' ⟨am,an⟩=>by subst am an;exact h ac T Y todo) (λ_ _ h=>h));refine⟨seen P b.fn ((Instr.takeDeferred K).events P w #[])++ #[],?_,λe he=>?_⟩
 ·simp [G,stepG,unwind,Ej,al,GStep.after]
 ·exact mem_seen (by simpa using he)
def Ko(f:FuncId)(args caps:Av_):Deferred:={target:= .fn (.func f) caps,args:=args}
theorem JO.Py{f:FuncId}{fn:Func}{c:Code}{vs caps:Lv_}(an:b.roundOf=none)(O:P.funcs[f]? =some fn)(Y:(fn.name== "runtime.NumGoroutine")=false)(hb:fn.body=some c)(Z:(vs++caps).length<=fn.ntmps){s:St}
  (h:∀T,Has n L T->∀todo,JL J Q (baseD f) fn.ntmps (F6 0 (vs++caps)) [] [.code c] (Ej b T ds todo::cs) s):JO J Q b n L (Ko f vs.toArray caps.toArray::ds) cs s:=λT ac todo=>by
 have ag:¬fn.name= "runtime.NumGoroutine" :=by simpa using Y
 refine Judge.C6 rfl (λw=>?_) (h T ac todo ((vs++caps).toArray++Array.replicate (fn.ntmps - (vs++caps).length) undef) ⟨by simp;simp at Z;omega,λt v al=>?_⟩)
 ·rw [BJ (b:=baseD f) rfl];have:=enter_atD (P:=P) (vs++caps).toArray O hb;simp only [List.size_toArray] at this;rw [← this];simp [G,stepG,unwind,callDeferred,Ej,Ko,invoke,callFunc,O,ag,hb,GStep.after,seen_none]
 ·obtain⟨_,K⟩:=Jj al;have am:t<(vs++caps).length:=by
   rcases Nat.lt_or_ge t (vs++caps).length with U | U
   ·exact U
   ·simp only [Nat.sub_zero] at K;have:=(List.getElem?_eq_some_iff.1 K).1;omega
  rw [Array.getD_eq_getD_getElem?,Array.getElem?_append_left (by simpa using am)];simp only [Nat.sub_zero] at K;rw [List.getElem?_toArray,K];rfl
theorem VK{ops:Ao_}{i:Nat}{rest:List Nat}{d:Option Tmp}{x:Operand}{f:FuncId}{caps:Lv_}{args:Array Operand}{ats:Array TypeId}{ty:TypeId}{p:String}{af:Ae_}{g:On_}{vs:Lv_}{s:St}
  (U:ops[i]? =some ⟨d,.defer ⟨.value x,args,ats⟩,ty,p,af,g⟩) (Y:b.roundOf=none) (hw:AI L ops ⟨d,.defer ⟨.value x,args,ats⟩,ty,p,af,g⟩=some true) (O:((b.kind != .early)&&A9 n d)=true)
  (Z:ev L x=some (.func (.func f) #[] caps.toArray)) (ac:evs L args.toList=some vs) (h:JL J Q b n (Av L d undef) (Ko f vs.toArray caps.toArray::ds) (.inRegion ops rest::k) cs s):
  JL J Q b n L ds (.inRegion ops (i::rest)::k) cs s:=λT K=>by
 simp only [Bool.and_eq_true] at O
 have ag:args.map (Bv T)=vs.toArray:=by
  rw [← Gj K.F5 ac];apply Array.ext';simp
 refine Judge.oper U (B5 K hw) (by simpa using O.1) (.inl Y) ?_;have hd:execOp (Bv T) ⟨d,.defer ⟨.value x,args,ats⟩,ty,p,af,g⟩= .pure (.defer (Ko f vs.toArray caps.toArray)):=by
  simp only [execOp,resolve,bind,Sem.bind,Deferred.ofValue,K.ev Z,pure,Ko];rw [ag];simp
 rw [hd];exact h _ (K.put O.2 undef)
end
end Pal
namespace Pal
open Go Go.Conc
section
variable {P:Program}{s:St}{ρ:Operand->Value}{x y z:Operand}{d:Option Tmp}{t u ty e:TypeId}{p:String}{af:Ae_}{g:On_}{a:Option Addr}{l c:Nat}
theorem MK(K:P.underlying t=some (.slice e))(O:ρ x= .slice a l c)(U:ρ (.const (.slice none 0 0))= .slice none 0 0):Yl P ⟨d,.binOp .eql t x (.const (.slice none 0 0)) u,ty,p,af,g⟩ ρ s (.bool a.isNone):=by
 refine FM (sm:=do eqGuard .eql t x (.const (.slice none 0 0)) (ρ x) (ρ (.const (.slice none 0 0)));binOp .eql t (ρ x) (ρ (.const (.slice none 0 0)))) rfl ?_
 rw [O,U];have Y:lp P (eqGuard .eql t x (.const (.slice none 0 0)) (.slice a l c) (.slice none 0 0)) s (λ_ s'=>s'=s) (λ_ _=>False):=by
  simp [eqGuard,lp,pure]
 refine As _ _ (Ei _ Y ?_ (λ_ _ h=>h));rintro _ _ rfl;have hb:binOp .eql t (.slice a l c) (.slice none 0 0)=(do pure (.bool (← Op.equal t (.slice a l c) (.slice none 0 0)))):=rfl
 rw [hb];refine As (x:=Op.equal t (.slice a l c) (.slice none 0 0)) _ ?_;unfold Op.equal Op.maxDepth Op.equalIn;refine As _ _ (Cj K ?_);cases a <;> exact⟨rfl,rfl⟩
end
section
variable {P:Program}{J:Judge P}{Q:Gs_}{b:Frame}{n:Nat}{L:Env}{ds:Ld_}{k:Li_}{cs:Lf_}{s:St}
end
section
variable {P:Program}{J:Judge P}{Q:Gs_}{b:Frame}{n:Nat}{ds:Ld_}{ops:Ao_}{k:Li_}{cs:Lf_}{m fuel:Nat}{listed:Array Bool}{L:Env}{E H:LH}{S:List Seg}
variable {d:Option Tmp}{x y:Operand}{t u ty e:TypeId}{p:String}{af:Ae_}{g:On_}{v:Value}{i:Nat}
end
end Pal
namespace Pal
open Go Go.Conc
def IK(P:Program)(d:Nat):GP:=λg _=>∃q,QuitsD P q d g
def Lb(P:Program):Frame:={(default:Frame) with fn:=P.funcs.size,defers:= [],mode:= .panicking [goexitEntry]}
section
variable {P:Program}{F:Fam}{J:Judge P}{Q:GP}{n:Nat}{L L':Env}{ds:Ld_}{k:Li_}{cs:Lf_}{s s':St}{b:Frame}{main:Bool}
theorem Lv.quits{d:Nat}:∀{m:Nat} {g:Goroutine},Lv P (IK P d) m g->∃q,QuitsD P q d g
 | 0,_,h=>h
 | m+1,_,h=>by
  rcases h with h | ⟨K,g',O,h⟩
  ·exact h
  ·obtain⟨q,U⟩:=h.quits;exact⟨q+1,.ctl K O U⟩
theorem Ol{d:Nat}{g:Goroutine}(h:(HZ P).ok (IK P d) g .quiet):∃q,QuitsD P q d g:=by
 obtain⟨m,hm⟩:=h rfl;exact hm.quits
theorem UO:(HZ P).ok (IK P 0) (G (Lb P) []) .quiet:=by
 refine Judge.C6 (g':={frame:=Lb P,callers:= [],status:= .finished,dying:=none}) rfl (λw=>?_) ((HZ P).stop ⟨0,rfl,rfl⟩);have K:(default:Frame).todo= []:=rfl;have O:∀(m:FrameMode),Frame.catches P {fn:=P.funcs.size,tmps:=(default:Frame).tmps,todo:= [],defers:= [],mode:=m,kind:=(default:Frame).kind,roundOf:=(default:Frame).roundOf}=false:=λm=>by simp [Frame.catches]
 simp [G,stepG,unwind,Lb,goexitEntry,K,O]
theorem Ry{ops:Ao_}{i:Nat}{rest:List Nat}{d:Option Tmp}{f:FuncId}{args:Array Operand}{ats:Array TypeId}{ty:TypeId}{pp:String}{af:Ae_}{g:On_}{T:Av_}{e:Av_->Sem Value}
  (K:ops[i]? =some ⟨d,.call ⟨.value (.func f),args,ats⟩,ty,pp,af,g⟩) (he:B2 P f e):mayWake P (G (fr b T ds (.inRegion ops (i::rest)::k)) cs)=true:=by
 obtain⟨fn,O,_,hb,_⟩:=he.h;have U:fn.body.isSome=false:=by cases h:fn.body <;> simp_all
 simp [mayWake,G,fr,K,Frame.eval,O,U]
theorem Wh{v wt:Nat}(K:1<=v)(O:v<2147483648)(U:wt<=1):IntKind.u64.wrap (Fam.word v wt+18446744069414584320)=Fam.word (v - 1) wt:=by
 simp only [Fam.word,Fam.KK,IntKind.wrap,IntKind.bits,IntKind.signed];simp;omega
theorem Wd{v:Nat}(h:v<2147483647):IntKind.u64.wrap (Fam.word v 0+4294967296)=Fam.word (v+1) 0:=by
 simp only [Fam.word,Fam.KK,IntKind.wrap,IntKind.bits,IntKind.signed];simp;omega
theorem word_inj{v v' wt:Nat}(h:Fam.word v wt=Fam.word v' wt):v=v':=by
 simp only [Fam.word,Fam.KK] at h;omega
section
variable {ops:Ao_}{i:Nat}{rest:List Nat}{d:Option Tmp}{f:FuncId}{x y z:Operand}{ats:Array TypeId}{ty:TypeId}{pp:String}{af:Ae_}{g:On_}{p q:Ph}
theorem XI(ag:ops[i]? =some ⟨d,.call ⟨.value (.func f),#[x,y],ats⟩,ty,pp,af,g⟩)(Z:b.roundOf=none)(hw:AI L ops ⟨d,.call ⟨.value (.func f),#[x,y],ats⟩,ty,pp,af,g⟩=some true)(O:((b.kind != .early)&&A9 n d)=true)
  (he:B2 P f (Extern.Atomic.update (Op.intArith .add) .u64 true)) (al:ev L x=some (.pointer (some F.sA))) (am:ev L y=some (.int .u64 18446744069414584320))
  (an:JL (AQ P false) (Stop P F .GH) b n (Av L d (.int .u64 (Fam.word 0 1))) ds (.inRegion ops rest::k) cs .quiet)
  (ao:∀v wt:Nat,v<2147483647->wt<=1->¬(v=0/\wt=1)->JL (HZ P) (IK P 1) b n (Av L d (.int .u64 (Fam.word v wt))) ds (.inRegion ops rest::k) cs .quiet):
  JL (AQ P false) (Stop P F .Hc) b n L ds (.inRegion ops (i::rest)::k) cs .quiet:=λT K=>by
 simp only [Bool.and_eq_true] at O
 obtain⟨fn,ap,aq,hb,ar,he⟩:=he.h
 refine(AQ P _).stop (Iy rfl rfl rfl rfl (by simp) λv wt sm v' wt' sm' es au U=>?_)
 simp only [Fam.act] at U
 split at U
 ·rename_i Y
  cases U;refine⟨G (fr b (Cz T d (.int .u64 (Fam.word (v - 1) wt))) ds (.inRegion ops rest::k)) cs,λw ac=>?_,rfl,?_⟩
  ·obtain⟨c1,_,c3,_⟩:=Iz ac;rw [BJ Z,BJ Z];show stepG P false _ w=_;rw [stepG_add_atomic (a:=⟨T,ds⟩) ag (B5 K hw) (by simpa using O.1) rfl ap aq hb ar .u64 he (by rw [Ez];exact K.ev al) (by rw [Ez];exact K.ev am) c1 c3,Wh Y.1 Y.2.1 Y.2.2,MD ac,DW]
   rfl
  ·split
   ·rename_i e;obtain⟨rfl,rfl⟩:=e;exact an _ (K.put O.2 _)
   ·rename_i e;exact Ol (ao (v - 1) wt (by omega) Y.2.2 (by omega) _ (K.put O.2 _))
 ·cases U
theorem Xi{j:Nat}(ag:s.q=false)(al:ops[i]? =some ⟨d,.call ⟨.value (.func f),#[x,y],ats⟩,ty,pp,af,g⟩)(Z:b.roundOf=none)(hw:AI L ops ⟨d,.call ⟨.value (.func f),#[x,y],ats⟩,ty,pp,af,g⟩=some true)(O:((b.kind != .early)&&A9 n d)=true)
  (he:B2 P f (Extern.Atomic.update (Op.intArith .add) .u64 true)) (am:ev L x=some (.pointer (some F.sA))) (an:ev L y=some (.int .u64 4294967296))
  (ao:JL (AQ P true) (Stop P F (.Ip j)) b n (Av L d (.int .u64 (Fam.word 1 0))) ds (.inRegion ops rest::k) cs s)
  (ap:∀v:Nat,1<=v->v<2147483647->JL (AQ P true) (Stop P F (.GQ j)) b n (Av L d (.int .u64 (Fam.word (v+1) 0))) ds (.inRegion ops rest::k) cs s):
  JL (AQ P true) (Stop P F (.Ii j)) b n L ds (.inRegion ops (i::rest)::k) cs s:=λT K=>by
 simp only [Bool.and_eq_true] at O
 obtain⟨fn,aq,ar,hb,au,he⟩:=he.h
 refine(AQ P _).stop (Iy rfl rfl rfl ag (by simp) λv wt sm v' wt' sm' es av U=>?_)
 simp only [Fam.act] at U
 split at U
 ·rename_i Y
  obtain⟨Y,rfl⟩:=Y;cases U;refine⟨G (fr b (Cz T d (.int .u64 (Fam.word (v+1) 0))) ds (.inRegion ops rest::k)) cs,λw ac=>?_,rfl,?_⟩
  ·obtain⟨c1,_,c3,_⟩:=Iz ac;rw [BJ Z,BJ Z];show stepG P true _ w=_;rw [stepG_add_atomic (a:=⟨T,ds⟩) al (B5 K hw) (by simpa using O.1) rfl aq ar hb au .u64 he (by rw [Ez];exact K.ev am) (by rw [Ez];exact K.ev an) c1 c3,Wd Y,MD ac,DW]
   rfl
  ·split
   ·rename_i e;subst e;exact ao _ (K.put O.2 _)
   ·rename_i e;exact ap v (by omega) Y _ (K.put O.2 _)
 ·cases U
theorem Y7(al:KU p=true)(am:if Fam.CC p=true then s= .quiet else s.q=false)(an:p≠ .Fe)(ao:Fam.Je p s=s)(ap:∀v wt sm r,F.act p v wt sm=some r->r.1=(v,wt,sm)/\r.2.1= #[Fam.B7 F.sA])
  (aq:ops[i]? =some ⟨d,.call ⟨.value (.func f),#[x],ats⟩,ty,pp,af,g⟩) (U:b.roundOf=none) (hw:AI L ops ⟨d,.call ⟨.value (.func f),#[x],ats⟩,ty,pp,af,g⟩=some true) (K:((b.kind != .early)&&A9 n d)=true)
  (he:B2 P f (Extern.Atomic.loadT (.int .u64))) (ar:ev L x=some (.pointer (some F.sA)))
  (h:∀v wt sm r,F.act p v wt sm=some r->∃q,r.2.2= .ph q/\JL (AQ P (Fam.Cu p)) (Stop P F q) b n (Av L d (.int .u64 (Fam.word v wt))) ds (.inRegion ops rest::k) cs s):
  JL (AQ P (Fam.Cu p)) (Stop P F p) b n L ds (.inRegion ops (i::rest)::k) cs s:=λT O=>by
 simp only [Bool.and_eq_true] at K
 obtain⟨fn,au,av,hb,aw,he⟩:=he.h
 refine(AQ P _).stop (Iy al rfl rfl am (λe=>absurd e an) λv wt sm v' wt' sm' es az Y=>?_)
 obtain⟨Z,e2⟩:=ap _ _ _ _ Y
 obtain⟨q,ac,ay⟩:=h _ _ _ _ Y
 simp only at Z e2 ac
 cases Z
 subst e2 ac
 refine⟨_,λw ag=>?_,rfl,by rw [ao];exact ay _ (O.put K.2 _)⟩
 obtain⟨c1,_,_,_⟩:=Iz ag
 rw [BJ U,BJ U,stepG_load_atomic (a:=⟨T,ds⟩) aq (B5 O hw) (by simpa using K.1) rfl au av hb aw .u64 he (by rw [Ez];exact O.ev ar) c1,KH ag,DW]
 rfl
theorem YV(ac:ops[i]? =some ⟨d,.call ⟨.value (.func f),#[x,y],ats⟩,ty,pp,af,g⟩)(Y:b.roundOf=none)(hw:AI L ops ⟨d,.call ⟨.value (.func f),#[x,y],ats⟩,ty,pp,af,g⟩=some true)(U:((b.kind != .early)&&A9 n d)=true)
  (he:B2 P f Extern.Atomic.storeT) (ag:ev L x=some (.pointer (some F.sA))) (al:ev L y=some (.int .u64 0))
  (h:JL (AQ P false) (Stop P F .Fe) b n (Av L d (.tuple #[])) ds (.inRegion ops rest::k) cs .quiet):
  JL (AQ P false) (Stop P F .G5) b n L ds (.inRegion ops (i::rest)::k) cs .quiet:=λT K=>by
 simp only [Bool.and_eq_true] at U
 obtain⟨fn,am,an,hb,ao,he⟩:=he.h
 refine(AQ P _).stop (Iy rfl rfl rfl rfl (by simp) λv wt sm v' wt' sm' es ar O=>?_)
 simp only [Fam.act] at O
 split at O
 ·rename_i ap
  obtain⟨rfl,rfl⟩:=ap;cases O;refine⟨_,λw Z=>?_,rfl,h _ (K.put U.2 _)⟩;obtain⟨c1,_,c3,_⟩:=Iz Z;have aq:(.int .u64 0:Value)= .int .u64 (Fam.word 0 0):=by simp [Fam.word]
  rw [BJ Y,BJ Y];show stepG P false _ w=_;rw [stepG_store_atomic (a:=⟨T,ds⟩) ac (B5 K hw) (by simpa using U.1) rfl am an hb ao he (by rw [Ez];exact K.ev ag) (by rw [Ez];exact K.ev al) c1 c3,aq,MD Z,DW]
  rfl
 ·cases O
theorem Ym{m:Nat}(aq:s.q=false)(ac:ops[i]? =some ⟨d,.call ⟨.value (.func f),#[x,y,z],ats⟩,ty,pp,af,g⟩)(Z:b.roundOf=none)(hw:AI L ops ⟨d,.call ⟨.value (.func f),#[x,y,z],ats⟩,ty,pp,af,g⟩=some true)(U:((b.kind != .early)&&A9 n d)=true)
  (he:B2 P f (Extern.Atomic.casT (.int .u64))) (ag:ev L x=some (.pointer (some F.sA))) (al:ev L y=some (.int .u64 (Fam.word m 0))) (am:ev L z=some (.int .u64 (Fam.word m 1)))
  (ar:JL (AQ P true) (Stop P F .Im) b n (Av L d (.bool true)) ds (.inRegion ops rest::k) cs s)
  (au:JL (AQ P true) (Stop P F (.FP (m - 1))) b n (Av L d (.bool false)) ds (.inRegion ops rest::k) cs s):
  JL (AQ P true) (Stop P F (.Ha m)) b n L ds (.inRegion ops (i::rest)::k) cs s:=λT K=>by
 simp only [Bool.and_eq_true] at U
 obtain⟨fn,an,ao,hb,ap,he⟩:=he.h
 refine(AQ P _).stop (Iy rfl rfl rfl aq (by simp) λv wt sm v' wt' sm' es aw O=>?_)
 simp only [Fam.act] at O
 split at O
 ·rename_i av
  obtain⟨_,_,rfl⟩:=av;split at O
  ·rename_i e;subst e;cases O;refine⟨_,λw Y=>?_,rfl,ar _ (K.put U.2 _)⟩;obtain⟨c1,_,c3,_⟩:=Iz Y;rw [BJ Z,BJ Z];show stepG P true _ w=_;rw [stepG_cas_hit (a:=⟨T,ds⟩) ac (B5 K hw) (by simpa using U.1) rfl an ao hb ap .u64 he (by rw [Ez];exact K.ev ag) (by rw [Ez];exact K.ev al) (by rw [Ez];exact K.ev am) c1 c3,MD Y,DW]
   rfl
  ·rename_i e;cases O;refine⟨_,λw Y=>?_,rfl,au _ (K.put U.2 _)⟩;obtain⟨c1,_,c3,_⟩:=Iz Y;rw [BJ Z,BJ Z];show stepG P true _ w=_;rw [stepG_cas_miss (a:=⟨T,ds⟩) ac (B5 K hw) (by simpa using U.1) rfl an ao hb ap .u64 he (by rw [Ez];exact K.ev ag) (by rw [Ez];exact K.ev al) (by rw [Ez];exact K.ev am) c1 c3 (λq=>e (word_inj q)),KH Y,DW]
   rfl
 ·cases O
theorem V4{args:Array Operand}{vs:Lv_}(Y:ops[i]? =some ⟨d,.call ⟨.value (.func f),args,ats⟩,ty,pp,af,g⟩)(Z:b.roundOf=none)(hw:AI L ops ⟨d,.call ⟨.value (.func f),args,ats⟩,ty,pp,af,g⟩=some true)(O:((b.kind != .early)&&A9 n d)=true)
  (he:B2 P f Extern.Sync.semrelease) (ag:evs L args.toList=some vs) (al:vs[0]? =some (.pointer (some F.mA)))
  (h:JL (HZ P) (IK P 1) b n (Av L d (.tuple #[])) ds (.inRegion ops rest::k) cs .quiet):
  JL (AQ P false) (Stop P F .Fe) b n L ds (.inRegion ops (i::rest)::k) cs .quiet:=λT U=>by
 simp only [Bool.and_eq_true] at O
 have am:=Ry (P:=P) (b:=b) (ds:=ds) (k:=k) (cs:=cs) (rest:=rest) (T:=T) Y he
 obtain⟨fn,an,ao,hb,ap,he⟩:=he.h
 refine(AQ P _).stop (Iy rfl rfl rfl rfl (λ_=>am) λv wt sm v' wt' sm' es au K=>?_)
 simp only [Fam.act] at K
 split at K
 ·rename_i aq
  subst aq;cases K;refine⟨_,λw ac=>?_,rfl,Ol (h _ (U.put O.2 _))⟩;obtain⟨_,c2,_,c4⟩:=Iz ac;rw [BJ Z,BJ Z];show stepG P false _ w=_;rw [stepG_semrelease (a:=⟨T,ds⟩) Y (B5 U hw) (by simpa using O.1) rfl an ao hb ap he (ad:=F.mA) (by rw [JD U ag];simpa using al) c2 c4,DW];have ar:IntKind.u32.wrap (((0:Nat):Int)+1)=((1:Nat):Int):=by decide
  rw [ar,QI ac]
 ·cases K
theorem UD{args:Array Operand}{vs:Lv_}(ao:s.q=false)(ac:ops[i]? =some ⟨d,.call ⟨.value (.func f),args,ats⟩,ty,pp,af,g⟩)(Y:b.roundOf=none)(hw:AI L ops ⟨d,.call ⟨.value (.func f),args,ats⟩,ty,pp,af,g⟩=some true)(Z:((b.kind != .early)&&A9 n d)=true)
  (he:B2 P f Extern.Sync.semacquire) (ap:evs L args.toList=some vs) (aq:vs[0]? =some (.pointer (some F.mA)))
  (h:JL (AQ P true) (Stop P F .G6) b n (Av L d (.tuple #[])) ds (.inRegion ops rest::k) cs s):
  JL (AQ P true) (Stop P F .Ft) b n L ds (.inRegion ops (i::rest)::k) cs s:=λT K=>by
 simp only [Bool.and_eq_true] at Z
 obtain⟨fn,ag,al,hb,am,he⟩:=he.h
 have an:(args.map (⟨T,ds⟩:Act).eval)[0]? =some (.pointer (some F.mA)):=by rw [JD K ap];simpa using aq
 refine(AQ P _).stop (GO.stop {
  run:=rfl,offers:=rfl,quiet:=(by simp [Fam.CC]),live:=λ_=>ao,act:=?_,IJ:=(by simp),EW:=?_,go:=(by simp),lk:=(by simp),Co:=(by simp),store:=(by simp),fin:=(by simp)})
 ·intro v wt sm v' wt' sm' es av O;simp only [Fam.act] at O;split at O
  ·rename_i ar;subst ar;cases O;refine⟨_,λw U=>?_,rfl,h _ (K.put Z.2 _)⟩;obtain⟨_,c2,_,c4⟩:=Iz U;rw [BJ Y,BJ Y];show stepG P true _ w=_;rw [stepG_semacquire (a:=⟨T,ds⟩) ac (B5 K hw) (by simpa using Z.1) rfl ag al hb am he (ad:=F.mA) an c2 (by decide) c4,DW];have au:(((1:Nat):Int) - 1)=((0:Nat):Int):=by decide
   rw [au,QI U]
  ·cases O
 ·intro _ w v wt U;obtain⟨_,c2,_,c4⟩:=Iz U;rw [BJ Y];exact stepG_semacquire_wait (a:=⟨T,ds⟩) ac (B5 K hw) rfl ag al hb am he (ad:=F.mA) an c2
theorem Sa{args:Array Operand}{vs:Lv_}(Y:s.q=false)(Z:ops[i]? =some ⟨d,.call ⟨.value (.func f),args,ats⟩,ty,pp,af,g⟩)(U:b.roundOf=none)(hw:AI L ops ⟨d,.call ⟨.value (.func f),args,ats⟩,ty,pp,af,g⟩=some true)(K:((b.kind != .early)&&A9 n d)=true)
  (he:B2 P f (Extern.Race.marked .acquire)) (ac:evs L args.toList=some vs) (ag:vs[0]? =some (.pointer (some F.sA)))
  (h:∀E' f,Le s.E E'->E' F.fd=none->(∀b,E' b≠none->s.H b=none)->(∀k,k<F.n->F.msg k (f k) E')->∀T,Has n (Av L d (.tuple #[])) T->F.fin (G (fr b T ds (.inRegion ops rest::k)) cs) ⟨E',F.Ju s.H f,false⟩):
  JL (AQ P true) (Stop P F .Gc) b n L ds (.inRegion ops (i::rest)::k) cs s:=λT O=>by
 simp only [Bool.and_eq_true] at K
 obtain⟨fn,al,am,hb,an,he⟩:=he.h
 refine(AQ P _).stop (GO.stop {
  run:=rfl,offers:=rfl,quiet:=(by simp [Fam.CC]),live:=λ_=>Y,act:=(by simp [Fam.act]),IJ:=(by simp),EW:=(by simp),go:=(by simp),lk:=(by simp),Co:=(by simp),store:=(by simp),fin:=λ_=>?_})
 refine⟨_,λw=>?_,λE' f a1 ao ap aq=>h E' f a1 ao ap aq _ (O.put K.2 _)⟩
 rw [BJ U,BJ U,stepG_markAt (a:=⟨T,ds⟩) .acquire (by simp) Z (B5 O hw) (by simpa using K.1) rfl al am hb an he (ad:=F.sA) (by rw [JD O ac];simpa using ag),DW]
 rfl
end
end
end Pal
namespace Pal
open Go Go.Conc
section
variable {P:Program}{F:Fam}{J:Judge P}{Q:GP}{n:Nat}{L L':Env}{ds:Ld_}{k:Li_}{cs:Lf_}{s s':St}{b:Frame}{main:Bool}
variable {ops:Ao_}{i:Nat}{rest:List Nat}{d:Option Tmp}{f:FuncId}{x y z:Operand}{ats:Array TypeId}{ty t e:TypeId}{pp:String}{af:Ae_}{g:On_}{p q:Ph}
theorem KC(T:Av_)(ds:Ld_):(⟨T,ds⟩:Act).eval=Bv T:=funext λx=>Ez T ds x
theorem Ws{X:GP}{fn:Func}{c:Code}{vs:Lv_}{caps:Av_}{args:Av_}(O:P.funcs[f]? =some fn)(Z:(fn.name== "runtime.NumGoroutine")=false)(hb:fn.body=some c)(ac:args++caps=vs.toArray)(an:vs.length<=fn.ntmps)
  (h:JL (AQ P false) X (baseD f) fn.ntmps (F6 0 vs) [] [.code c] [Lb P] s):Way P false X (born P {target:= .fn (.func f) caps,args:=args}) s:=by
 have ag:¬fn.name= "runtime.NumGoroutine" :=by simpa using Z
 refine Judge.C6 (J:=AQ P false) rfl (λw=>?_) (h (vs.toArray++Array.replicate (fn.ntmps - vs.length) undef) ⟨by simp;omega,λt v al=>?_⟩)
 ·show stepG P false _ w=_;have U:=enter_atD (P:=P) vs.toArray O hb;rw [BJ (b:=baseD f) rfl];simp only [List.size_toArray] at U;simp [G,born,stepG,unwind,callDeferred,invoke,callFunc,O,ag,hb,GStep.after,seen_none,ac,Lb,U]
 ·obtain⟨_,K⟩:=Jj al;have am:t<vs.length:=by
   rcases Nat.lt_or_ge t vs.length with Y | Y
   ·exact Y
   ·simp at K;have:=(List.getElem?_eq_some_iff.1 K).1;omega
  rw [Array.getD_eq_getD_getElem?,Array.getElem?_append_left (by simpa using am)];simp at K;simp [K]
theorem XY{T:Av_}{args:Array Operand}{K:Go.Fn}{fi O:Av_}{as:Lv_}(U:Has n L T)(Y:ev L x=some (.func K fi O))(Z:evs L args.toList=some as):
  execOp (Bv T) ⟨d,.go ⟨.value x,args,ats⟩,ty,pp,af,g⟩= .pure (.spawn {target:= .fn K O,args:=fi++as.toArray}):=by
 have ac:args.map (Bv T)=as.toArray:=by
  rw [← Gj U.F5 Z];apply Array.ext';simp
 simp only [execOp,resolve,bind,Sem.bind,Deferred.ofValue,U.ev Y,pure,ac]
theorem Yj{j:Nat}{args:Array Operand}{fi U:Av_}{as:Lv_}{Y:FuncId}(ag:s.q=false)(al:ops[i]? =some ⟨d,.go ⟨.value x,args,ats⟩,ty,pp,af,g⟩)(Z:b.roundOf=none)(hw:AI L ops ⟨d,.go ⟨.value x,args,ats⟩,ty,pp,af,g⟩=some true)(K:((b.kind != .early)&&A9 n d)=true)
  (am:ev L x=some (.func (.func Y) fi U)) (an:evs L args.toList=some as)
  (ao:Way P false (Stop P F (F.start j)) (born P {target:= .fn (.func Y) U,args:=fi++as.toArray}) ⟨s.E,λ_=>none,false⟩)
  (ap:JL (AQ P true) (Stop P F (F.Ex j)) b n (Av L d undef) ds (.inRegion ops rest::k) cs s):
  JL (AQ P true) (Stop P F (.FF j)) b n L ds (.inRegion ops (i::rest)::k) cs s:=λT O=>by
 simp only [Bool.and_eq_true] at K
 have ac:=XY (d:=d) (ats:=ats) (ty:=ty) (pp:=pp) (af:=af) (g:=g) O am an
 refine(AQ P _).stop (GO.stop {
  run:=rfl,offers:=rfl,quiet:=(by simp [Fam.CC]),live:=λ_=>ag,act:=(by simp [Fam.act]),IJ:=(by simp),EW:=(by simp),go:=λaq e=>?_,lk:=(by simp),Co:=(by simp),store:=(by simp),fin:=(by simp)})
 cases e
 refine⟨G (fr b (Cz T d undef) ds (.inRegion ops rest::k)) cs,_,rfl,rfl,λw=>?_,ao,ap _ (O.put K.2 _)⟩
 rw [BJ Z,BJ Z,stepG_spawn (a:=⟨T,ds⟩) (w':=w) al (B5 O hw) (by simpa using K.1) (by rw [KC,ac];rfl) rfl,listed_none (by rw [KC,ac];simp [Sem.events_pure']),DW]
theorem JO.Sk{j:Nat}(Y:s.q=false)(K:b.roundOf=none)(he:B2 P f (λ_=>do mark .enable;pure Extern.Race.none_))
  (h:JO (AQ P true) (Stop P F (.FF j)) b n L ds cs s):JO (AQ P true) (Stop P F (.GQ j)) b n L (dcall f #[]::ds) cs s:=λT Z todo=>by
 obtain⟨fn,ac,ag,hb,al,he⟩:=he.h
 refine(AQ P _).stop (Iy rfl rfl rfl Y (by simp) λv wt sm v' wt' sm' es an O=>?_)
 simp only [Fam.act] at O
 cases O
 refine⟨G (Ej b T ds todo) cs,λw am=>?_,rfl,h T Z todo⟩
 rw [KL K,KL K,KH am]
 exact stepG_unwind_entry (a:=⟨T,dcall f #[]::ds⟩) (v:= .tuple #[]) (evs:= #[Fam.Cx .enable]) rfl ac ag hb al he (by simp [Extern.Race.none_]) (by simp;rfl) (by
  intro x U
  simp at U
  subst U
  exact⟨rfl,λg h=>by cases h⟩)
theorem JO.M5(K:b.roundOf=none)(he:B2 P f (λ_=>do mark .enable;pure Extern.Race.none_))
  (h:JO (HZ P) (IK P 0) b n L ds cs .quiet):JO (HZ P) (IK P 1) b n L (dcall f #[]::ds) cs .quiet:=λT U todo=>by
 obtain⟨fn,Y,Z,hb,ac,he⟩:=he.h
 refine(HZ P).stop ?_
 obtain⟨q,O⟩:=Ol (h T U todo)
 rw [KL K] at O
 rw [KL K]
 exact⟨q+1,QuitsD.unwind_mark (a:=⟨T,dcall f #[]::ds⟩) .enable rfl (by simp) rfl Y Z hb ac he O⟩
end
end Pal
namespace Pal
open Go Go.Conc
def TP:BinOp->Int->Int->Option Bool
 | .lss,m,m'=>some (decide (m<m'))
 | .leq,m,m'=>some (decide (m<=m'))
 | .gtr,m,m'=>some (decide (m'<m))
 | .geq,m,m'=>some (decide (m'<=m))
 | .eql,m,m'=>some (decide (m=m'))
 | .neq,m,m'=>some (decide (m≠m'))
 | _,_,_=>none
def Kq(L:Env):Op->Option Value
 | .move x=>ev L x
 | .assign x=>ev L x
 | .pick z x y=>match ev L z with
  | some (.bool true)=>ev L x
  | some (.bool false)=>ev L y
  | _=>none
 | .extract x i=>match ev L x with
  | some (.tuple vs)=>vs[i]?
  | _=>none
 | .nilCheck x=>match ev L x with
  | some (.pointer (some a))=>some (.pointer (some a))
  | _=>none
 | .binOp op _ x y _=>match ev L x with
  | some (.int kd m)=>match ev L y with
   | some (.int kd' m')=>if kd=kd' then(match TP op m m' with | some t=>some (.bool t) | none=>none) else none
   | _=>none
  | _=>none
 | _=>none
theorem W4{P:Program}{s:St}{ρ:Operand->Value}{d:Option Tmp}{x y:Operand}{t u ty:TypeId}{p:String}{af:Ae_}{g:On_}{kd:IntKind}{m m':Int}(K:ρ x= .int kd m)(O:ρ y= .int kd m'):Yl P ⟨d,.binOp .neq t x y u,ty,p,af,g⟩ ρ s (.bool (decide (m≠m'))):=by
 have h:=Yl.neq (P:=P) (s:=s) (d:=d) (t:=t) (u:=u) (ty:=ty) (p:=p) (af:=af) (g:=g) K O;simpa using h
theorem M9{P:Program}{L:Env}{ρ:Operand->Value}{s:St}{o:Oper}{v:Value}(K:ER L ρ)(h:Kq L o.op=some v):Yl P o ρ s v:=by
 obtain⟨d,op,ty,p,af,g⟩:=o;simp only at h;unfold Kq at h;split at h
 ·exact Yl.move (K _ _ h)
 ·exact Yl.assign (K _ _ h)
 ·split at h
  ·rename_i e;exact Ly (K _ _ e) (K _ _ h)
  ·rename_i e;exact Vx (K _ _ e) (K _ _ h)
  ·cases h
 ·split at h
  ·rename_i e;exact Yl.extract (K _ _ e) h
  ·cases h
 ·split at h
  ·rename_i e;cases h;exact Yl.nilCheck (K _ _ e)
  ·cases h
 ·split at h
  ·rename_i O;split at h
   ·rename_i U;split at h
    ·rename_i e;subst e;split at h
     ·rename_i e;cases h;unfold TP at e;split at e
      ·cases e;exact Yl.lss (K _ _ O) (K _ _ U)
      ·cases e;exact Yl.leq (K _ _ O) (K _ _ U)
      ·cases e;exact Yl.gtr (K _ _ O) (K _ _ U)
      ·cases e;exact Yl.geq (K _ _ O) (K _ _ U)
      ·cases e;exact Yl.eql (K _ _ O) (K _ _ U)
      ·cases e;exact W4 (K _ _ O) (K _ _ U)
      ·cases e
     ·cases h
    ·cases h
   ·cases h
  ·cases h
 ·cases h
def Jb:List Oper->Nat->Option Oper
 | [],_=>none
 | o::_,0=>some o
 | _::os,i+1=>Jb os i
theorem KT:∀(os:List Oper) (i:Nat),Jb os i=os[i]?
 | [],i=>by simp [Jb]
 | _::_,0=>rfl
 | _::os,i+1=>by simp [Jb,KT os i]
def P1(b:Frame)(n:Nat)(L:Env):Li_->Option (Li_×Env)
 | .code (.seq x y)::k=>some (.code x:: .code y::k,L)
 | .code (.block i c)::k=>some (.code c:: .inBlock i::k,L)
 | .code (.scope c)::k=>some (.code c:: .inScope c::k,L)
 | .code .skip::k=>some (k,L)
 | .code (.exit i)::k=>match exitTo i k with
  | some k'=>some (k',L)
  | none=>none
 | .code (.cond c x y)::k=>match ev L c with
  | some (.bool true)=>some (.code x::k,L)
  | some (.bool false)=>some (.code y::k,L)
  | _=>none
 | .code (.region _ ops false)::k=>some (.inRegion ops (List.range ops.size)::k,L)
 | .inBlock _::k=>some (k,L)
 | .inScope _::k=>some (k,L)
 | .inRegion _ []::k=>some (k,L)
 | .inRegion ops (i::rest)::k=>match Jb ops.toList i with
  | some ⟨d,op,ty,p,af,g⟩=>match AI L ops ⟨d,op,ty,p,af,g⟩ with
   | some true=>match BK b n ⟨d,op,ty,p,af,g⟩ with
    | true=>match Kq L op with
     | some v=>match d with
      | some d=>some (.inRegion ops rest::k,(d,v)::L)
      | none=>some (.inRegion ops rest::k,L)
     | none=>none
    | false=>none
   | some false=>match A9 n d with
    | true=>match d with
     | some d=>some (.inRegion ops rest::k,(d,undef)::L)
     | none=>some (.inRegion ops rest::k,L)
    | false=>none
   | none=>none
  | none=>none
 | _=>none
def Nm(b:Frame)(n:Nat):Nat->Li_->Env->Option (Li_×Env)
 | 0,k,L=>some (k,L)
 | m+1,k,L=>match P1 b n L k with
  | some (k',L')=>Nm b n m k' L'
  | none=>none
section
variable {P:Program}{J:Judge P}{Q:Gs_}{b:Frame}{n:Nat}{L L':Env}{ds:Ld_}{k k':Li_}{cs:Lf_}{s:St}
theorem YT(h:P1 b n L k=some (k',L'))(K:JL J Q b n L' ds k' cs s):JL J Q b n L ds k cs s:=by
 unfold P1 at h;split at h
 ·cases h;exact JL.seq K
 ·cases h;exact JL.block K
 ·cases h;exact JL.scope K
 ·cases h;exact JL.skip K
 ·split at h
  ·rename_i e;cases h;exact JL.exit e K
  ·cases h
 ·split at h
  ·rename_i e;cases h;exact VE e K
  ·rename_i e;cases h;exact Vd e K
  ·cases h
 ·cases h;exact JL.region K
 ·cases h;exact Mz K
 ·cases h;exact Uv K
 ·cases h;exact JL.done K
 ·split at h
  ·rename_i d op ty p af g O;rw [KT,Array.getElem?_toList] at O;split at h
   ·rename_i hw;split at h
    ·rename_i U;split at h
     ·rename_i v Z;cases d with
      | none=>cases h;exact AZ O hw U (λρ Y=>M9 Y Z) K
      | some d=>cases h;exact AZ O hw U (λρ Y=>M9 Y Z) K
     ·cases h
    ·cases h
   ·rename_i hw;split at h
    ·rename_i U;cases d with
     | none=>cases h;exact H8 O hw U K
     | some d=>cases h;exact H8 O hw U K
    ·cases h
   ·cases h
  ·cases h
 ·cases h
theorem JL.go(m:Nat)(h:Nm b n m k L=some (k',L'))(K:JL J Q b n L' ds k' cs s):JL J Q b n L ds k cs s:=by
 induction m generalizing k L with
 | zero=>cases h;exact K
 | succ m O=>
  unfold Nm at h;split at h
  ·rename_i e;exact YT e (O h)
  ·cases h
end
abbrev Ak(a o:Nat):Value:= .pointer (some ⟨a,o,none⟩)
abbrev sV{α:Type}(a:Option Addr)(l:List α)(c:Nat):Value:= .slice a l.length c
abbrev fV(n:Nat):Value:= .func (.func n) #[] #[]
abbrev nS:Value:= .slice none 0 0
abbrev AS(r:Nat):Option Addr:=some ⟨r,0,none⟩
end Pal
namespace Pal
open Go Go.Conc Go.Conc.Lib
open Go.ConcR.Gen
theorem F1{P:Program}{t:TypeId}{n:Nat}(h:∀w,Sem.run P (Go.sizeOf t) w= .ok n w):Be P t=some n:=by
 have K:=h default;unfold Be;simp only [Go.sizeOf,typeInfo,bind,Sem.bind,program,Sem.run] at K;cases hi:P.info? t with
 | none=>rw [hi] at K;simp [stuck,Sem.run,Sem.bind] at K
 | some i=>
  rw [hi] at K;simp [pure,Sem.bind,Sem.run] at K;simp [K]
section
variable {P:Program}{L:WgLink}(H:WgLib P L)
include H
theorem MA:B2 P L.disable (λ_=>do mark .disable;pure Extern.Race.none_):=⟨⟨_,H.f_disable,x_disable_n L,x_disable_b L,x_disable_x L,x_disable_f L⟩⟩
theorem IU:B2 P L.enable (λ_=>do mark .enable;pure Extern.Race.none_):=⟨⟨_,H.f_enable,x_enable_n L,x_enable_b L,x_enable_x L,x_enable_f L⟩⟩
theorem Qo:B2 P L.relMerge (Extern.Race.marked .releaseMerge):=⟨⟨_,H.f_relMerge,x_relMerge_n L,x_relMerge_b L,x_relMerge_x L,x_relMerge_f L⟩⟩
theorem Oo:B2 P L.acquire (Extern.Race.marked .acquire):=⟨⟨_,H.f_acquire,x_acquire_n L,x_acquire_b L,x_acquire_x L,x_acquire_f L⟩⟩
theorem V1:B2 P L.raceRead (Extern.Race.marked .read):=⟨⟨_,H.f_raceRead,x_raceRead_n L,x_raceRead_b L,x_raceRead_x L,x_raceRead_f L⟩⟩
theorem Vh:B2 P L.raceWrite (Extern.Race.marked .write):=⟨⟨_,H.f_raceWrite,x_raceWrite_n L,x_raceWrite_b L,x_raceWrite_x L,x_raceWrite_f L⟩⟩
theorem R8:B2 P L.addU64 (Extern.Atomic.update (Op.intArith .add) .u64 true):=⟨⟨_,H.f_addU64,x_addU64_n L,x_addU64_b L,x_addU64_x L,x_addU64_f L⟩⟩
theorem Wt:B2 P L.loadU64 (Extern.Atomic.loadT (.int .u64)):=⟨⟨_,H.f_loadU64,x_loadU64_n L,x_loadU64_b L,x_loadU64_x L,x_loadU64_f L⟩⟩
theorem Vl:B2 P L.storeU64 Extern.Atomic.storeT:=⟨⟨_,H.f_storeU64,x_storeU64_n L,x_storeU64_b L,x_storeU64_x L,x_storeU64_f L⟩⟩
theorem Xc:B2 P L.casU64 (Extern.Atomic.casT (.int .u64)):=⟨⟨_,H.f_casU64,x_casU64_n L,x_casU64_b L,x_casU64_x L,x_casU64_f L⟩⟩
theorem VT:B2 P L.semrelease Extern.Sync.semrelease:=⟨⟨_,H.f_semrelease,x_semrelease_n L,x_semrelease_b L,x_semrelease_x L,x_semrelease_f L⟩⟩
theorem Ut:B2 P L.semacquire Extern.Sync.semacquire:=⟨⟨_,H.f_semacquire,x_semacquire_n L,x_semacquire_b L,x_semacquire_x L,x_semacquire_f L⟩⟩
theorem QJ:B2 P L.inBubble (λ_=>pure (.bool false)):=⟨⟨_,H.f_inBubble,x_inBubble_n L,x_inBubble_b L,x_inBubble_x L,x_inBubble_f L⟩⟩
end
section
variable {P:Program}{F:Fam}{J:Judge P}{Q:GP}{n:Nat}{L L':Env}{ds:Ld_}{k:Li_}{cs:Lf_}{s s':St}{b:Frame}{main:Bool}
variable {ops:Ao_}{i:Nat}{rest:List Nat}{d:Option Tmp}{f:FuncId}{x y z:Operand}{ats:Array TypeId}{ty t u e tw:TypeId}{pp:String}{af:Ae_}{g:On_}{p q:Ph}
theorem Yl.to{o:Oper}{ρ:Operand->Value}{v v':Value}(h:Yl P o ρ s v)(e:v=v'):Yl P o ρ s v':=e▸h
theorem LL{ad:Addr}(ap:KU p=true)(aq:if Fam.CC p=true then s= .quiet else s.q=false)(ar:p≠ .Fe)(au:∀v wt sm,F.act p v wt sm=some ((v,wt,sm),#[],.ph q))(av:Fam.Je p s=s)
  (aw:ops[i]? =some ⟨d,.convert t u x,ty,pp,af,g⟩) (U:b.roundOf=none) (hw:AI L ops ⟨d,.convert t u x,ty,pp,af,g⟩=some true) (K:((b.kind != .early)&&A9 n d)=true)
  (Y:P.underlying t=some (.pointer tw)) (hu:P.underlying u=some .unsafePointer) (Z:(P.info? tw).map (λi=>decide (i.size=0))=some false) (ay:ev L x=some (.pointer (some ad))) (hb:ad=F.sA∨ad=F.mA)
  (h:JL (AQ P (Fam.Cu p)) (Stop P F q) b n (Av L d (.pointer (some ad))) ds (.inRegion ops rest::k) cs s):
  JL (AQ P (Fam.Cu p)) (Stop P F p) b n L ds (.inRegion ops (i::rest)::k) cs s:=λT O=>by
 simp only [Bool.and_eq_true] at K
 refine(AQ P _).stop (Iy ap rfl rfl aq (λe=>absurd e ar) λv wt sm v' wt' sm' es aA ac=>?_)
 rw [au] at ac;cases ac
 refine⟨_,λw ag=>?_,rfl,by rw [av];exact h _ (O.put K.2 _)⟩
 obtain⟨al,am⟩:∃al,w.cell? ad=some al:=by
  obtain⟨c1,c2,_,_⟩:=Iz ag;rcases hb with e | e <;> rw [e]
  ·exact⟨_,c1⟩
  ·exact⟨_,c2⟩
 have an:=run_convert_to_unsafe (P:=P) (w:=w) Y hu Z am;have az:=events_convert_to_unsafe (P:=P) (w:=w) Y hu Z am;have ao:execOp (⟨T,ds⟩:Act).eval ⟨d,.convert t u x,ty,pp,af,g⟩=(do pure (Next.value (← Go.convert t u (.pointer (some ad))))):=by
  rw [KC];simp only [execOp,O.ev ay]
 rw [BJ U,BJ U,stepG_value (a:=⟨T,ds⟩) (v:= .pointer (some ad)) (w':=w) aw (B5 O hw) (by simpa using K.1) (by rw [ao];simp [an,Result.andThen]),KH ag,DW];have e2:listed P b.fn ⟨T,ds⟩ ⟨d,.convert t u x,ty,pp,af,g⟩ w= #[]:=by
  unfold listed;rw [ao];simp [an,az,Result.evThen,seen_none]
 rw [e2]
end
end Pal
namespace Pal
open Go Go.Conc Go.Conc.Lib
open Go.ConcR.Gen
section
variable {P:Program}{F:Fam}{J:Judge P}{Q:GP}{n:Nat}{L L':Env}{ds:Ld_}{k:Li_}{cs:Lf_}{s s':St}{b:Frame}{main:Bool}
variable {ops:Ao_}{i:Nat}{rest:List Nat}{d:Option Tmp}{f:FuncId}{x y z:Operand}{args:Array Operand}{ats:Array TypeId}{ty t u e tw:TypeId}{pp:String}{af:Ae_}{g:On_}{p q:Ph}{vs:Lv_}
def Z3(P:Program)(b:Frame)(n:Nat)(L:Env)(d:Option Tmp)(ds:Ld_)(todo:Li_)(cs:Lf_)(U:Frame):Prop:=
 ∀(K:Judge P) (O:GP) (v:Value) (s':St),JL K O b n (Av L d v) ds todo cs s'->K.ok O (G (U.finish v) cs) s'
theorem G3{fn:Func}{c:Code}(Y:ops[i]? =some ⟨d,.call ⟨.value (.func f),args,ats⟩,ty,pp,af,g⟩)(hw:AI L ops ⟨d,.call ⟨.value (.func f),args,ats⟩,ty,pp,af,g⟩=some true)(O:((b.kind != .early)&&A9 n d)=true)
  (Z:P.funcs[f]? =some fn) (al:(fn.name== "runtime.NumGoroutine")=false) (hb:fn.body=some c) (am:evs L args.toList=some vs) (av:vs.length<=fn.ntmps)
  (h:∀ac:Frame,Z3 P b n L d ds (.inRegion ops rest::k) cs ac->JL J Q (base f) fn.ntmps (F6 0 vs) [] [.code c] (ac::cs) s):
  JL J Q b n L ds (.inRegion ops (i::rest)::k) cs s:=λT U=>by
 simp only [Bool.and_eq_true] at O
 have an:args.map (Bv T)=vs.toArray:=by
  rw [← Gj U.F5 am];apply Array.ext';simp
 refine Judge.oper Y (B5 U hw) (by simpa using O.1) (.inr λc ao=>by cases ao) ?_;have ap:Dw P f=true:=by unfold Dw;rw [Z];simp [al,hb]
 have hd:lp P (execOp (Bv T) ⟨d,.call ⟨.value (.func f),args,ats⟩,ty,pp,af,g⟩) s (upon J Q b T ds ops i rest k cs d) (K3 J Q b T ds ops i rest k cs):=by
  simp only [execOp,resolve,bind,Sem.bind,Deferred.ofValue,Bv,pure,invoke];have e: #[]++args.map (Bv T)++ #[]=vs.toArray:=by rw [an];simp
  rw [e];refine IT ap ?_;have he:Frame.enter P f vs.toArray .normal=fr (base f) (vs.toArray++Array.replicate (fn.ntmps - vs.length) undef) [] [.code c]:=by
   simp [Frame.enter,fr,Z,hb,base];rfl
  show J.ok Q (G (Frame.enter P f vs.toArray .normal) _) s;rw [he];refine h _ (λaw ay v s' aq=>?_) _ ⟨by simp;omega,λt v ar=>?_⟩
  ·rw [Gk (o:=⟨d,.call ⟨.value (.func f),args,ats⟩,ty,pp,af,g⟩) _ _ _ _ _ Y];exact aq _ (U.put O.2 v)
  ·obtain⟨_,K⟩:=Jj ar;have au:t<vs.length:=by
    rcases Nat.lt_or_ge t vs.length with ag | ag
    ·exact ag
    ·simp at K;have:=(List.getElem?_eq_some_iff.1 K).1;omega
   rw [Array.getD_eq_getD_getElem?,Array.getElem?_append_left (by simpa using au)];simp at K;simp [K]
 exact hd
theorem Yl.ext{e:Av_->Sem Value}{v:Value}{ρ:Operand->Value}(he:B2 P f e)(O:args.map ρ=vs.toArray)(h:e vs.toArray= .pure v):Yl P ⟨d,.call ⟨.value (.func f),args,ats⟩,ty,pp,af,g⟩ ρ s v∨ρ (.func f)≠ .func (.func f) #[] #[]:=by
 by_cases K:ρ (.func f)= .func (.func f) #[] #[]
 ·left;obtain⟨fn,U,Y,Z,ac,ag⟩:=he.h;unfold Yl;simp only [execOp,resolve,bind,Sem.bind,Deferred.ofValue,K,pure,invoke];have al: #[]++args.map ρ++ #[]=vs.toArray:=by rw [O];simp
  rw [al];have am:fn.body=none:=by simpa using Z
  simp only [callFunc,bind,Sem.bind,program,lp,U,Y,am,Option.isNone_none,Bool.false_eq_true,if_false,if_true,mark,ac,ag,h,pure];exact⟨.inr ⟨f,rfl⟩,trivial,trivial⟩
 ·exact .inr K
theorem JL.ext{e:Av_->Sem Value}{v:Value}(O:ops[i]? =some ⟨d,.call ⟨.value (.func f),args,ats⟩,ty,pp,af,g⟩)(hw:AI L ops ⟨d,.call ⟨.value (.func f),args,ats⟩,ty,pp,af,g⟩=some true)(U:BK b n ⟨d,.call ⟨.value (.func f),args,ats⟩,ty,pp,af,g⟩=true)
  (he:B2 P f e) (Y:evs L args.toList=some vs) (Z:e vs.toArray= .pure v) (h:JL J Q b n (Av L d v) ds (.inRegion ops rest::k) cs s):JL J Q b n L ds (.inRegion ops (i::rest)::k) cs s:=
 AZ O hw U (λρ K=>by
  have ac:args.map ρ=vs.toArray:=by
   rw [← Gj K Y]
   apply Array.ext';simp
  rcases Yl.ext (s:=s) (d:=d) (ats:=ats) (ty:=ty) (pp:=pp) (af:=af) (g:=g) he ac Z with q | q
  ·exact q
  ·exact absurd (K (.func f) _ rfl) q) h
end
section
variable {P:Program}{L:WgLink}(H:WgLib P L){F:Fam}{n:Nat}{M:Env}{ds:Ld_}{k:Li_}{cs:Lf_}{s:St}{b:Frame}
variable {ops:Ao_}{i:Nat}{rest:List Nat}{d:Option Tmp}{x y z:Operand}{ats:Array TypeId}{ty:TypeId}{pp:String}{af:Ae_}{g:On_}{p q:Ph}
include H
theorem V7(K:ops[i]? =some ⟨d,.call ⟨.value (.func L.uAdd),#[x,y],ats⟩,ty,pp,af,g⟩)(hw:AI M ops ⟨d,.call ⟨.value (.func L.uAdd),#[x,y],ats⟩,ty,pp,af,g⟩=some true)(O:((b.kind != .early)&&A9 n d)=true)
  (U:ev M x=some (.pointer (some F.sA))) (Y:ev M y=some (.int .u64 18446744069414584320))
  (Z:JL (AQ P false) (Stop P F .GH) b n (Av M d (.int .u64 (Fam.word 0 1))) ds (.inRegion ops rest::k) cs .quiet)
  (ac:∀v wt:Nat,v<2147483647->wt<=1->¬(v=0/\wt=1)->JL (HZ P) (IK P 1) b n (Av M d (.int .u64 (Fam.word v wt))) ds (.inRegion ops rest::k) cs .quiet):
  JL (AQ P false) (Stop P F .Hc) b n M ds (.inRegion ops (i::rest)::k) cs .quiet:=by
 refine G3 (vs:= [.pointer (some F.sA),.int .u64 18446744069414584320]) K hw O H.f_uAdd (nm_uAdd L) rfl (by simp [evs,U,Y]) (Nat.le_of_ble_eq_true rfl) λan back=>JL.go 8 rfl (AZ rfl rfl rfl (λρ h=>Yl.fieldAddr H.underlying_tAU rfl (F1 H.sizeOf_tU64) (h _ _ rfl)) ?_);refine JL.go 1 rfl (XI rfl rfl rfl rfl (R8 H) rfl rfl ?_ λv wt ag al am=>?_)
 ·refine AZ rfl rfl rfl (λρ h=>Yl.assign (h _ _ rfl)) (JL.done ?_);exact JL.ret rfl rfl (Bs.one H.f_uAdd rfl rfl) (back _ _ _ _ Z)
 ·refine AZ rfl rfl rfl (λρ h=>Yl.assign (h _ _ rfl)) (JL.done ?_);exact JL.ret rfl rfl (Bs.one H.f_uAdd rfl rfl) (back _ _ _ _ (ac v wt ag al am))
theorem Wm{j:Nat}(K:s.q=false)(O:ops[i]? =some ⟨d,.call ⟨.value (.func L.uAdd),#[x,y],ats⟩,ty,pp,af,g⟩)(hw:AI M ops ⟨d,.call ⟨.value (.func L.uAdd),#[x,y],ats⟩,ty,pp,af,g⟩=some true)(U:((b.kind != .early)&&A9 n d)=true)
  (Y:ev M x=some (.pointer (some F.sA))) (Z:ev M y=some (.int .u64 4294967296))
  (ac:JL (AQ P true) (Stop P F (.Ip j)) b n (Av M d (.int .u64 (Fam.word 1 0))) ds (.inRegion ops rest::k) cs s)
  (ag:∀v:Nat,1<=v->v<2147483647->JL (AQ P true) (Stop P F (.GQ j)) b n (Av M d (.int .u64 (Fam.word (v+1) 0))) ds (.inRegion ops rest::k) cs s):
  JL (AQ P true) (Stop P F (.Ii j)) b n M ds (.inRegion ops (i::rest)::k) cs s:=by
 refine G3 (vs:= [.pointer (some F.sA),.int .u64 4294967296]) O hw U H.f_uAdd (nm_uAdd L) rfl (by simp [evs,Y,Z]) (Nat.le_of_ble_eq_true rfl) λan back=>JL.go 8 rfl (AZ rfl rfl rfl (λρ h=>Yl.fieldAddr H.underlying_tAU rfl (F1 H.sizeOf_tU64) (h _ _ rfl)) ?_);refine JL.go 1 rfl (Xi K rfl rfl rfl rfl (R8 H) rfl rfl ?_ λv al am=>?_)
 ·refine AZ rfl rfl rfl (λρ h=>Yl.assign (h _ _ rfl)) (JL.done ?_);exact JL.ret rfl rfl (Bs.one H.f_uAdd rfl rfl) (back _ _ _ _ ac)
 ·refine AZ rfl rfl rfl (λρ h=>Yl.assign (h _ _ rfl)) (JL.done ?_);exact JL.ret rfl rfl (Bs.one H.f_uAdd rfl rfl) (back _ _ _ _ (ag v al am))
theorem JL.uLoad(K:KU p=true)(O:if Fam.CC p=true then s= .quiet else s.q=false)(U:p≠ .Fe)(Y:Fam.Je p s=s)(Z:∀v wt sm r,F.act p v wt sm=some r->r.1=(v,wt,sm)/\r.2.1= #[Fam.B7 F.sA])(ac:ops[i]? =some ⟨d,.call ⟨.value (.func L.uLoad),#[x],ats⟩,ty,pp,af,g⟩)(hw:AI M ops ⟨d,.call ⟨.value (.func L.uLoad),#[x],ats⟩,ty,pp,af,g⟩=some true)(ag:((b.kind != .early)&&A9 n d)=true)
  (al:ev M x=some (.pointer (some F.sA)))
  (h:∀v wt sm r,F.act p v wt sm=some r->∃q,r.2.2= .ph q/\JL (AQ P (Fam.Cu p)) (Stop P F q) b n (Av M d (.int .u64 (Fam.word v wt))) ds (.inRegion ops rest::k) cs s):
  JL (AQ P (Fam.Cu p)) (Stop P F p) b n M ds (.inRegion ops (i::rest)::k) cs s:=by
 refine G3 (vs:= [.pointer (some F.sA)]) ac hw ag H.f_uLoad (nm_uLoad L) rfl (by simp [evs,al]) (Nat.le_of_ble_eq_true rfl) λap back=>JL.go 8 rfl (AZ rfl rfl rfl (λρ h=>Yl.fieldAddr H.underlying_tAU rfl (F1 H.sizeOf_tU64) (h _ _ rfl)) ?_);refine Y7 K O U Y Z rfl rfl rfl rfl (Wt H) rfl λv wt sm r am=>?_;obtain⟨q,an,ao⟩:=h v wt sm r am;refine⟨q,an,?_⟩
 ·refine AZ rfl rfl rfl (λρ h=>Yl.assign (h _ _ rfl)) (JL.done ?_);exact JL.ret rfl rfl (Bs.one H.f_uLoad rfl rfl) (back _ _ _ _ ao)
theorem JL.uStore(K:ops[i]? =some ⟨d,.call ⟨.value (.func L.uStore),#[x,y],ats⟩,ty,pp,af,g⟩)(hw:AI M ops ⟨d,.call ⟨.value (.func L.uStore),#[x,y],ats⟩,ty,pp,af,g⟩=some true)(O:((b.kind != .early)&&A9 n d)=true)
  (U:ev M x=some (.pointer (some F.sA))) (Y:ev M y=some (.int .u64 0))
  (h:JL (AQ P false) (Stop P F .Fe) b n (Av M d (.tuple #[])) ds (.inRegion ops rest::k) cs .quiet):
  JL (AQ P false) (Stop P F .G5) b n M ds (.inRegion ops (i::rest)::k) cs .quiet:=by
 refine G3 (vs:= [.pointer (some F.sA),.int .u64 0]) K hw O H.f_uStore (nm_uStore L) rfl (by simp [evs,U,Y]) (Nat.le_of_ble_eq_true rfl) λZ back=>JL.go 3 rfl (AZ rfl rfl rfl (λρ h=>Yl.fieldAddr H.underlying_tAU rfl (F1 H.sizeOf_tU64) (h _ _ rfl)) ?_);refine JL.go 1 rfl (YV rfl rfl rfl rfl (Vl H) rfl rfl ?_);exact JL.done (JL.fin rfl rfl (Bs.none H.f_uStore rfl) (back _ _ _ _ h))
theorem JL.uCas{m:Nat}(K:s.q=false)(O:ops[i]? =some ⟨d,.call ⟨.value (.func L.uCas),#[x,y,z],ats⟩,ty,pp,af,g⟩)(hw:AI M ops ⟨d,.call ⟨.value (.func L.uCas),#[x,y,z],ats⟩,ty,pp,af,g⟩=some true)(U:((b.kind != .early)&&A9 n d)=true)
  (Y:ev M x=some (.pointer (some F.sA))) (Z:ev M y=some (.int .u64 (Fam.word m 0))) (ac:ev M z=some (.int .u64 (Fam.word m 1)))
  (ag:JL (AQ P true) (Stop P F .Im) b n (Av M d (.bool true)) ds (.inRegion ops rest::k) cs s)
  (al:JL (AQ P true) (Stop P F (.FP (m - 1))) b n (Av M d (.bool false)) ds (.inRegion ops rest::k) cs s):
  JL (AQ P true) (Stop P F (.Ha m)) b n M ds (.inRegion ops (i::rest)::k) cs s:=by
 refine G3 (vs:= [.pointer (some F.sA),.int .u64 (Fam.word m 0),.int .u64 (Fam.word m 1)]) O hw U H.f_uCas (nm_uCas L) rfl (by simp [evs,Y,Z,ac]) (Nat.le_of_ble_eq_true rfl) λam back=>JL.go 8 rfl (AZ rfl rfl rfl (λρ h=>Yl.fieldAddr H.underlying_tAU rfl (F1 H.sizeOf_tU64) (h _ _ rfl)) ?_);refine JL.go 2 rfl (Ym (m:=m) K rfl rfl rfl rfl (Xc H) rfl rfl rfl ?_ ?_)
 ·refine AZ rfl rfl rfl (λρ h=>Yl.assign (h _ _ rfl)) (JL.done ?_);exact JL.ret rfl rfl (Bs.one H.f_uCas rfl rfl) (back _ _ _ _ ag)
 ·refine AZ rfl rfl rfl (λρ h=>Yl.assign (h _ _ rfl)) (JL.done ?_);exact JL.ret rfl rfl (Bs.one H.f_uCas rfl rfl) (back _ _ _ _ al)
end
end Pal
namespace Pal
open Go Go.Conc Go.Conc.Lib
open Go.ConcR.Gen
theorem KW{v wt:Nat}(K:v<2147483648)(O:wt<=1):IntKind.u64.wrap (BitVec.ofInt IntKind.u64.bits (Fam.word v wt)&&& BitVec.ofInt IntKind.u64.bits 2147483648).toNat=0:=by
 have:=Go.ConcN.st_flag v wt K O;simpa [bits,Fam.word,Fam.KK] using this
theorem K8{v wt:Nat}(K:v<2147483648)(O:wt<=1):IntKind.u64.wrap (BitVec.ofInt IntKind.u64.bits (Fam.word v wt)&&& BitVec.ofInt IntKind.u64.bits 2147483647).toNat=(wt:Int):=by
 have:=Go.ConcN.st_waiters v wt K O;simpa [bits,Fam.word,Fam.KK] using this
theorem KI{v wt:Nat}(K:wt<=1):(Fam.word v wt).fdiv (2 ^ (min (32:Int).toNat IntKind.u64.bits))=(v:Int):=by
 have e:(2:Int) ^ (min (32:Int).toNat IntKind.u64.bits)=4294967296:=by decide
 rw [e,Int.fdiv_eq_ediv_of_nonneg _ (by decide)];simp only [Fam.word,Fam.KK];omega
theorem wrap_i32{v:Nat}(K:v<2147483648):IntKind.i32.wrap (v:Int)=v:=by
 simp only [IntKind.wrap,IntKind.bits,IntKind.signed];simp;split <;> omega
theorem wrap_u32{v:Nat}(K:v<=1):IntKind.u32.wrap (v:Int)=v:=by
 simp only [IntKind.wrap,IntKind.bits,IntKind.signed];simp;omega
theorem VF{F:Fam}:∀v wt sm r,F.act .GH v wt sm=some r->r.1=(v,wt,sm)/\r.2.1= #[Fam.B7 F.sA]:=by
 intro v wt sm r h;simp only [Fam.act] at h;split at h
 ·rename_i K;obtain⟨rfl,rfl⟩:=K;cases h;exact⟨rfl,rfl⟩
 ·cases h
theorem WB{F:Fam}{v wt sm:Nat}{r}(h:F.act .GH v wt sm=some r):v=0/\wt=1/\r.2.2= .ph .G5:=by
 simp only [Fam.act] at h;split at h
 ·rename_i K;cases h;exact⟨K.1,K.2,rfl⟩
 ·cases h
section
variable {P:Program}{L:WgLink}(H:WgLib P L){F:Fam}{n:Nat}{M:Env}{ds:Ld_}{k:Li_}{cs:Lf_}{s:St}{b:Frame}
variable {ops:Ao_}{i:Nat}{rest:List Nat}{d:Option Tmp}{x y z:Operand}{ats:Array TypeId}{ty:TypeId}{pp:String}{af:Ae_}{g:On_}{p q:Ph}
include H
theorem VA(U:s.q=false)(Y:ops[i]? =some ⟨d,.call ⟨.value (.func L.add),#[x,y],ats⟩,ty,pp,af,g⟩)(hw:AI M ops ⟨d,.call ⟨.value (.func L.add),#[x,y],ats⟩,ty,pp,af,g⟩=some true)(Z:((b.kind != .early)&&A9 n d)=true)
  (ac:ev M x=some (.pointer (some F.sA))) (ag:ev M y=some (.int .i64 (-1)))
  (h:JL (HZ P) (IK P 0) b n (Av M d (.tuple #[])) ds (.inRegion ops rest::k) cs .quiet):
  JL (AQ P false) (Stop P F .HI) b n M ds (.inRegion ops (i::rest)::k) cs s:=by
 refine G3 (vs:= [.pointer (some F.sA),.int .i64 (-1)]) Y hw Z H.f_add (nm_add L) rfl (by simp [evs,ac,ag]) (Nat.le_of_ble_eq_true rfl) λam back=>JL.go 11 rfl (LL (p:= .HI) (q:= .Gr) (ad:=F.sA) rfl U (by simp) (λ_ _ _=>rfl) rfl rfl rfl rfl rfl H.underlying_tWgP H.underlying_tUP H.room_tWg rfl (.inl rfl) ?_)
 refine OB (p:= .Gr) (q:= .II) (mk:= .releaseMerge) (ad:=F.sA) (vs:= [.pointer (some F.sA)]) rfl U (by simp) (λ_ _ _=>rfl) rfl rfl rfl rfl (by simp) (Qo H) rfl rfl (JL.go 3 rfl ?_);refine LG (p:= .II) (q:= .Hc) rfl rfl (by simp) (λ_ _ _=>rfl) rfl rfl rfl rfl rfl (by simp) (MA H) (JL.go 2 rfl ?_);refine JL.defer (vs:= []) rfl rfl rfl rfl rfl (JL.go 8 rfl ?_);refine JL.ext (vs:= []) rfl rfl rfl (QJ H) rfl rfl (JL.go 7 rfl ?_);refine AZ rfl rfl rfl (λρ h=>Yl.fieldAddr H.underlying_tWg rfl (F1 H.sizeOf_tAU) (h _ _ rfl)) (JL.go 1 rfl ?_);refine AZ rfl rfl rfl (λρ h=>EZ H.underlying_t3 H.underlying_tU64 (h _ _ rfl)) ?_
 refine AZ (v:= .int .u64 18446744069414584320) rfl rfl rfl (λρ h=>(Yl.shl (h _ _ rfl) (h _ _ rfl) (by decide)).to (congrArg _ (by decide))) (V7 H rfl rfl rfl rfl rfl ?_ λv wt an K ao=>?_)
 ·refine AZ rfl rfl rfl (λρ h=>Yl.assign (h _ _ rfl)) (JL.go 5 rfl ?_);refine AZ (v:= .int .u64 0) rfl rfl rfl (λρ h=>(Yl.and (h _ _ rfl) (h _ _ rfl)).to (congrArg _ (KW (v:=0) (wt:=1) (by decide) (by decide)))) (AZ rfl rfl rfl (λρ h=>Yl.neq (h _ _ rfl) (h _ _ rfl)) ?_);refine JL.go 10 rfl (AZ (v:= .int .u64 (0:Nat)) rfl rfl rfl (λρ h=>(Yl.shr (h _ _ rfl) (h _ _ rfl) (by decide)).to (congrArg _ (KI (v:=0) (wt:=1) (by decide)))) ?_);refine AZ (v:= .int .i32 (0:Nat)) rfl rfl rfl (λρ h=>(EZ H.underlying_tU64 H.underlying_t21 (h _ _ rfl)).to (congrArg _ (wrap_i32 (by decide)))) ?_
  refine JL.go 5 rfl (AZ (v:= .int .u64 (1:Nat)) rfl rfl rfl (λρ h=>(Yl.and (h _ _ rfl) (h _ _ rfl)).to (congrArg _ (K8 (v:=0) (wt:=1) (by decide) (by decide)))) ?_);refine AZ (v:= .int .u32 (1:Nat)) rfl rfl rfl (λρ h=>(EZ H.underlying_tU64 H.underlying_tU32 (h _ _ rfl)).to (congrArg _ (wrap_u32 (by decide)))) ?_
  refine JL.go 30 rfl (AZ rfl rfl rfl (λρ h=>Yl.neq (h _ _ rfl) (h _ _ rfl)) ?_);refine JL.go 30 rfl (AZ rfl rfl rfl (λρ h=>Yl.fieldAddr H.underlying_tWg rfl (F1 H.sizeOf_tAU) (h _ _ rfl)) ?_);refine JL.uLoad H (p:= .GH) rfl rfl (by simp) rfl VF rfl rfl rfl rfl λv wt sm r al=>?_;obtain⟨rfl,rfl,e⟩:=WB al;refine⟨.G5,e,?_⟩;refine JL.go 1 rfl (AZ (v:= .bool false) rfl rfl rfl (λρ h=>(Yl.neq (h _ _ rfl) (h _ _ rfl)).to (by simp)) ?_);refine JL.go 7 rfl (AZ rfl rfl rfl (λρ h=>Yl.fieldAddr H.underlying_tWg rfl (F1 H.sizeOf_tAU) (h _ _ rfl)) ?_);refine JL.uStore H rfl rfl rfl rfl rfl (JL.go 9 rfl ?_);refine Iw (JL.go 4 rfl ?_);refine AZ rfl rfl rfl (λρ h=>Yl.neq (h _ _ rfl) (h _ _ rfl)) (JL.go 8 rfl ?_);refine AZ rfl rfl rfl (λρ h=>Yl.fieldAddr H.underlying_tWg rfl (F1 H.sizeOf_tU32) (h _ _ rfl)) (V4 (vs:= [.pointer (some F.mA),.bool false,.int .i64 0]) rfl rfl rfl rfl (VT H) rfl rfl ?_);refine JL.go 4 rfl (AZ (v:= .int .u32 ((0:Nat):Int)) rfl rfl rfl (λρ h=>(Yl.sub (h _ _ rfl) (h _ _ rfl)).to (congrArg _ (by decide))) ?_);refine JL.go 2 rfl (JL.again ?_);refine JL.go 4 rfl (AZ rfl rfl rfl (λρ h=>Yl.neq (h _ _ rfl) (h _ _ rfl)) ?_);refine JL.go 3 rfl (JL.out rfl (JO.M5 rfl (IU H) (JO.leave rfl (Bs.none H.f_add rfl) (back _ _ _ _ h))))
 ·refine AZ rfl rfl rfl (λρ h=>Yl.assign (h _ _ rfl)) (JL.go 5 rfl ?_);refine AZ (v:= .int .u64 0) rfl rfl rfl (λρ h=>(Yl.and (h _ _ rfl) (h _ _ rfl)).to (congrArg _ (KW (v:=v) (wt:=wt) (by omega) K))) (AZ rfl rfl rfl (λρ h=>Yl.neq (h _ _ rfl) (h _ _ rfl)) ?_);refine JL.go 10 rfl (AZ (v:= .int .u64 (v:Nat)) rfl rfl rfl (λρ h=>(Yl.shr (h _ _ rfl) (h _ _ rfl) (by decide)).to (congrArg _ (KI (v:=v) (wt:=wt) K))) ?_);refine AZ (v:= .int .i32 (v:Nat)) rfl rfl rfl (λρ h=>(EZ H.underlying_tU64 H.underlying_t21 (h _ _ rfl)).to (congrArg _ (wrap_i32 (by omega)))) ?_
  refine JL.go 5 rfl (AZ (v:= .int .u64 (wt:Nat)) rfl rfl rfl (λρ h=>(Yl.and (h _ _ rfl) (h _ _ rfl)).to (congrArg _ (K8 (v:=v) (wt:=wt) (by omega) K))) ?_);refine AZ (v:= .int .u32 (wt:Nat)) rfl rfl rfl (λρ h=>(EZ H.underlying_tU64 H.underlying_tU32 (h _ _ rfl)).to (congrArg _ (wrap_u32 K))) ?_
  refine JL.go 22 rfl (AZ (v:= .bool false) rfl rfl rfl (λρ h=>(Yl.lss (h _ _ rfl) (h _ _ rfl)).to (by simp)) ?_);refine JL.go 6 rfl ?_;by_cases O:wt=0
  ·refine AZ rfl rfl rfl (λρ h=>Yl.move (h _ _ rfl)) (AZ (v:= .bool false) rfl rfl rfl (λρ h=>(Yl.neq (h _ _ rfl) (h _ _ rfl)).to (by simp [O])) ?_);refine JL.go 16 rfl ?_;by_cases ap:0<v
   ·refine AZ rfl rfl rfl (λρ h=>Yl.move (h _ _ rfl)) (AZ (v:= .bool true) rfl rfl rfl (λρ h=>(Yl.gtr (h _ _ rfl) (h _ _ rfl)).to (by simp <;> omega)) ?_);refine JL.go 6 rfl (IV rfl (JO.M5 rfl (IU H) (JO.leave rfl (Bs.none H.f_add rfl) (back _ _ _ _ h))))
   ·refine AZ rfl rfl rfl (λρ h=>Yl.move (h _ _ rfl)) (AZ (v:= .bool false) rfl rfl rfl (λρ h=>(Yl.gtr (h _ _ rfl) (h _ _ rfl)).to (by simp <;> omega)) ?_);refine JL.go 2 rfl (AZ (v:= .bool true) rfl rfl rfl (λρ h=>(Yl.eql (h _ _ rfl) (h _ _ rfl)).to (by simp [O])) ?_);refine JL.go 3 rfl (IV rfl (JO.M5 rfl (IU H) (JO.leave rfl (Bs.none H.f_add rfl) (back _ _ _ _ h))))
  ·refine AZ rfl rfl rfl (λρ h=>Yl.move (h _ _ rfl)) (AZ (v:= .bool true) rfl rfl rfl (λρ h=>(Yl.neq (h _ _ rfl) (h _ _ rfl)).to (by simp [O])) ?_);refine JL.go 17 rfl (AZ (v:= .bool true) rfl rfl rfl (λρ h=>(Yl.gtr (h _ _ rfl) (h _ _ rfl)).to (by simp <;> omega)) ?_);refine JL.go 6 rfl (IV rfl (JO.M5 rfl (IU H) (JO.leave rfl (Bs.none H.f_add rfl) (back _ _ _ _ h))))
theorem U6{j:Nat}(K:s.q=false)(O:ops[i]? =some ⟨d,.call ⟨.value (.func L.add),#[x,y],ats⟩,ty,pp,af,g⟩)(hw:AI M ops ⟨d,.call ⟨.value (.func L.add),#[x,y],ats⟩,ty,pp,af,g⟩=some true)(U:((b.kind != .early)&&A9 n d)=true)
  (Y:ev M x=some (.pointer (some F.sA))) (Z:ev M y=some (.int .i64 1))
  (h:JL (AQ P true) (Stop P F (.FF j)) b n (Av M d (.tuple #[])) ds (.inRegion ops rest::k) cs s):
  JL (AQ P true) (Stop P F (.F9 j)) b n M ds (.inRegion ops (i::rest)::k) cs s:=by
 refine G3 (vs:= [.pointer (some F.sA),.int .i64 1]) O hw U H.f_add (nm_add L) rfl (by simp [evs,Y,Z]) (Nat.le_of_ble_eq_true rfl) λac back=>JL.go 12 rfl (LG (p:= .F9 j) (q:= .Ii j) rfl K (by simp) (λ_ _ _=>rfl) rfl rfl rfl rfl rfl (by simp) (MA H) ?_);refine JL.go 2 rfl (JL.defer (vs:= []) rfl rfl rfl rfl rfl ?_);refine JL.go 8 rfl (JL.ext (vs:= []) rfl rfl rfl (QJ H) rfl rfl ?_);refine JL.go 7 rfl (AZ rfl rfl rfl (λρ h=>Yl.fieldAddr H.underlying_tWg rfl (F1 H.sizeOf_tAU) (h _ _ rfl)) ?_);refine JL.go 1 rfl (AZ rfl rfl rfl (λρ h=>EZ H.underlying_t3 H.underlying_tU64 (h _ _ rfl)) ?_)
 refine AZ (v:= .int .u64 4294967296) rfl rfl rfl (λρ h=>(Yl.shl (h _ _ rfl) (h _ _ rfl) (by decide)).to (congrArg _ (by decide))) (Wm H K rfl rfl rfl rfl rfl ?_ λv ag al=>?_)
 ·refine AZ rfl rfl rfl (λρ h=>Yl.assign (h _ _ rfl)) (JL.go 5 rfl ?_);refine AZ (v:= .int .u64 0) rfl rfl rfl (λρ h=>(Yl.and (h _ _ rfl) (h _ _ rfl)).to (congrArg _ (KW (v:=1) (wt:=0) (by decide) (by decide)))) (AZ rfl rfl rfl (λρ h=>Yl.neq (h _ _ rfl) (h _ _ rfl)) ?_);refine JL.go 10 rfl (AZ (v:= .int .u64 (1:Nat)) rfl rfl rfl (λρ h=>(Yl.shr (h _ _ rfl) (h _ _ rfl) (by decide)).to (congrArg _ (KI (v:=1) (wt:=0) (by decide)))) ?_);refine AZ (v:= .int .i32 (1:Nat)) rfl rfl rfl (λρ h=>(EZ H.underlying_tU64 H.underlying_t21 (h _ _ rfl)).to (congrArg _ (wrap_i32 (by decide)))) ?_
  refine JL.go 5 rfl (AZ (v:= .int .u64 (0:Nat)) rfl rfl rfl (λρ h=>(Yl.and (h _ _ rfl) (h _ _ rfl)).to (congrArg _ (K8 (v:=1) (wt:=0) (by decide) (by decide)))) ?_);refine AZ (v:= .int .u32 (0:Nat)) rfl rfl rfl (λρ h=>(EZ H.underlying_tU64 H.underlying_tU32 (h _ _ rfl)).to (congrArg _ (wrap_u32 (by decide)))) ?_
  refine JL.go 12 rfl (AZ (v:= .int .i32 1) rfl rfl rfl (λρ h=>(EZ H.underlying_t3 H.underlying_t21 (h _ _ rfl)).to (congrArg _ (by decide))) ?_)
  refine AZ (v:= .bool true) rfl rfl rfl (λρ h=>(Yl.eql (h _ _ rfl) (h _ _ rfl)).to (by simp)) (JL.go 6 rfl ?_);refine AZ rfl rfl rfl (λρ h=>Yl.fieldAddr H.underlying_tWg rfl (F1 H.sizeOf_tU32) (h _ _ rfl)) (LL (p:= .Ip j) (q:= .HB j) (ad:=F.mA) rfl K (by simp) (λ_ _ _=>rfl) rfl rfl rfl rfl rfl H.underlying_tPU32 H.underlying_tUP H.room_tU32 rfl (.inr rfl) ?_)
  refine OB (p:= .HB j) (q:= .GQ j) (mk:= .read) (ad:=F.mA) (vs:= [.pointer (some F.mA)]) rfl K (by simp) (λ_ _ _=>rfl) rfl rfl rfl rfl (by simp) (V1 H) rfl rfl (JL.go 5 rfl ?_);refine AZ (v:= .bool false) rfl rfl rfl (λρ h=>(Yl.lss (h _ _ rfl) (h _ _ rfl)).to (by simp)) (JL.go 7 rfl ?_);refine AZ (v:= .bool false) rfl rfl rfl (λρ h=>(Yl.neq (h _ _ rfl) (h _ _ rfl)).to (by simp)) (JL.go 17 rfl ?_);refine AZ (v:= .bool true) rfl rfl rfl (λρ h=>(Yl.gtr (h _ _ rfl) (h _ _ rfl)).to (by simp)) (JL.go 6 rfl ?_);exact IV rfl (JO.Sk K rfl (IU H) (JO.leave rfl (Bs.none H.f_add rfl) (back _ _ _ _ h)))
 ·refine AZ rfl rfl rfl (λρ h=>Yl.assign (h _ _ rfl)) (JL.go 5 rfl ?_);refine AZ (v:= .int .u64 0) rfl rfl rfl (λρ h=>(Yl.and (h _ _ rfl) (h _ _ rfl)).to (congrArg _ (KW (v:=(v+1)) (wt:=0) (by omega) (by decide)))) (AZ rfl rfl rfl (λρ h=>Yl.neq (h _ _ rfl) (h _ _ rfl)) ?_);refine JL.go 10 rfl (AZ (v:= .int .u64 ((v+1):Nat)) rfl rfl rfl (λρ h=>(Yl.shr (h _ _ rfl) (h _ _ rfl) (by decide)).to (congrArg _ (KI (v:=(v+1)) (wt:=0) (by decide)))) ?_);refine AZ (v:= .int .i32 ((v+1):Nat)) rfl rfl rfl (λρ h=>(EZ H.underlying_tU64 H.underlying_t21 (h _ _ rfl)).to (congrArg _ (wrap_i32 (by omega)))) ?_
  refine JL.go 5 rfl (AZ (v:= .int .u64 (0:Nat)) rfl rfl rfl (λρ h=>(Yl.and (h _ _ rfl) (h _ _ rfl)).to (congrArg _ (K8 (v:=(v+1)) (wt:=0) (by omega) (by decide)))) ?_);refine AZ (v:= .int .u32 (0:Nat)) rfl rfl rfl (λρ h=>(EZ H.underlying_tU64 H.underlying_tU32 (h _ _ rfl)).to (congrArg _ (wrap_u32 (by decide)))) ?_
  refine JL.go 12 rfl (AZ (v:= .int .i32 1) rfl rfl rfl (λρ h=>(EZ H.underlying_t3 H.underlying_t21 (h _ _ rfl)).to (congrArg _ (by decide))) ?_)
  refine AZ (v:= .bool false) rfl rfl rfl (λρ h=>(Yl.eql (h _ _ rfl) (h _ _ rfl)).to (by simp <;> omega)) (JL.go 8 rfl ?_);refine AZ (v:= .bool false) rfl rfl rfl (λρ h=>(Yl.lss (h _ _ rfl) (h _ _ rfl)).to (by simp <;> omega)) (JL.go 7 rfl ?_);refine AZ (v:= .bool false) rfl rfl rfl (λρ h=>(Yl.neq (h _ _ rfl) (h _ _ rfl)).to (by simp)) (JL.go 17 rfl ?_);refine AZ (v:= .bool true) rfl rfl rfl (λρ h=>(Yl.gtr (h _ _ rfl) (h _ _ rfl)).to (by simp <;> omega)) (JL.go 6 rfl ?_);exact IV rfl (JO.Sk K rfl (IU H) (JO.leave rfl (Bs.none H.f_add rfl) (back _ _ _ _ h)))
omit H in
theorem U8{m:Nat}:∀v wt sm r,F.act (.FP m) v wt sm=some r->r.1=(v,wt,sm)/\r.2.1= #[Fam.B7 F.sA]:=by
 intro v wt sm r h;simp only [Fam.act] at h;split at h
 ·rename_i K;obtain⟨_,rfl⟩:=K;cases h;exact⟨rfl,rfl⟩
 ·cases h
omit H in
theorem WN{m v wt sm:Nat}{r}(h:F.act (.FP m) v wt sm=some r):v<=m/\wt=0/\r.2.2=if v=0 then .ph .FU else .ph (.Ha v):=by
 simp only [Fam.act] at h;split at h
 ·rename_i K;cases h;exact⟨K.1,K.2,rfl⟩
 ·cases h
omit H in
theorem UQ:∀v wt sm r,F.act .G6 v wt sm=some r->r.1=(v,wt,sm)/\r.2.1= #[Fam.B7 F.sA]:=by
 intro v wt sm r h;simp only [Fam.act] at h;split at h
 ·rename_i K;obtain⟨rfl,rfl⟩:=K;cases h;exact⟨rfl,rfl⟩
 ·cases h
omit H in
theorem Vj{v wt sm:Nat}{r}(h:F.act .G6 v wt sm=some r):v=0/\wt=0/\r.2.2= .ph .FU:=by
 simp only [Fam.act] at h;split at h
 ·rename_i K;cases h;exact⟨K.1,K.2,rfl⟩
 ·cases h
omit H in
theorem VC{v:Nat}(K:v<2147483648):IntKind.u64.wrap (Fam.word v 0+1)=Fam.word v 1:=by
 simp only [Fam.word,Fam.KK,IntKind.wrap,IntKind.bits,IntKind.signed];simp;omega
theorem JL.wait(an:F.n<2147483648)(K:s.q=false)(ao:ops[i]? =some ⟨d,.call ⟨.value (.func L.wait),#[x],ats⟩,ty,pp,af,g⟩)(hw:AI M ops ⟨d,.call ⟨.value (.func L.wait),#[x],ats⟩,ty,pp,af,g⟩=some true)(ap:((b.kind != .early)&&A9 n d)=true)
  (aq:ev M x=some (.pointer (some F.sA)))
  {Q:GP} (al:∀g s,(GC P).ok Q g s->F.fin g s)
  (h:∀E' f,Le s.E E'->E' F.fd=none->(∀b,E' b≠none->s.H b=none)->(∀k,k<F.n->F.msg k (f k) E')->JL (GC P) Q b n (Av M d (.tuple #[])) ds (.inRegion ops rest::k) cs ⟨E',F.Ju s.H f,false⟩):
  JL (AQ P true) (Stop P F .Db) b n M ds (.inRegion ops (i::rest)::k) cs s:=by
 refine G3 (vs:= [.pointer (some F.sA)]) ao hw ap H.f_wait (nm_wait L) rfl (by simp [evs,aq]) (Nat.le_of_ble_eq_true rfl) λav back=>JL.go 3 rfl (LG (p:= .Db) (q:= .FP F.n) rfl K (by simp) (λ_ _ _=>rfl) rfl rfl rfl rfl rfl (by simp) (MA H) ?_);refine JL.go 2 rfl (Iw ?_);refine Fi (L':= [(0,.pointer (some F.sA))]) ⟨rfl,trivial⟩ ?_;generalize F.n=m at an ⊢
 induction m using Nat.strongRecOn with
 | _ m ar=>?_
 refine JL.go 5 rfl (AZ rfl rfl rfl (λρ h=>Yl.fieldAddr H.underlying_tWg rfl (F1 H.sizeOf_tAU) (h _ _ rfl)) ?_);refine JL.uLoad H (p:= .FP m) rfl K (by simp) rfl U8 rfl rfl rfl rfl λv wt sm r U=>?_;obtain⟨aw,rfl,e⟩:=WN U;have O:v<2147483648:=by omega
 by_cases am:v=0
 ·subst am;refine⟨.FU,e,?_⟩;refine JL.go 5 rfl (AZ (v:= .int .u64 (0:Nat)) rfl rfl rfl (λρ h=>(Yl.shr (h _ _ rfl) (h _ _ rfl) (by decide)).to (congrArg _ (KI (v:=0) (wt:=0) (by decide)))) ?_);refine AZ (v:= .int .i32 (0:Nat)) rfl rfl rfl (λρ h=>(EZ H.underlying_tU64 H.underlying_t21 (h _ _ rfl)).to (congrArg _ (wrap_i32 (by decide)))) ?_
  refine JL.go 5 rfl (AZ (v:= .int .u64 ((0:Nat):Int)) rfl rfl rfl (λρ h=>(Yl.and (h _ _ rfl) (h _ _ rfl)).to (congrArg _ (K8 (v:=0) (wt:=0) (by decide) (by decide)))) ?_);refine AZ (v:= .int .u32 ((0:Nat):Int)) rfl rfl rfl (λρ h=>(EZ H.underlying_tU64 H.underlying_tU32 (h _ _ rfl)).to (congrArg _ (wrap_u32 (by decide)))) ?_
  refine JL.go 6 rfl (AZ (v:= .bool true) rfl rfl rfl (λρ h=>(Yl.eql (h _ _ rfl) (h _ _ rfl)).to (by simp)) ?_);refine JL.go 6 rfl (LG (p:= .FU) (q:= .Ic) rfl K (by simp) (λ_ _ _=>rfl) rfl rfl rfl rfl rfl (by simp) (IU H) ?_);refine JL.go 3 rfl (LL (p:= .Ic) (q:= .Gc) (ad:=F.sA) rfl K (by simp) (λ_ _ _=>rfl) rfl rfl rfl rfl rfl H.underlying_tWgP H.underlying_tUP H.room_tWg rfl (.inl rfl) ?_)
  refine Sa (vs:= [.pointer (some F.sA)]) K rfl rfl rfl rfl (Oo H) rfl rfl λE' Y z1 Z ac ag T au=>al _ _ ?_;revert T;refine(?_:JL (GC P) Q _ _ _ _ _ _ _);refine JL.go 5 rfl (AZ (v:= .bool true) rfl rfl rfl (λρ h=>(Yl.eql (h _ _ rfl) (h _ _ rfl)).to (by simp)) ?_);refine JL.go 2 rfl (AZ (v:= .int .u64 0) rfl rfl rfl (λρ h=>(Yl.and (h _ _ rfl) (h _ _ rfl)).to (congrArg _ (KW (v:=0) (wt:=0) (by decide) (by decide)))) ?_);refine AZ (v:= .bool false) rfl rfl rfl (λρ h=>(Yl.neq (h _ _ rfl) (h _ _ rfl)).to (by simp)) (JL.go 8 rfl ?_);exact JL.ret rfl rfl (Bs.none H.f_wait rfl) (back _ _ _ _ (h E' Y z1 Z ac ag))
 ·refine⟨.Ha v,by rw [e,if_neg am],?_⟩;refine JL.go 5 rfl (AZ (v:= .int .u64 (v:Nat)) rfl rfl rfl (λρ h=>(Yl.shr (h _ _ rfl) (h _ _ rfl) (by decide)).to (congrArg _ (KI (v:=v) (wt:=0) (by decide)))) ?_);refine AZ (v:= .int .i32 (v:Nat)) rfl rfl rfl (λρ h=>(EZ H.underlying_tU64 H.underlying_t21 (h _ _ rfl)).to (congrArg _ (wrap_i32 O))) ?_
  refine JL.go 5 rfl (AZ (v:= .int .u64 ((0:Nat):Int)) rfl rfl rfl (λρ h=>(Yl.and (h _ _ rfl) (h _ _ rfl)).to (congrArg _ (K8 (v:=v) (wt:=0) O (by decide)))) ?_);refine AZ (v:= .int .u32 ((0:Nat):Int)) rfl rfl rfl (λρ h=>(EZ H.underlying_tU64 H.underlying_tU32 (h _ _ rfl)).to (congrArg _ (wrap_u32 (by decide)))) ?_
  refine JL.go 6 rfl (AZ (v:= .bool false) rfl rfl rfl (λρ h=>(Yl.eql (h _ _ rfl) (h _ _ rfl)).to (by simp <;> omega)) ?_);refine JL.go 7 rfl (AZ rfl rfl rfl (λρ h=>Yl.fieldAddr H.underlying_tWg rfl (F1 H.sizeOf_tAU) (h _ _ rfl)) ?_);refine JL.go 2 rfl (AZ (v:= .int .u64 (Fam.word v 1)) rfl rfl rfl (λρ h=>(Yl.add (h _ _ rfl) (h _ _ rfl)).to (congrArg _ (VC O))) ?_);refine JL.uCas H (m:=v) K rfl rfl rfl rfl rfl rfl ?_ ?_
  ·refine JL.done (JL.go 6 rfl ?_);refine AZ (v:= .bool true) rfl rfl rfl (λρ h=>(Yl.eql (h _ _ rfl) (h _ _ rfl)).to (by simp)) (JL.go 6 rfl ?_);refine AZ rfl rfl rfl (λρ h=>Yl.fieldAddr H.underlying_tWg rfl (F1 H.sizeOf_tU32) (h _ _ rfl)) (LL (p:= .Im) (q:= .HK) (ad:=F.mA) rfl K (by simp) (λ_ _ _=>rfl) rfl rfl rfl rfl rfl H.underlying_tPU32 H.underlying_tUP H.room_tU32 rfl (.inr rfl) ?_)
   refine OB (p:= .HK) (q:= .Ft) (mk:= .write) (ad:=F.mA) (vs:= [.pointer (some F.mA)]) rfl K (by simp) (λ_ _ _=>rfl) rfl rfl rfl rfl (by simp) (Vh H) rfl rfl (JL.go 9 rfl ?_);refine AZ (v:= .int .u64 0) rfl rfl rfl (λρ h=>(Yl.and (h _ _ rfl) (h _ _ rfl)).to (congrArg _ (KW (v:=v) (wt:=0) O (by decide)))) (AZ (v:= .bool false) rfl rfl rfl (λρ h=>(Yl.neq (h _ _ rfl) (h _ _ rfl)).to (by simp)) ?_);refine JL.go 10 rfl (AZ rfl rfl rfl (λρ h=>Yl.fieldAddr H.underlying_tWg rfl (F1 H.sizeOf_tU32) (h _ _ rfl)) ?_);refine JL.go 1 rfl (UD (vs:= [.pointer (some F.mA),.bool false]) K rfl rfl rfl rfl (Ut H) rfl rfl ?_);refine JL.go 5 rfl (AZ rfl rfl rfl (λρ h=>Yl.fieldAddr H.underlying_tWg rfl (F1 H.sizeOf_tAU) (h _ _ rfl)) ?_);refine JL.uLoad H (p:= .G6) rfl K (by simp) rfl UQ rfl rfl rfl rfl λv wt sm r U=>?_;obtain⟨rfl,rfl,e⟩:=Vj U;refine⟨.FU,e,?_⟩;refine AZ (v:= .bool false) rfl rfl rfl (λρ h=>(Yl.neq (h _ _ rfl) (h _ _ rfl)).to (by simp [Fam.word])) (JL.go 6 rfl ?_);refine LG (p:= .FU) (q:= .Ic) rfl K (by simp) (λ_ _ _=>rfl) rfl rfl rfl rfl rfl (by simp) (IU H) (JL.go 3 rfl ?_);refine LL (p:= .Ic) (q:= .Gc) (ad:=F.sA) rfl K (by simp) (λ_ _ _=>rfl) rfl rfl rfl rfl rfl H.underlying_tWgP H.underlying_tUP H.room_tWg rfl (.inl rfl) ?_
   refine Sa (vs:= [.pointer (some F.sA)]) K rfl rfl rfl rfl (Oo H) rfl rfl λE' Y z1 Z ac ag T au=>al _ _ ?_;revert T;refine(?_:JL (GC P) Q _ _ _ _ _ _ _);exact JL.go 8 rfl (JL.ret rfl rfl (Bs.none H.f_wait rfl) (back _ _ _ _ (h E' Y z1 Z ac ag)))
  ·refine JL.done (JL.go 3 rfl ?_);refine JL.again (Fi (L':= [(0,.pointer (some F.sA))]) ⟨rfl,trivial⟩ ?_);exact ar (v - 1) (by omega) (by omega)
theorem JO.ZM(K:b.roundOf=none)(O:s.q=false)(h:JO (HZ P) (IK P 0) b n M ds cs .quiet):
  JO (AQ P false) (Stop P F .HI) b n M (dcall L.done #[.pointer (some F.sA)]::ds) cs s:=by
 refine JO.enter (vs:= [.pointer (some F.sA)]) K H.f_done (nm_done L) rfl (Nat.le_of_ble_eq_true rfl) λT U todo=>JL.go 2 rfl (VA H O rfl rfl rfl rfl rfl ?_);exact JL.done (JL.out rfl (JO.leaveD rfl H.f_done rfl (.inl rfl) (h T U todo)))
end
end Pal
namespace Pal
open Go Go.Conc
section
variable {P:Program}{J:Judge P}{Q:Gs_}{g:Goroutine}{cs:Lf_}{c:Frame}{E H:LH}{S S':List Seg}
theorem MT(K:S.flatten.Perm S'.flatten)(O:Ap E H S)(h:Ap E H S'->J.ok Q g (Aj E H S')):J.ok Q g (Aj E H S):=by
 have U:Aj E H S=Aj E H S':=Fa O K;rw [U];exact h (Nd.perm O K)
theorem O5(K:S'.flatten=S.flatten)(O:Ap E H S)(h:Ap E H S'->J.ok Q g (Aj E H S')):J.ok Q g (Aj E H S):=MT (by rw [K]) O h
theorem VZ{f:FuncId}{vs:Lv_}{seg:Seg}{R:Value->LH->Seg->Prop}(j:Nat)(al:AR J f vs E seg R)(K:Ap E H S)(O:S[j]? =some seg)
  (am:∀v E' seg',Le E E'->R v E' seg'->Ap E' H (S.set j seg')->J.ok Q (G (c.finish v) cs) (Aj E' H (S.set j seg'))):
  J.ok Q (G (Frame.enter P f vs.toArray .normal) (c::cs)) (Aj E H S):=by
 have U:S.flatten.Perm (seg++(S.set j []).flatten):=(Ef (seg':=seg) O).1.trans List.perm_append_comm;have Y:Nd E H (seg++(S.set j []).flatten):=Nd.perm K U;have an:Aj E H S=mk E (Bb (S.set j []).flatten H) seg:=by
  rw [show Aj E H S=mk E H S.flatten from rfl,Fa K U];unfold mk;rw [FN]
 have Z:=EF.Lj (al (Bb (S.set j []).flatten H) (Nd.front Y)) (by rintro v s' ⟨E',B',_,_,_,rfl⟩;rfl);rw [← an] at Z;refine Z Q c cs ?_;rintro v aA ⟨⟨E',B',hle,ao,ap,rfl⟩,w,aq⟩;have e2:mk E' (Bb (S.set j []).flatten H) B'=mk E' H (B'++(S.set j []).flatten):=by unfold mk;rw [FN]
 have ar:Nd E H (S.set j []).flatten:=by
  have:=Y;rw [Nd.iff] at this ⊢;rw [List.map_append,List.nodup_append] at this;exact⟨this.1.2.1,λq au=>this.2 q (List.mem_append_right _ au)⟩
 have av:Nd E' H (S.set j []).flatten:=ar.grow λx aw=>by
  have ay:=aq.d x aw;have az:Bb B' (Bb (S.set j []).flatten H) x=none:=ay;exact(HT az).1
 have ac:Nd E' H (B'++(S.set j []).flatten):=Nd.glue ap av;rw [e2];have ag:(B'++(S.set j []).flatten).Perm (S.set j B').flatten:=List.perm_append_comm.trans (Ef O).2.symm;rw [Fa ac ag];exact am v E' B' hle ao (Nd.perm ac ag)
end
section
variable {P:Program}{J:Judge P}{Q:Gs_}{b:Frame}{n:Nat}{L:Env}{ds:Ld_}{k:Li_}{cs:Lf_}{E H:LH}{S:List Seg}{ops:Ao_}{i:Nat}{rest:List Nat}{d:Option Tmp}{t ty e:TypeId}{p:String}{af:Ae_}{g:On_}
end
theorem UU{E H:LH}{a b c:Nat}{K O U:Obj}(ac:Ap E H [[(a,K)],[(b,O)],[(c,U)]]):(⟨E,Jq (Aj E H [[(a,K)],[(b,O)],[(c,U)]]).H b a c,false⟩:St)=Aj E H []:=by
 have h:=Nd.iff.1 ac;have ag:H a=none:=(h.2 (a,K) (by simp)).2;have al:H b=none:=(h.2 (b,O) (by simp)).2;have am:H c=none:=(h.2 (c,U) (by simp)).2;unfold Aj mk;congr 1;funext x;simp only [Jq,Aj,mk,List.flatten_cons,List.flatten_nil,List.append_nil,List.cons_append,List.nil_append,Bb];by_cases Y:x=a
 ·subst Y;simp [ag]
 ·by_cases e2:x=b
  ·subst e2;simp [al]
  ·by_cases Z:x=c
   ·subst Z;simp [am]
   ·simp [Y,e2,Z]
end Pal
namespace Pal
open Go Go.Conc
theorem GB{P:Program}{J:Judge P}{Q:Gs_}{b:Frame}{n:Nat}{L:Env}{ds:Ld_}{cs:Lf_}{E H:LH}{S:List Seg}{todo:Li_}{A B:Seg}(j K:Nat)(O:S[j]? =some A)(Z:(S.set j [])[K]? =some B)(ac:Ap E H S)
  (h:Ap E H (((S.set j []).set K []).set j (A++B))->JL J Q b n L ds todo cs (Aj E H (((S.set j []).set K []).set j (A++B)))):JL J Q b n L ds todo cs (Aj E H S):=by
 refine JS.perm ?_ ac h;have U:j<S.length:=(List.getElem?_eq_some_iff.1 O).1;have ag:=(Ef (seg':=A) O).1;have al:=(Ef (seg':=B) Z).1;have am:((S.set j []).set K [])[j]? =some []:=by
  by_cases e:K=j
  ·subst e;rw [List.getElem?_set_self (by simpa using U)]
  ·rw [List.getElem?_set_ne e,List.getElem?_set_self U]
 have Y:=(Ef (seg':=A++B) am).2;have an:(((S.set j []).set K []).set j [])=(S.set j []).set K []:=by
  by_cases e:K=j
  ·subst e;simp
  ·rw [List.set_comm _ _ e];simp
 rw [an] at Y;refine ag.trans (List.Perm.trans ?_ Y.symm);refine(List.Perm.append_right A al).trans ?_;rw [List.append_assoc];exact List.Perm.append_left _ List.perm_append_comm
end Pal
namespace Pal
open Go Go.Conc
def WL{α:Type}(e:TypeId)(pp:Rp α)(E:LH)(bk c n:Nat)(f:Av_)(xs:List α):Prop:=
 OL e pp E (some ⟨bk,0,none⟩) c [(bk,.cells f e (0,0))] xs/\xs.length=n
theorem WL.Ag{α:Type}{e:TypeId}{pp:Rp α}{E E':LH}{bk c n:Nat}{f:Av_}{xs:List α}(h:WL e pp E bk c n f xs)(hle:Le E E'):WL e pp E' bk c n f xs:=⟨h.1.Ag hle,h.2⟩
theorem WL.at{α:Type}{e:TypeId}{pp:Rp α}{E:LH}{bk c n:Nat}{f:Av_}{xs:List α}{m:Int}{x:α}(h:WL e pp E bk c n f xs)(hm:ix xs m=some x):
  ∃ws,pp.r E ws x/\(∀j w,ws[j]? =some w->f[m.toNat*pp.n+j]? =some w):=by
 obtain⟨ws,K,O,_,_⟩:=OL.again h.1 hm rfl;exact⟨ws,K,O⟩
theorem WL.put{α:Type}{e:TypeId}{pp:Rp α}{E:LH}{bk c n:Nat}{f:Av_}{xs O:List α}{m:Int}{x0 x':α}{ws':Lv_}(h:WL e pp E bk c n f xs)(U:O.length=n)(hm:ix O m=some x0)(Y:pp.r E ws' x'):
  WL e pp E bk c n (A8 f (m.toNat*pp.n) ws') (xs.set m.toNat x')/\m.toNat*pp.n+pp.n<=f.size:=by
 obtain⟨K,rfl,Z⟩:=Gm hm;have ac:K<xs.length:=by rw [h.2,← U];exact(List.getElem?_eq_some_iff.1 Z).1
 have ag:ix xs (K:Int)=some xs[K]:=by simp [ix,ac]
 obtain⟨ws,an,ao,al,am⟩:=OL.again h.1 ag rfl;exact⟨⟨am x' ws' Y,by rw [List.length_set];exact h.2⟩,al⟩
theorem OL.cases{α:Type}{e:TypeId}{pp:Rp α}{E:LH}{a:Option Addr}{c:Nat}{seg:Seg}{xs:List α}(h:OL e pp E a c seg xs):
  (a=none/\c=0/\seg= []/\xs= [])∨∃bk f,a=some ⟨bk,0,none⟩/\seg= [(bk,.cells f e (0,0))]/\WL e pp E bk c xs.length f xs:=by
 have Y:=h;obtain⟨wss,Z,ag,al⟩:=h;rcases Z with⟨K,O,U,ac,am⟩ | ⟨bk,f,K,O,U⟩
 ·exact .inl ⟨K,U,ac,List.length_eq_zero_iff.1 O⟩
 ·subst K O;exact .inr ⟨bk,f,rfl,rfl,Y,rfl⟩
theorem Fj{P:Program}{s:St}{ρ:Operand->Value}{x y:Operand}{d:Option Tmp}{t ty e:TypeId}{p:String}{af:Ae_}{g:On_}{kd:IntKind}{α:Type}{xs:List α}{xv:α}{m:Int}{bk c K n:Nat}(O:xs.length=n)(hm:ix xs m=some xv)(U:P.underlying t=some (.slice e))(Y:Be P e=some K)(Z:ρ x= .slice (some ⟨bk,0,none⟩) n c)(ac:ρ y= .int kd m):
  Yl P ⟨d,.indexAddr t x y,ty,p,af,g⟩ ρ s (.pointer (some ⟨bk,m.toNat*K,none⟩)):=by
 subst O;exact Wr hm U Y Z ac
theorem Su{P:Program}{s:St}{ρ:Operand->Value}{x:Operand}{d:Option Tmp}{t ty e:TypeId}{p:String}{af:Ae_}{g:On_}{α:Type}{xs:List α}{a:Option Addr}{n c:Nat}{ats:Array TypeId}(K:xs.length=n)(O:ats[0]? =some t)(U:P.underlying t=some (.slice e))(Y:ρ x= .slice a n c):
  Yl P ⟨d,.call ⟨.builtin .len,#[x],ats⟩,ty,p,af,g⟩ ρ s (.int .i64 (xs.length:Int)):=by
 subst K;exact Yl.len O U Y
section
variable {P:Program}{J:Judge P}{Q:Gs_}{b:Frame}{n:Nat}{ds:Ld_}{ops:Ao_}{k:Li_}{cs:Lf_}{m fuel:Nat}{D:Nat->Bool}{listed:Array Bool}{L:Env}{s:St}{E E' H:LH}{S:List Seg}
variable {d:Option Tmp}{x y:Operand}{t u ty e:TypeId}{p:String}{af:Ae_}{g:On_}{v:Value}{i:Nat}{kd:IntKind}
theorem VS{f:FuncId}{args:Array Operand}{ats:Array TypeId}{vs:Lv_}{R:Value->St->Prop}(U:s.q=false)(Y:Region.ready .any ops listed= [i])
  (Z:ops[i]? =some ⟨d,.call ⟨.value x,args,ats⟩,ty,p,af,g⟩) (ac:ev L x=some (.func (.func f) #[] #[])) (ag:A9 n d=true) (hw:AI L ops ⟨d,.call ⟨.value x,args,ats⟩,ty,p,af,g⟩=some true) (hb:Dw P f=true) (al:evs L args.toList=some vs)
  (am:EF J f vs.toArray s R) (h:∀v K,R v K->K.q=false/\(∀x o,(Bu D s).E x=some o->(Bu D K).E x=some o)/\AJ J Q b n ds ops k cs m D fuel (A4 listed i) (Av L d v) K):
  AJ J Q b n ds ops k cs m D (fuel+1) listed L s:=by
 refine AJ.one U Y Z (by simp [DL,ag]) hw λρ O=>?_;have an:args.map ρ=vs.toArray:=by
  rw [← Gj O al];apply Array.ext';simp
 have ao:ρ x= .func (.func f) #[] #[]:=O _ _ ac;simp only [execOp,resolve,bind,Sem.bind,Deferred.ofValue,ao,pure,invoke];have e: #[]++args.map ρ++ #[]=vs.toArray:=by rw [an];simp
 rw [e];refine IT hb ?_;rw [KD];exact⟨R,am,h⟩
theorem Jl{bks:List Nat}{f:FuncId}{args:Array Operand}{ats:Array TypeId}{vs:Lv_}{R:Value->LH->Seg->Prop}(am:HD S bks)(an:AR J f vs E [] R)(ao:Region.ready .any ops listed= [i])
  (ap:ops[i]? =some ⟨d,.call ⟨.value x,args,ats⟩,ty,p,af,g⟩) (K:ev L x=some (.func (.func f) #[] #[])) (aq:A9 n d=true) (hw:AI L ops ⟨d,.call ⟨.value x,args,ats⟩,ty,p,af,g⟩=some true) (hb:Dw P f=true) (ar:evs L args.toList=some vs) (Z:Ap E H S)
  (au:∀v E' seg',Le E E'->R v E' seg'->Ap E' H (S++ [seg'])->AJ J Q b n ds ops k cs m (AX bks) fuel (A4 listed i) (Av L d v) (Aj E' H (S++ [seg']))):
  AJ J Q b n ds ops k cs m (AX bks) (fuel+1) listed L (Aj E H S):=by
 have av:=EF.Lj (an (Bb S.flatten H) trivial) (by rintro v s' ⟨E',B',_,_,_,rfl⟩;rfl);refine VS rfl ao ap K aq hw hb ar av ?_;rintro v aE ⟨⟨E',B',hle,aw,ay,rfl⟩,w,az⟩;have e2:mk E' (Bb S.flatten H) B'=mk E' H (B'++S.flatten):=by unfold mk;rw [FN]
 have aA:Nd E' H S.flatten:=Nd.grow Z λx K=>by
  have aB:=az.d x K;have U:Bb B' (Bb S.flatten H) x=none:=aB;exact(HT U).1
 have ac:Nd E' H (B'++S.flatten):=Nd.glue ay aA;have ag:(B'++S.flatten).Perm (S++ [B']).flatten:=by rw [G1];exact List.perm_append_comm
 have al:Ap E' H (S++ [B']):=Nd.perm ac ag;rw [e2,Fa ac ag];refine⟨rfl,λx o K=>?_,au v E' B' hle aw al⟩;by_cases hd:AX bks x=true
 ·obtain⟨j,o',Y⟩:=am.mem x (by simpa [AX] using hd);have U:(Aj E H S).get x=some o':=DO (i:=0) Z Y rfl;have aC:j<S.length:=(List.getElem?_eq_some_iff.1 Y).1;have aD:(Aj E' H (S++ [B'])).get x=some o':=DO (i:=0) al (by rw [List.getElem?_append_left aC];exact Y) rfl;have O:(if AX bks x then(Aj E H S).get x else E x)=some o:=K
  show(if AX bks x then(Aj E' H (S++ [B'])).get x else E' x)=some o
  rw [if_pos hd] at O ⊢;rw [aD,← U];exact O
 ·have O:(if AX bks x then(Aj E H S).get x else E x)=some o:=K
  show(if AX bks x then(Aj E' H (S++ [B'])).get x else E' x)=some o
  rw [if_neg hd] at O ⊢;exact hle _ _ O
end
section
variable {P:Program}{J:Judge P}{Q:Gs_}{b:Frame}{n:Nat}{ds:Ld_}{ops:Ao_}{k:Li_}{cs:Lf_}{L:Env}{s:St}{E E' H:LH}{S:List Seg}
variable {d:Option Tmp}{x y:Operand}{t u ty e:TypeId}{p:String}{af:Ae_}{g:On_}{v:Value}{i:Nat}{rest:List Nat}{kd:IntKind}
theorem KP{f:FuncId}{args:Array Operand}{ats:Array TypeId}{vs:Lv_}{R:Value->LH->Seg->Prop}
  (O:AR J f vs E [] R) (U:ops[i]? =some ⟨d,.call ⟨.value x,args,ats⟩,ty,p,af,g⟩) (Y:ev L x=some (.func (.func f) #[] ([]:Lv_).toArray)) (hw:AI L ops ⟨d,.call ⟨.value x,args,ats⟩,ty,p,af,g⟩=some true) (Z:((b.kind != .early)&&A9 n d)=true) (hb:Dw P f=true)
  (ac:evs L args.toList=some vs) (ag:Ap E H S) (al:∀v E' seg',Le E E'->R v E' seg'->Ap E' H (S++ [seg'])->JL J Q b n (Av L d v) ds (.inRegion ops rest::k) cs (Aj E' H (S++ [seg']))):
  JL J Q b n L ds (.inRegion ops (i::rest)::k) cs (Aj E H S):=by
 have am:FV J (.func (.func f) #[] ([]:Lv_).toArray) vs E [] R:=FV.ofFn hb (by rw [List.append_nil];exact O);have an:Ap E H (S++ [[]]):=by unfold Ap at*;rw [G1,List.append_nil];exact ag
 have ao:Aj E H S=Aj E H (S++ [[]]):=by unfold Aj;rw [G1,List.append_nil]
 rw [ao];refine KJ (seg:= []) S.length am U hw Z Y ac an (by simp) λv E' seg' hle ap K=>?_;have aq:(S++ [([]:Seg)]).set S.length seg'=S++ [seg']:=I2 _ _ _ _;rw [aq] at K ⊢;exact al v E' seg' hle ap K
end
def Lc(a b:Int):Option Int:=if b=0 then none else Ax (a.tdiv b)
def P4(l:List Nat)(i:Int):Option Nat:=if 0<=i then l[i.toNat]? else none
section
variable {P:Program}{s:St}{ρ:Operand->Value}{x y z:Operand}{d:Option Tmp}{t u ty e:TypeId}{p:String}{af:Ae_}{g:On_}{v:Value}{kd kd':IntKind}{m m':Int}{a b:Nat}
theorem Nb{r:Int}(K:ρ x=iV m)(O:ρ y=iV m')(h:Lc m m'=some r):Yl P ⟨d,.binOp .quo t x y u,ty,p,af,g⟩ ρ s (iV r):=by
 unfold Lc at h;split at h
 ·cases h
 ·rename_i U;obtain⟨rfl,hb⟩:=KF h;have:=Yl.quo (P:=P) (s:=s) (d:=d) (t:=t) (u:=u) (ty:=ty) (p:=p) (af:=af) (g:=g) K O U
  rwa [Jk hb] at this
theorem ab{a:Nat}:IntKind.u8.wrap (a:Int)=((a % 256:Nat):Int):=by
 simp only [IntKind.wrap,IntKind.bits,IntKind.signed];simp
theorem Xt(K:P.underlying t=some (.int .u64))(hu:P.underlying u=some (.int .u8))(O:ρ x= .int .u64 (a:Int)):Yl P ⟨d,.convert t u x,ty,p,af,g⟩ ρ s (.int .u8 ((a % 256:Nat):Int)):=by
 have h:=EZ (P:=P) (s:=s) (d:=d) (ty:=ty) (p:=p) (af:=af) (g:=g) K hu O
 rw [ab] at h;exact h
theorem Xk{r:Int}(K:P.underlying t=some (.int .u8))(hu:P.underlying u=some (.int .i64))(O:ρ x= .int .u8 (a:Int))(h:Ax ((a:Nat):Int)=some r):Yl P ⟨d,.convert t u x,ty,p,af,g⟩ ρ s (iV r):=by
 obtain⟨rfl,hb⟩:=KF h;have h:=EZ (P:=P) (s:=s) (d:=d) (ty:=ty) (p:=p) (af:=af) (g:=g) K hu O
 rwa [Jk hb] at h
theorem VQ{l:List Nat}{bs:ByteArray}{r:Nat}(O:(bs.data.toList.map UInt8.toNat==l)=true)(U:P.underlying t=some .string)(Y:ρ y= .int kd m)(Z:ρ (.const (.string bs))= .string bs)(h:P4 l m=some r):Yl P ⟨d,.index t (.const (.string bs)) y,ty,p,af,g⟩ ρ s (.int .u8 (r:Int)):=by
 unfold P4 at h;split at h
 ·rename_i ac;have ag:=eq_of_beq O;rw [← ag,List.getElem?_map] at h;obtain⟨K,hb,rfl⟩:=Option.map_eq_some_iff.1 h;have al:bs[m.toNat]? =some K:=by
   have am:bs.data[m.toNat]? =some K:=by rw [← Array.getElem?_toList];exact hb
   obtain⟨an,ao⟩:=Array.getElem?_eq_some_iff.1 am;rw [getElem?_pos bs m.toNat an];exact congrArg some ao
  simp [Yl,execOp,lp,pure,bind,Sem.bind,Z,Y,Instr.index,underlying,program,U,ac,al,asIntOf]
 ·cases h
end
end Pal
namespace Pal
open Go Go.Conc
section
variable {P:Program}(J:Judge P)(Q:Gs_)(b:Frame)(ds:Ld_)(ops:Ao_)(k:Li_)(cs:Lf_)(X D:Nat->Bool)
def JB:Nat->Array Bool->Av_->St->Prop
 | 0,listed,T,s=>Region.ready .any ops listed= []/\J.ok Q (G (fr b T ds (.inRegion ops []::k)) cs) s
 | fuel+1,listed,T,s=>
  Region.ready .any ops listed≠ []/\s.q=false/\∀i∈Region.ready .any ops listed,∀o,ops[i]? =some o->(∀c,o.op≠ .defer c)/\
   (Region.wanted o (yielded ops T)=false->JB fuel (A4 listed i) (Cz T o.dst undef) s)/\
   (Region.wanted o (yielded ops T)=true->X i=true->lp P (execOp (Bv T) o) s (λK s'=>match K with
    | .value v=>JB fuel (A4 listed i) (Cz T o.dst v) s'
    | .skip=>JB fuel (A4 listed i) (Cz T o.dst undef) s'
    | _=>False) (λ_ _=>False))/\
   (Region.wanted o (yielded ops T)=true->X i=false->lp P (execOp (Bv T) o) (Bu D s) (λK s'=>match K with
    | .value v=>JB fuel (A4 listed i) (Cz T o.dst v) (Cn D s s')
    | .skip=>JB fuel (A4 listed i) (Cz T o.dst undef) (Cn D s s')
    | _=>False) (λ_ _=>False))
variable {J Q b ds ops k cs X D}
theorem V8(Z:b.kind≠ .early):∀(fuel t:Nat) (listed:Array Bool) (T:Av_) (s:St),JB J Q b ds ops k cs X D fuel listed T s->
  J.ok Q (G (fr b T ds (.inRegion ops (Region.linearise.go .any ops fuel t listed [])::k)) cs) s:=by
 intro fuel
 induction fuel with
 | zero=>intro t listed T s h;simpa [Region.linearise.go] using h.2
 | succ fuel O=>
  intro t listed T s h;obtain⟨al,am,h⟩:=h;obtain⟨i,hi⟩:∃i,(Region.ready .any ops listed)[t % (Region.ready .any ops listed).length]? =some i:=by
   have:0<(Region.ready .any ops listed).length:=List.length_pos_iff.2 al;exact⟨_,List.getElem?_eq_getElem (Nat.mod_lt _ this)⟩
  have ac:=List.mem_of_getElem? hi;have hgo:Region.linearise.go .any ops (fuel+1) t listed []=i::Region.linearise.go .any ops fuel (t / (Region.ready .any ops listed).length) (A4 listed i) []:=by
   simp only [Region.linearise.go];change (match(Region.ready .any ops listed)[t % (Region.ready .any ops listed).length]? with
    | some i=>Region.linearise.go .any ops fuel (t / (Region.ready .any ops listed).length) (listed.setIfInBounds i true) [i]
    | none=> [].reverse)=_
   rw [hi];simp only;rw [linearise_go_acc];rfl
  rw [hgo];obtain⟨_,o,U,_⟩:=mem_ready.1 ac;obtain⟨hd,an,ao,ap⟩:=h i ac o U;cases hw:Region.wanted o (yielded ops T) with
  | false=>exact Judge.unwanted U hw (O _ _ _ _ (an hw))
  | true=>
   cases ag:X i with
   | true=>
    refine Judge.oper U hw Z (.inr hd) (Ei _ (ao hw ag) ?_ (λ_ _ h=>h.elim));intro Y s' K;cases Y with
    | value v=>exact O _ _ _ _ K
    | skip=>exact O _ _ _ _ K
    | _=>exact K.elim
   | false=>
    refine Judge.Sv D U hw Z hd am (Ei _ (ap hw ag) ?_ (λ_ _ h=>h));intro Y s' K;cases Y with
    | value v=>exact O _ _ _ _ K
    | skip=>exact O _ _ _ _ K
    | _=>exact K.elim
def waitAll(ops:Ao_)(X:Nat->Bool)(i:Nat):Bool:=(List.range ops.size).all λj=> !X j || waits ops ops.size j i
theorem RR{D:Nat->Bool}{s s':St}(K:s'.E=(Bu D s).E){x:Nat}{o:Obj}(h:s.E x=some o):(Cn D s s').E x=some o:=by
 by_cases hd:D x
 ·simp [Cn,hd,h]
 ·have:=congrFun K x;simp [Bu,hd] at this;simp [Cn,hd,this,h]
theorem V5{i:Nat}{oi:Oper}{w pure:Bool}{v:Value}(hi:ops[i]? =some oi)(a5:X i=false)(aV:(pure || waitAll ops X i)=true)(a6:Region.noSelect ops=true)(a7:∀c,oi.op≠ .defer c):
  ∀(fuel:Nat) (listed:Array Bool) (T:Av_) (s:St),ID ops listed i oi=true->Hy ops listed=true->listed.size=ops.size->i∈Region.ready .any ops listed->s.q=false->Region.wanted oi (yielded ops T)=w->
   (w=true->∀s',s'.q=false->(∀x o,s.E x=some o->s'.E x=some o)->(pure=false->∀x o,(Bu D s).E x=some o->s'.E x=some o)->Yl P oi (Bv T) s' v)->
   JB J Q b ds ops k cs X D fuel (A4 listed i) (Cz T oi.dst (if w then v else undef)) s->JB J Q b ds ops k cs X D (fuel+1) listed T s:=by
 have ap:∀(j:Nat) (am:Oper),ops[j]? =some am->∀cs b,am.op≠Op.select cs b:=λj am h cs b=>Region.noSelect_spec a6 j am cs b h;intro fuel
 induction fuel with
 | zero=>?_
 | succ fuel aw=>?_
 all_goals
  intro listed T s aW aX ay aK az hw aq h;refine⟨λe=>(by rw [e] at aK;cases aK),az,λj aY am U=>?_⟩;by_cases aA:j=i
  ·subst aA;obtain rfl:am=oi:=by rw [hi] at U;exact(Option.some.inj U).symm
   refine⟨a7,λO=>?_,λar K=>?_,λar K=>?_⟩
   ·rw [O] at hw;subst hw;exact h
   ·rw [a5] at K;cases K
   ·rw [ar] at hw;subst hw;refine Ei _ (aq rfl (Bu D s) az (λx o h=>by unfold Bu;simp only;split;(· unfold St.get;rw [h]);exact h) λ_ _ _ h=>h).out ?_ (λ_ _ h=>h);rintro aL s' ⟨rfl,rfl⟩;rw [KD];exact h
  ·
   have aZ:j∈Region.ready .any ops (A4 listed i):=ready_mono aY aA;obtain⟨au,Y,a0,aN⟩:=mem_ready.1 aY;obtain rfl:Y=am:=by rw [U] at a0;exact(Option.some.inj a0).symm
   have aO:=(mem_ready.1 aK).1;have a8:(Y.after.any λe=>Region.binds .any e&&e.on==i)=false:=by
    rw [Array.any_eq_false];intro e he K;simp only [Bool.and_eq_true,beq_iff_eq] at K;have:=aN _ (Array.getElem_mem he) K.1;rw [K.2] at this;have av:listed.getD i true=listed.getD i false∨listed.size<=i:=by
     rcases Nat.lt_or_ge i listed.size with q | q
     ·left;simp [Array.getD_eq_getD_getElem?,q]
     ·exact .inr q
    rcases av with av | av
    ·rw [aO,this] at av;cases av
    ·rw [Array.getD_eq_getD_getElem?,Array.getElem?_eq_none av] at this;simp at this
   have a9:oi.apart ops Y=true:=by
    have aP:j<ops.size:=(Array.getElem?_eq_some_iff.1 U).1;have:=List.all_eq_true.1 aW j (List.mem_range.2 aP);simp only [Bool.or_eq_true,beq_iff_eq] at this;rcases this with(q | q) | q
    ·exact absurd q aA
    ·rw [au] at q;cases q
    ·rw [U] at q;simp only [Bool.or_eq_true] at q;rw [a8] at q;exact q.resolve_left (by simp)
   obtain⟨a1,aB,aC⟩:=Oper.apart_spec a9;obtain⟨p1,p2⟩:=HW (ops:=ops) (T:=T) (v:=if w then v else undef) (ap j Y U) a1
   first
    | exact absurd aZ (by rw [h.1];simp)
    | (
     obtain⟨bm,_,h⟩:=h
     obtain⟨hd,O,ba,bb⟩:=h j aZ Y U
     have aD:A4 (A4 listed i) j=A4 (A4 listed j) i:=by
      unfold A4;exact Array.setIfInBounds_comm _ _ (Ne.symm aA)
     have aE:i∈Region.ready .any ops (A4 listed j):=ready_mono aK (Ne.symm aA)
     have aF:ID ops (A4 listed j) i oi=true:=by
      refine List.all_eq_true.2 λx K=>?_
      have:=List.all_eq_true.1 aW x K
      simp only [Bool.or_eq_true,beq_iff_eq] at this ⊢
      rcases this with(q | q) | q
      ·exact .inl (.inl q)
      ·left;right
       by_cases e:j=x
       ·subst e;rw [au] at q;cases q
       ·rw [A4,getD_set_ne true e];exact q
      ·exact .inr q
     have aG:(A4 listed j).size=ops.size:=by unfold A4;simpa using ay
     have aH:Hy ops (A4 listed j)=true:=by
      refine List.all_eq_true.2 λx K=>?_
      cases aQ:ops[x]? with
      | none=>simp
      | some be=>
       simp only [Bool.or_eq_true,Bool.not_eq_true']
       by_cases e:j=x
       ·subst e
        obtain rfl:be=Y:=by rw [U] at aQ;exact(Option.some.inj aQ).symm
        right
        refine Array.all_eq_true'.2 λe he=>?_
        cases hb:Region.binds .any e with
        | false=>simp
        | true=>
         have:=aN e he hb
         by_cases e2:j=e.on
         ·rw [← e2] at this
          have aR:j<listed.size:=by rw [ay];exact(Array.getElem?_eq_some_iff.1 U).1
          simp [Array.getD_eq_getD_getElem?,aR] at this au
          rw [au] at this;cases this
         ·rw [A4,getD_set_ne false e2];simpa using this
       ·cases a2:(A4 listed j).getD x false with
        | false=>exact .inl rfl
        | true=>
         right
         have bf:listed.getD x false=true:=by rw [A4,getD_set_ne false e] at a2;exact a2
         refine Array.all_eq_true'.2 λaS he=>?_
         cases hb:Region.binds .any aS with
         | false=>simp
         | true=>
          have:=Ok aX aQ bf aS he hb
          by_cases e2:j=aS.on
          ·rw [← e2] at this
           have aR:j<listed.size:=by rw [ay];exact(Array.getElem?_eq_some_iff.1 U).1
           simp [Array.getD_eq_getD_getElem?,aR] at this au
           rw [au] at this;cases this
          ·rw [A4,getD_set_ne false e2];simpa using this
     refine⟨hd,λbg=>?_,λaT aM=>?_,λaT aM=>?_⟩
     ·have:=O (by rw [p2];exact bg)
      rw [aD,IX aB] at this
      obtain⟨Z,ac⟩:=HW (ops:=ops) (T:=T) (d:=Y.dst) (v:=undef) (o:=oi) (ap i oi hi) aC
      exact aw _ _ _ aF aH aG aE az (by rw [ac];exact hw) (λag s' bh O al=>by unfold Yl;rw [Z];exact(aq ag s' bh O al).out) this
     ·
      have bi:pure=true:=by
       cases bj:pure with
       | true=>rfl
       | false=>
        exfalso
        rw [bj,Bool.false_or] at aV
        have aP:j<ops.size:=(Array.getElem?_eq_some_iff.1 U).1
        have ar:=List.all_eq_true.1 aV j (List.mem_range.2 aP)
        rw [aM] at ar
        simp only [Bool.not_true,Bool.false_or] at ar
        rcases Qn aX _ j Y U (λe he hb=>aN e he hb) ar with q | ⟨x,Z,ac⟩
        ·have bl:i<listed.size:=by rw [ay];exact(Array.getElem?_eq_some_iff.1 hi).1
         simp [Array.getD_eq_getD_getElem?,bl] at q aO
         rw [aO] at q;cases q
        ·have:¬x<listed.size:=by rw [ay];intro K;simp [K] at Z
         simp [Array.getD_eq_getD_getElem?,this] at ac
      have aI:=NU _ (ba (by rw [p2];exact aT) aM)
      rw [p1] at aI
      refine Ei _ aI ?_ (λ_ _ h=>h)
      rintro aL s' ⟨K,al,aU⟩
      have aJ:s'.q=false:=aU.trans az
      have a3:pure=false->∀{α:Prop},α:=λe=>by rw [bi] at e;cases e
      cases aL with
      | value u=>
       simp only at K ⊢
       rw [aD,IX aB] at K
       obtain⟨Z,ac⟩:=HW (ops:=ops) (T:=T) (d:=Y.dst) (v:=u) (o:=oi) (ap i oi hi) aC
       exact aw _ _ _ aF aH aG aE aJ (by rw [ac];exact hw) (λag s2 an O ao=>by unfold Yl;rw [Z];exact(aq ag s2 an (λx o h=>O x o (by rw [al];exact h)) (λe=>a3 e)).out) K
      | skip=>
       simp only at K ⊢
       rw [aD,IX aB] at K
       obtain⟨Z,ac⟩:=HW (ops:=ops) (T:=T) (d:=Y.dst) (v:=undef) (o:=oi) (ap i oi hi) aC
       exact aw _ _ _ aF aH aG aE aJ (by rw [ac];exact hw) (λag s2 an O ao=>by unfold Yl;rw [Z];exact(aq ag s2 an (λx o h=>O x o (by rw [al];exact h)) (λe=>a3 e)).out) K
      | _=>exact K.elim
     ·have aI:=NU _ (bb (by rw [p2];exact aT) aM)
      rw [p1] at aI
      refine Ei _ aI ?_ (λ_ _ h=>h)
      rintro aL s' ⟨K,al,aU⟩
      have a4:=Qx (D:=D) al
      have aJ:(Cn D s s').q=false:=by show s'.q=false;rw [aU];exact az
      cases aL with
      | value u=>
       simp only at K ⊢
       rw [aD,IX aB] at K
       obtain⟨Z,ac⟩:=HW (ops:=ops) (T:=T) (d:=Y.dst) (v:=u) (o:=oi) (ap i oi hi) aC
       exact aw _ _ _ aF aH aG aE aJ (by rw [ac];exact hw) (λag s2 an O ao=>by unfold Yl;rw [Z];exact(aq ag s2 an (λx o h=>O x o (RR al h)) (λe=>by rw [a4] at ao;exact ao e)).out) K
      | skip=>
       simp only at K ⊢
       rw [aD,IX aB] at K
       obtain⟨Z,ac⟩:=HW (ops:=ops) (T:=T) (d:=Y.dst) (v:=undef) (o:=oi) (ap i oi hi) aC
       exact aw _ _ _ aF aH aG aE aJ (by rw [ac];exact hw) (λag s2 an O ao=>by unfold Yl;rw [Z];exact(aq ag s2 an (λx o h=>O x o (RR al h)) (λe=>by rw [a4] at ao;exact ao e)).out) K
      | _=>exact K.elim)
end
section
variable {P:Program}(J:Judge P)(Q:Gs_)(b:Frame)(n:Nat)(ds:Ld_)(ops:Ao_)(k:Li_)(cs:Lf_)(X D:Nat->Bool)
def Gf(fuel:Nat)(listed:Array Bool)(L:Env)(s:St):Prop:=∀T,Has n L T->JB J Q b ds ops k cs X D fuel listed T s
end
theorem JB.take{i:Nat}{oi:Oper}{w pure:Bool}{v:Value}{P:Program}{J:Judge P}{Q:Gs_}{b:Frame}{ds:Ld_}{ops:Ao_}{k:Li_}{cs:Lf_}{X D:Nat->Bool}(hi:ops[i]? =some oi)(K:X i=false)(O:(pure || waitAll ops X i)=true)(U:Region.noSelect ops=true)(Y:∀c,oi.op≠ .defer c)
  (fuel:Nat) (listed:Array Bool) (T:Av_) (s:St) (Z:ID ops listed i oi=true) (ac:Hy ops listed=true) (ag:listed.size=ops.size) (al:i∈Region.ready .any ops listed) (am:s.q=false) (an:Region.wanted oi (yielded ops T)=w)
  (ao:w=true->∀s',s'.q=false->(pure=false->∀x o,(Bu D s).E x=some o->s'.E x=some o)->Yl P oi (Bv T) s' v)
  (h:JB J Q b ds ops k cs X D fuel (A4 listed i) (Cz T oi.dst (if w then v else undef)) s):JB J Q b ds ops k cs X D (fuel+1) listed T s:=
 V5 hi K O U Y fuel listed T s Z ac ag al am an (λe s' ap _ aq=>ao e s' ap aq) h
def Lg(ops:Ao_)(listed:Array Bool)(xs:List Nat)(pure:Bool)(i:Nat):Bool:=match ops[i]? with
 | some oi=> !AX xs i&&(pure || waitAll ops (AX xs) i)&&Region.noSelect ops&& !DL oi.op&&ID ops listed i oi&&Hy ops listed&&listed.size==ops.size&&(Region.ready .any ops listed).contains i
 | none=>false
section
variable {P:Program}{J:Judge P}{Q:Gs_}{b:Frame}{n:Nat}{ds:Ld_}{ops:Ao_}{k:Li_}{cs:Lf_}{fuel:Nat}{X D:Nat->Bool}{listed:Array Bool}{L:Env}{s:St}{E H:LH}{S:List Seg}{xl bks:List Nat}
variable {d:Option Tmp}{x y:Operand}{t u ty e:TypeId}{p:String}{af:Ae_}{g:On_}{v:Value}{i:Nat}{kd:IntKind}
theorem IB(xl bks:List Nat){id:Nat}(hm:P.follows .mixedOrders=true)(K:(b.kind != .early)=true)
  (h:Gf J Q b n ds ops k cs (AX xl) (AX bks) ops.size (Array.replicate ops.size false) L (Aj E H S)):JL J Q b n L ds (.code (.region id ops true)::k) cs (Aj E H S):=
 RS rfl hm λt T O=>V8 (by simpa using K) ops.size t _ T _ (h T O)
theorem JB.val{oi:Oper}(i:Nat)(pure:Bool)(hi:ops[i]? =some oi)(K:Lg ops listed xl pure i=true)(Y:s.q=false)
  (hw:AI L ops oi=some true) (Z:A9 n oi.dst=true) (ac:∀ρ,ER L ρ->∀s':St,(pure=false->∀x o,(Bu D s).E x=some o->s'.E x=some o)->Yl P oi ρ s' v)
  (h:Gf J Q b n ds ops k cs (AX xl) D fuel (A4 listed i) (Av L oi.dst v) s):Gf J Q b n ds ops k cs (AX xl) D (fuel+1) listed L s:=λT O=>by
 simp only [Lg,hi,Bool.and_eq_true] at K
 obtain⟨⟨⟨⟨⟨⟨⟨ag,al⟩,am⟩,U⟩,an⟩,ao⟩,ap⟩,aq⟩:=K
 refine JB.take (w:=true) (v:=v) (pure:=pure) hi (by simpa using ag) al am (λc K=>by rw [K] at U;simp [DL] at U) fuel listed T s an ao (by simpa using ap) (by simpa using aq) Y (B5 O hw) (λ_ s' au ar=>ac _ O.F5 s' ar) ?_
 exact h _ (O.put Z v)
theorem JB.fin(K:Region.ready .any ops listed= [])(h:JL J Q b n L ds k cs s):Gf J Q b n ds ops k cs X D 0 listed L s:=λT O=>⟨K,JL.done h T O⟩
theorem JB.store{bk off:Nat}{c:Av_}(i j:Nat)(U:Region.ready .any ops listed= [i])(ag:AX xl i=true)(al:ops[i]? =some ⟨d,.store t x y,ty,p,af,g⟩)(hw:AI L ops ⟨d,.store t x y,ty,p,af,g⟩=some true)(am:A9 n d=true)(an:Ap E H S)
  (ao:ev L x=some (.pointer (some ⟨bk,off,none⟩))) (ap:ev L y=some v) (aq:Be P t=some v.cells.size) (ar:∀u∈v.cells.toList,C8 u=true) (Y:S[j]? =some [(bk,.cells c e (0,0))]) (hle:off+v.cells.size<=c.size)
  (h:Ap E H (S.set j [(bk,.cells (A8 c off v.cells.toList) e (0,0))])->Gf J Q b n ds ops k cs (AX xl) D fuel (A4 listed i) (Av L d undef) (Aj E H (S.set j [(bk,.cells (A8 c off v.cells.toList) e (0,0))]))):
  Gf J Q b n ds ops k cs (AX xl) D (fuel+1) listed L (Aj E H S):=λT K=>by
 refine⟨by rw [U];simp,rfl,λaC O o' Z=>?_⟩
 rw [U] at O
 simp at O
 subst O
 obtain rfl:o'=⟨d,.store t x y,ty,p,af,g⟩:=by rw [al] at Z;exact(Option.some.inj Z).symm
 have au:=B5 K hw;refine⟨λc av=>(by cases av),λe=>?_,λ_ _=>?_,λ_ e=>?_⟩
 ·rw [au] at e;cases e
 ·obtain⟨aw,ay⟩:=G4 an Y;rw [aw];show lp P (do Instr.storeAt t (Bv T x) (Bv T y);pure Next.skip) _ _ _
  rw [K.ev ao,K.ev ap];refine As _ _ ?_;unfold Instr.storeAt;simp only [Instr.sureAddr,bind,Sem.bind,pure];refine Qv (pl:=(S.set j []).flatten.length) aq ar ay (c:=c) (e:=e) (by simp) hle λac=>?_;have az:((S.set j []).flatten++ [(bk,Obj.cells c e (0,0))]).set (S.set j []).flatten.length (bk,.cells (A8 c off v.cells.toList) e (0,0))=(S.set j []).flatten++ [(bk,.cells (A8 c off v.cells.toList) e (0,0))]:=I2 _ _ _ _;rw [az] at ac ⊢;obtain⟨aA,aB⟩:=I3 Y ac;rw [aA];exact h aB _ (K.put am undef)
 ·rw [ag] at e;cases e
end
end Pal
namespace Pal
open Go Go.Conc
theorem MI{E H:LH}{S:List Seg}{bks:List Nat}{bk o:Nat}{l ws:Lv_}{e:TypeId}{f:Nat×Nat}{s':St}{w:Value}(j:Nat)(K:Ap E H S)(O:S[j]? =some [(bk,.cells (l++ws).toArray e f)])(U:AX bks bk=true)(Y:∀x o,(Bu (AX bks) (Aj E H S)).E x=some o->s'.E x=some o)(Z:ws[o]? =some w):s'.cell? ⟨bk,l.length+o,none⟩=some w:=by
 have:=Wk j K O U Y o w Z
 rwa [DI rfl] at this
section
variable {P:Program}{E H:LH}{B:List (Nat×Obj)}{t e ty:TypeId}
theorem Qh{ats:Array TypeId}{a:Option Addr}{l K O m cx:Nat}{ax:Option Addr}{xs ys:Lv_}{z:Value}{Q:Value->St->Prop}{X:Halt->St->Prop}
  (av:ats[0]? =some t) {t1 aw:TypeId} (ay:ats[1]? =some t1) (az:P.underlying t1=some (.slice aw)) (aA:P.underlying t=some (.slice e)) (aB:Be P e=some K) (hb:Fs P e=some O) (aC:zeroOf P e=some z) (aD:z.cells.size=K)
  (aE:Nd E H B) (al:Hz (mk E H B) (.slice a l l) K xs)
  (Z:Hz (mk E H B) (.slice ax m cx) K ys) (aN:∀w∈ys,C8 w=true) (aO:0<O) (aP:l+m<=2 ^ 40) (aF:O<=64)
  (ar:m=0->Q (.slice a (l+m) l) (mk E H B))
  (aG:∀r ac am,l+m<=am->ac.size=am*K->ac.toList.take ((l+m)*K)=xs++ys->Nd E H (B++ [(r,.cells ac e (0,0))])->Q (.slice (some ⟨r,0,none⟩) (l+m) am) (mk E H (B++ [(r,.cells ac e (0,0))]))):
  lp P (Builtin.append_ ats ty #[.slice a l l,.slice ax m cx]) (mk E H B) Q X:=by
 unfold Builtin.append_;simp only [av,ay,List.getElem?_toArray,List.getElem?_cons_zero,List.getElem?_cons_succ];refine As _ _ (Cj aA ?_);refine As _ _ (Ey aB ?_);refine As _ _ (Cj az ?_);simp only [HU,Bool.false_eq_true,if_false,Builtin.lenOf,Bool.not_false,if_true];have ag:ys.length=m*K:=by
  cases ax with
  | none=>obtain⟨U,Y⟩:=Z;subst U Y;simp
  | some ad=>exact Z.2.1
 have an:xs.length=l*K:=by
  cases a with
  | none=>obtain⟨U,Y⟩:=al;subst U Y;simp
  | some ad=>exact al.2.1
 obtain⟨c,aQ⟩:∃c,c=l:=⟨_,rfl⟩;split
 ·rename_i aR;have hm:m=0:=by omega
  have aH:ys= []:=List.eq_nil_of_length_eq_zero (by rw [ag,hm];simp);refine As _ _ (J0 ⟨ax,cx,rfl⟩ Z ?_);subst aH;cases a with
  | none=>exact ar hm
  | some ad=>exact ar hm
 ·rename_i aS;have U:¬(((l+m:Nat):Int)>IntKind.i64.max/\(False∨O=0)):=by rintro⟨_,h | h⟩ <;> omega
  have Y:¬(Builtin.nextslicecap (l+m) l*O>2 ^ 48):=by
   have:=QK (need:=l+m) (old:=l) (by omega);have aT:Builtin.nextslicecap (l+m) l*O<=(2*(l+m)+768)*64:=Nat.mul_le_mul this aF;omega
  obtain⟨inf,ao,ap⟩:=OC hb;refine As _ _ (J1 ao ?_);rw [ap,if_neg U];refine As _ _ (J1 ao ?_);rw [ap,if_neg Y];refine As _ _ ?_;simp only [choose,lp,Question.forced,Bool.false_eq_true,if_false];refine⟨rfl,λaI=>?_⟩;generalize aJ:(Question.appendCap (l+m) l e).cut aI=aq;have aK:l+m<=aq:=by rw [← aJ];simp [Question.cut]
  refine As _ _ (J1 ao ?_);rw [ap];have aL:∀{α:Type} {f:Unit->Sem α} {Q:α->St->Prop},lp P (f ()) (mk E H B) Q X->lp P (askRoom (aq*O)>>=f) (mk E H B) Q X:=by
   intro α f Q au;refine As _ _ ?_;unfold askRoom;split
   ·exact⟨.inl ⟨rfl,rfl⟩,au⟩
   ·exact au
  refine aL (As _ _ (J0 ⟨a,l,rfl⟩ al ?_));refine As _ _ (J0 ⟨ax,cx,rfl⟩ Z ?_);refine As _ _ (Ho aC ?_);refine As _ _ (Iv aE λr aM=>?_);refine aG r _ aq aK ?_ ?_ aM
  ·simp only [Array.size_append,List.size_toArray,Qf,aD,an,ag];rw [← Nat.add_mul,← Nat.add_mul];congr 1;omega
  ·simp only [Array.toList_append];rw [List.take_append_of_le_length (by simp [an,ag,Nat.add_mul])];rw [List.take_of_length_le (by simp [an,ag,Nat.add_mul])]
end
theorem Am.spot{α:Type}{pp:Rp α}{E:LH}{a:Option Addr}{c:Nat}{xs:List α}(h:Am pp E a c xs):∀ad,a=some ad->ad.spot=none∨c=0:=λad K=>by
 rcases h.2 with⟨_,h⟩ | ⟨bk,off,h,_⟩
 ·exact h ad K
 ·rw [h] at K;cases K;exact .inl rfl
theorem Am.full{α:Type}{pp:Rp α}{E:LH}{a:Option Addr}{c:Nat}{xs:List α}(h:Am pp E a c xs):Am pp E a xs.length xs:=⟨Nat.le_refl _,h.2.imp (λ⟨h,_⟩=>⟨h,λ_ _=> .inr (by rw [h];rfl)⟩) id⟩
theorem Am.KR{α:Type}{pp:Rp α}{E H:LH}{B:List (Nat×Obj)}{a:Option Addr}{c:Nat}{ys:List α}(ac:Am pp E a c ys):
  ∃K:List (Lv_),K.length=ys.length/\(∀(i:Nat) x ws,ys[i]? =some x->K[i]? =some ws->pp.r E ws x)/\Hz (mk E H B) (.slice a ys.length c) pp.n K.flatten/\∀w∈K.flatten,C8 w=true:=by
 obtain⟨K,U,Z,Y⟩:=ac.rows;have ag:=HX U Z;refine⟨K,U,Z,?_,λw hw=>?_⟩
 ·rcases Y with⟨Y,aq⟩ | ⟨bk,off,rfl,Y⟩
  ·subst Y;have:K= []:=List.eq_nil_of_length_eq_zero U;subst this;cases a with
   | none=>exact⟨rfl,rfl⟩
   | some ad=>exact⟨.inr rfl,by simp,Nat.zero_le _,λq w O=>by simp at O⟩
  ·refine⟨.inl rfl,by rw [Lu ag,U],ac.1,λq w O=>?_⟩;obtain⟨al,m,ws,am,e2,an⟩:=Om ag O;have:=(Y al ws am).cell (H:=H) (B:=B) e2;subst an;rw [← Nat.add_assoc];exact this
 ·obtain⟨us,ao,hw⟩:=List.mem_flatten.1 hw;obtain⟨q,O⟩:=List.mem_iff_getElem?.1 ao;have ap:q<ys.length:=by rw [← U];exact(List.getElem?_eq_some_iff.1 O).1
  exact pp.one (Z q _ us (List.getElem?_eq_getElem ap) O) w hw
section
variable {P:Program}{J:Judge P}{Q:Gs_}{b:Frame}{n:Nat}{ds:Ld_}{ops:Ao_}{k:Li_}{cs:Lf_}{L:Env}{s:St}{E E' H:LH}{S:List Seg}
variable {d:Option Tmp}{x y z1:Operand}{t u ty e:TypeId}{p:String}{af:Ae_}{g:On_}{v:Value}{i:Nat}{rest:List Nat}{kd:IntKind}{ρ:Operand->Value}
theorem QG{a:Option Addr}{l c K:Nat}(O:∀ad,a=some ad->ad.spot=none∨c=0)(U:l<=c)(Y:P.underlying t=some (.slice e))(Z:Be P e=some K)(ac:ρ x= .slice a l c)(ag:ρ y=iV (l:Int))(al:ρ z1=iV (l:Int)):
  Yl P ⟨d,.slice t x none (some y) (some z1),ty,p,af,g⟩ ρ s (.slice a l l):=by
 have h:=Yl.slice (P:=P) (s:=s) (d:=d) (ty:=ty) (p:=p) (af:=af) (g:=g) (olo:=none) (ohi:=some y) (omx:=some z1) (lo:=0) (hi:=l) (mx:=l) Y Z ac al ag rfl U (Nat.le_refl _) (Nat.zero_le _);have am:(if l=0 then a else a.map (·.add (0*K)))=a:=by
  split
  ·rfl
  ·cases a with
   | none=>rfl
   | some ad=>
    have:=(O ad rfl).resolve_right (by omega);simp only [Option.map_some,Nat.zero_mul];rw [DI this];obtain⟨b,o,sp⟩:=ad;simp only at this;subst this;simp
 rw [am] at h;simpa using h
theorem UB{α:Type}{pp:Rp α}{t1:TypeId}{Y c cx:Nat}{a ax:Option Addr}{xs ys Z:List α}{ats:Array TypeId}{z:Value}(U:Dr xs ys=some Z)
  (aq:ops[i]? =some ⟨d,.call ⟨.builtin .append,#[x,y],ats⟩,ty,p,af,g⟩) (hw:AI L ops ⟨d,.call ⟨.builtin .append,#[x,y],ats⟩,ty,p,af,g⟩=some true) (ar:BK b n ⟨d,.call ⟨.builtin .append,#[x,y],ats⟩,ty,p,af,g⟩=true)
  (au:ev L x=some (.slice a xs.length xs.length)) (av:ev L y=some (.slice ax ys.length cx)) (aw:ats[0]? =some t) (ay:ats[1]? =some t1) (az:P.underlying t=some (.slice e)) (aA:P.underlying t1=some (.slice e)) (aB:Be P e=some pp.n) (hb:Fs P e=some Y) (aC:zeroOf P e=some z) (aD:z.cells.size=pp.n)
  (aE:0<Y) (aF:Y<=64) (ac:Am pp E a c xs) (aG:Am pp E ax cx ys) (ag:Ap E H S)
  (h:∀E' al K,Le E E'->Am pp E' al K Z->Ap E' H (S++ [[]])->JL J Q b n (Av L d (.slice al Z.length K)) ds (.inRegion ops rest::k) cs (Aj E' H (S++ [[]]))):
  JL J Q b n L ds (.inRegion ops (i::rest)::k) cs (Aj E H S):=by
 unfold Dr at U;split at U
 rotate_left
 ·cases U
 rename_i aH;cases U;obtain⟨wss,am,aI,aJ,aZ⟩:=Am.KR (H:=H) (B:=S.flatten) ac.full;obtain⟨aK,aL,aM,aN,aO⟩:=Am.KR (H:=H) (B:=S.flatten) aG;have hlen:(xs++ys).length=xs.length+ys.length:=by simp
 show JL J Q b n L ds (.inRegion ops (i::rest)::k) cs (mk E H S.flatten);refine JL.op aq hw ar λρ an=>?_;rw [Ls,an x _ au,an y _ av];refine As _ _ (Qh aw ay aA az aB hb aC aD ag aJ aN aO aE aH aF ?_ ?_)
 ·intro hm;have aP:ys= []:=List.eq_nil_of_length_eq_zero hm;subst aP;have aQ:Ap E H (S++ [[]]):=by unfold Ap at*;rw [G1,List.append_nil];exact ag
  have aR:mk E H S.flatten=Aj E H (S++ [[]]):=by unfold Aj;rw [G1,List.append_nil]
  rw [aR];have:=h E a xs.length (Le.refl _) (by rw [List.append_nil];exact ac.full) aQ;rw [hlen] at this;exact this
 ·intro r O K aS aT aU aV;have aW:OL e pp E (some ⟨r,0,none⟩) K [(r,.cells O e (0,0))] (xs++ys):=
   ⟨wss++aK,.inr ⟨r,O,rfl,rfl,aT,by rw [hlen];exact aS,by rw [hlen,List.flatten_append];exact aU.symm⟩,by simp [am,aL],MC am aI aM⟩
  have ao:=EY (S:=S) (seg:= [(r,.cells O e (0,0))]) aV;show JL J Q b n _ ds _ cs (mk E H (S.flatten++ [(r,.cells O e (0,0))]));rw [ao.1];refine BO S.length aW ao.2 (by simp) λE' hle aX ap=>?_;have aY:(S++ [[(r,Obj.cells O e (0,0))]]).set S.length []=S++ [[]]:=I2 _ _ _ _;rw [aY] at ap ⊢;have:=h E' (some ⟨r,0,none⟩) K hle aX ap;rw [hlen] at this;exact this
end
end Pal
