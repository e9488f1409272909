/- DebtAll: Fewest: a part (2 of 9) of the proof of its row. -/
import Derived.Test.YtmeophcclkejkaaGreatAaa
import Derived.Conc.WgLib
import Derived.Conc.WgArith
import Derived.Conc.WgGenW
set_option linter.all false
set_option maxRecDepth 100000
namespace Pal
open Go Go.Conc
open Go.ConcN (upd upd_same upd_ne sumTo sumTo_upd sumTo_upd_out sumTo_congr le_sumTo sumTo_le)
def cU:Nx->Nat
 | .ph (.Hs _) | .ph .H7 | .ph .GJ | .ph .I2 | .ph .Hu | .ph (.lk _ _)=>1
 | _=>0
def cL:Nx->Nat
 | .ph .G5 | .ph .Hp=>1
 | _=>0
def cS:Nx->Nat
 | .ph .FA=>1
 | _=>0
def pend:Nx->Nat
 | .ph (.IH _) | .ph (.HU _) | .ph (.Hd _) | .ph (.F2 _)=>1
 | _=>0
def got:Nx->List Nat
 | .ph (.FX K _)=>K
 | _=> []
def Oh:Nx->Prop
 | .gone _=>True
 | _=>False
def HP(n j:Nat)(c:Bool):Ph->Prop
 | .Gt K | .IF K | .IH K | .HU K | .Hd K | .F2 K=>K=j/\j<n/\c=false
 | .G7=>j=n/\c=false
 | .FX _ _=>j=n/\c=true
 | _=>False
def G3(F:Fam)(k:Nat):Nx->Prop
 | .gone _=>True
 | .ph (.Hs k')=>k'=k/\F.has k=true
 | .ph (.lk k' _)=>k'=k
 | .ph .H7 | .ph .GJ | .ph .I2 | .ph .Hu | .ph .G5 | .ph .Hp | .ph .FA=>True
 | _=>False
def Jt:Nx->Prop
 | .gone _=>True
 | .ph .Dl | .ph (.Ge _) | .ph (.Hx _) | .ph .II | .ph .H6 | .ph .FL | .ph .Hq | .ph .Gh | .ph .IC | .ph .Gv | .ph .HR=>True
 | _=>False
def Dy(x:Nx)(v wt sm L S:Nat)(cl:Bool):Prop:=
 match x with
 | .ph .Dl=>L=0/\S=0/\sm=0/\wt=0/\cl=false
 | .ph (.Ge m)=>L=0/\S=0/\sm=0/\wt=0/\cl=false/\v<=m
 | .ph (.Hx m)=>L=0/\S=0/\sm=0/\wt=0/\cl=false/\v<=m/\1<=m
 | .ph .II | .ph .H6 | .ph .FL=>L+S+sm+min v 1=1/\wt=L+min v 1/\cl=false
 | .ph .Hq | .ph .Gh | .ph .IC | .ph .Gv | .ph .HR=>L=0/\S=0/\sm=0/\wt=0/\v=0/\cl=false
 | .gone _=>L=0/\S=0/\sm=0/\wt=0/\v=0/\cl=true
 | _=>False
structure CB (F:Fam) (N0 N j:Nat) (c:Bool) (φ:Nat->Nx) (v wt sm:Nat) (cl:Bool):Prop where
 pos:0<N0
 n1:1<=F.n
 H8:F.n<2147483647
 size:N=N0+j+c.toNat
 jn:j<=F.n
 cj:c=true->j=F.n
 main:∃p,φ 0= .ph p/\HP F.n j c p
 old:∀i,0<i->i<N0->Oh (φ i)
 work:∀k,k<j->G3 F k (φ (N0+k))
 cls:c=true->Jt (φ (N0+F.n))
 cnt:v=sumTo N (λi=>cU (φ i))+pend (φ 0)
 Ki:v<=j+pend (φ 0)
 mode:Dy (if c=true then φ (N0+F.n) else .ph .Dl) v wt sm (sumTo N λi=>cL (φ i)) (sumTo N λi=>cS (φ i)) cl
 K1:∀k,k<j->F.has k=true->(φ (N0+k)= .ph (.Hs k)↔k ∉ got (φ 0))
 nd:(got (φ 0)).Nodup
 sub:∀k∈got (φ 0),k<j/\F.has k=true
section
variable {F:Fam}{N0 N j:Nat}{c:Bool}{φ:Nat->Nx}{v wt sm v' wt' sm':Nat}{cl cl':Bool}
theorem CB.EH(h:CB F N0 N j c φ v wt sm cl){i:Nat}(hi:i<N):i=0∨(0<i/\i<N0)∨(∃k,k<j/\i=N0+k)∨(c=true/\i=N0+F.n):=by
 have:=h.size;rcases Nat.eq_zero_or_pos i with K | K
 ·exact .inl K
 rcases Nat.lt_or_ge i N0 with O | O
 ·exact .inr (.inl ⟨K,O⟩)
 rcases Nat.lt_or_ge i (N0+j) with U | U
 ·exact .inr (.inr (.inl ⟨i - N0,by omega,by omega⟩))
 ·cases hc:c with
  | false=>rw [hc] at this;simp at this;omega
  | true=>have e:=h.cj hc;rw [hc] at this;simp at this;exact .inr (.inr (.inr ⟨rfl,by omega⟩))
theorem CB.QZ(h:CB F N0 N j c φ v wt sm cl):v<=F.n:=by
 have K:=h.Ki;obtain⟨p,O,hm⟩:=h.main;have:=h.jn;rw [O] at K;cases p <;> simp [HP] at hm <;> simp [pend] at K <;> omega
theorem CB.ID(h:CB F N0 N j c φ v wt sm cl){k:Nat}(ac:k<j){x:Nx}(ag:G3 F k x)(al:∀k',φ (N0+k)≠ .ph (.Hs k'))(am:∀k',x≠ .ph (.Hs k'))
  (a2:v'+cU (φ (N0+k))=v+cU x)
  (hm:∀L S,L+cL (φ (N0+k))=(sumTo N λi=>cL (φ i))+cL x->S+cS (φ (N0+k))=(sumTo N λi=>cS (φ i))+cS x->Dy (if c=true then φ (N0+F.n) else .ph .Dl) v' wt' sm' L S cl'):
  CB F N0 N j c (upd φ (N0+k) x) v' wt' sm' cl':=by
 have a3:=h.size;have a4:=h.jn;have a5:=h.pos;have U:N0+k<N:=by omega
 have K:upd φ (N0+k) x 0=φ 0:=upd_ne _ _ (by omega);have ap:(if c=true then upd φ (N0+k) x (N0+F.n) else .ph .Dl)=(if c=true then φ (N0+F.n) else .ph .Dl):=by
  cases hc:c with
  | false=>rfl
  | true=>have:=h.cj hc;simp only [if_true];exact upd_ne _ _ (by omega)
 have s1:=sumTo_upd φ x cU U;have s2:=sumTo_upd φ x cL U;have aq:=sumTo_upd φ x cS U;have a6:=h.cnt;have a7:=h.Ki;refine⟨h.pos,h.n1,h.H8,h.size,h.jn,h.cj,by rw [K];exact h.main,λi av aw=>by rw [upd_ne _ _ (by omega)];exact h.old i av aw,λk' O=>?_,λhc=>?_,by rw [K];omega,?_,?_,λk' O hh=>?_,by rw [K];exact h.nd,by rw [K];exact h.sub⟩
 ·by_cases e:k'=k
  ·subst e;rw [upd_same];exact ag
  ·rw [upd_ne _ _ (by omega)];exact h.work k' O
 ·have:=h.cj hc;rw [upd_ne _ _ (by omega)];exact h.cls hc
 ·rw [K];have:cU x<=1:=by cases x with
   | gone d=>simp [cU]
   | ph p=>cases p <;> simp [cU]
  have hw:=h.work k ac;have key:cU x<=cU (φ (N0+k))∨cU (φ (N0+k))<cU x:=by omega
  rcases key with hle | a8
  ·omega
  ·
   have:(sumTo N λa=>cU (upd φ (N0+k) x a))<=j:=by
    have hb:∀M,M<=N->(sumTo M λa=>cU (upd φ (N0+k) x a))<=min (M - N0) j:=by
     intro M
     induction M with
     | zero=>intro _;simp [sumTo]
     | succ M ay=>
      intro a9;have:=ay (by omega);simp only [sumTo];have bb:cU (upd φ (N0+k) x M)<=1:=by
       generalize upd φ (N0+k) x M=y;cases y with
       | gone d=>simp [cU]
       | ph p=>cases p <;> simp [cU]
      have Z:(M<N0∨N0+j<=M)->cU (upd φ (N0+k) x M)=0:=by
       intro be;rw [upd_ne _ _ (by omega)];rcases h.EH (i:=M) (by omega) with rfl | ⟨a,b⟩ | ⟨k',a,rfl⟩ | ⟨a,rfl⟩
       ·obtain⟨p,az,hm⟩:=h.main;rw [az];cases p <;> simp [HP] at hm <;> rfl
       ·have:=h.old M a b;cases Y:φ M with
        | gone d=>rfl
        | ph p=>rw [Y] at this;exact this.elim
       ·omega
       ·have:=h.cls a;cases Y:φ (N0+F.n) with
        | gone d=>rfl
        | ph p=>rw [Y] at this;cases p <;> simp [Jt] at this <;> rfl
      rcases Nat.lt_or_ge M N0 with q | q
      ·rw [Z (.inl q)];omega
      ·rcases Nat.lt_or_ge M (N0+j) with q' | q'
       ·omega
       ·rw [Z (.inr q')];omega
    have:=hb N (Nat.le_refl _);omega
   omega
 ·rw [ap];exact hm _ _ s2 aq
 ·rw [K];by_cases e:k'=k
  ·subst e;rw [upd_same];have:=h.K1 k' O hh;constructor
   ·intro a0;exact absurd a0 (am k')
   ·intro a1;exact absurd (this.2 a1) (al k')
  ·rw [upd_ne _ _ (by omega)];exact h.K1 k' O hh
theorem CB.HZ(h:CB F N0 N j c φ v wt sm cl)(hc:c=true){x:Nx}(Y:Jt x)
  (hm:Dy x v wt' sm' (sumTo N λi=>cL (φ i)) (sumTo N λi=>cS (φ i)) cl'):
  CB F N0 N j c (upd φ (N0+F.n) x) v wt' sm' cl':=by
 have Z:=h.size;have ap:=h.pos;have aq:=h.cj hc;have O:N0+F.n<N:=by rw [hc] at Z;simp at Z;omega
 have K:upd φ (N0+F.n) x 0=φ 0:=upd_ne _ _ (by omega);have z:∀y,Jt y->cU y=0/\cL y=0/\cS y=0:=by
  intro y ac;cases y with
  | gone d=>exact⟨rfl,rfl,rfl⟩
  | ph p=>cases p <;> simp [Jt] at ac <;> exact⟨rfl,rfl,rfl⟩
 have z1:=z _ (h.cls hc);have av:=z x Y;have s1:=sumTo_upd φ x cU O;have s2:=sumTo_upd φ x cL O;have aw:=sumTo_upd φ x cS O;have ay:=h.cnt;refine⟨h.pos,h.n1,h.H8,h.size,h.jn,h.cj,by rw [K];exact h.main,λi ag al=>by rw [upd_ne _ _ (by omega)];exact h.old i ag al,λk' U=>?_,λhc=>?_,by rw [K];omega,by rw [K];exact h.Ki,?_,λk' U hh=>?_,by rw [K];exact h.nd,by rw [K];exact h.sub⟩
 ·rw [upd_ne _ _ (by omega)];exact h.work k' U
 ·rw [upd_same];exact Y
 ·rw [if_pos hc,upd_same];have e2:(sumTo N λi=>cL (upd φ (N0+F.n) x i))=sumTo N λi=>cL (φ i):=by omega
  have am:(sumTo N λi=>cS (upd φ (N0+F.n) x i))=sumTo N λi=>cS (φ i):=by omega
  rw [e2,am];exact hm
 ·rw [K,upd_ne _ _ (by omega)];exact h.K1 k' U hh
theorem Se{n j:Nat}{c:Bool}{p:Ph}(h:HP n j c p):cU (.ph p)=0/\cL (.ph p)=0/\cS (.ph p)=0:=by
 cases p <;> simp [HP] at h <;> exact⟨rfl,rfl,rfl⟩
theorem CB.LK(h:CB F N0 N j c φ v wt sm cl){p:Ph}(Y:HP F.n j c p)(K:got (.ph p)=got (φ 0))(av:v'+pend (φ 0)=v+pend (.ph p))(Z:v'<=j+pend (.ph p))
  (hm:Dy (if c=true then φ (N0+F.n) else .ph .Dl) v' wt' sm' (sumTo N λi=>cL (φ i)) (sumTo N λi=>cS (φ i)) cl'):
  CB F N0 N j c (upd φ 0 (.ph p)) v' wt' sm' cl':=by
 have aw:=h.size;have ay:=h.pos;have O:0<N:=by omega
 obtain⟨az,ac,ag⟩:=h.main;have z1:=Se ag;have a0:=Se Y;rw [← ac] at z1;have s1:=sumTo_upd φ (.ph p) cU O;have s2:=sumTo_upd φ (.ph p) cL O;have a1:=sumTo_upd φ (.ph p) cS O;have a2:=h.cnt;have al:(if c=true then upd φ 0 (.ph p) (N0+F.n) else .ph .Dl)=(if c=true then φ (N0+F.n) else .ph .Dl):=by rw [upd_ne _ _ (by omega)]
 refine⟨h.pos,h.n1,h.H8,h.size,h.jn,h.cj,⟨p,upd_same _ _ _,Y⟩,λi am ap=>by rw [upd_ne _ _ (by omega)];exact h.old i am ap,λk' U=>by rw [upd_ne _ _ (by omega)];exact h.work k' U,λhc=>by rw [upd_ne _ _ (by omega)];exact h.cls hc,by rw [upd_same];omega,by rw [upd_same];exact Z,?_,λk' U hh=>?_,by rw [upd_same,K];exact h.nd,by rw [upd_same,K];exact h.sub⟩
 ·rw [al];have e2:(sumTo N λi=>cL (upd φ 0 (.ph p) i))=sumTo N λi=>cL (φ i):=by omega
  have aq:(sumTo N λi=>cS (upd φ 0 (.ph p) i))=sumTo N λi=>cS (φ i):=by omega
  rw [e2,aq];exact hm
 ·rw [upd_same,K,upd_ne _ _ (by omega)];exact h.K1 k' U hh
theorem CB.act(h:CB F N0 N j c φ v wt sm cl){i:Nat}(hi:i<N){p:Ph}(K:φ i= .ph p){es:Array Event}{a3:Nx}(O:F.act p v wt sm=some ((v',wt',sm'),es,a3)):
  CB F N0 N j c (upd φ i a3) v' wt' sm' cl:=by
 have U:=h.mode;have a5:=h.QZ;rcases h.EH hi with rfl | ⟨a,b⟩ | ⟨k,aq,rfl⟩ | ⟨hc,rfl⟩
 ·
  obtain⟨az,a4,av⟩:=h.main;have:az=p:=by rw [a4] at K;exact Nx.ph.inj K
  subst this;have a7:∀q,HP F.n j c q->(∀a6 vs,q≠ .FX a6 vs)->c=false:=by
   intro q a0 a1;cases q <;> simp [HP] at a0 <;> first | exact a0.2.2 | exact a0.2 | exact absurd rfl (a1 _ _)
  have am:=h.Ki;cases az <;> simp only [HP] at av <;> (try exact av.elim) <;> simp only [Fam.act] at O <;> (try (cases O;done))
  ·cases O;obtain⟨rfl,ap,rfl⟩:=av;exact h.LK (p:= .IF _) ⟨V,ap,V⟩ (by rw [K];rfl) (by rw [K];rfl) (by rw [K] at am;exact am) (by simpa [Dy] using U)
  ·split at O
   ·rename_i ac;cases O;obtain⟨rfl,ap,rfl⟩:=av;rw [K] at am;simp only [pend,Nat.add_zero] at am;simp only [Bool.false_eq_true,if_false,Dy] at U;split
    ·exact h.LK (p:= .IH _) ⟨V,ap,V⟩ (by rw [K];rfl) (by rw [K];simp [pend]) (by simp [pend];omega) ⟨U.1,U.2.1,U.2.2.1,V,U.2.2.2.2⟩
    ·exact h.LK (p:= .Hd _) ⟨V,ap,V⟩ (by rw [K];rfl) (by rw [K];simp [pend]) (by simp [pend];omega) ⟨U.1,U.2.1,U.2.2.1,V,U.2.2.2.2⟩
   ·cases O
  ·cases O;obtain⟨rfl,ap,rfl⟩:=av;exact h.LK (p:= .Hd _) ⟨V,ap,V⟩ (by rw [K];rfl) (by rw [K];rfl) (by rw [K] at am;exact am) (by simpa [Dy] using U)
  ·cases O;obtain⟨rfl,ap,rfl⟩:=av;exact h.LK (p:= .F2 _) ⟨V,ap,V⟩ (by rw [K];rfl) (by rw [K];rfl) (by rw [K] at am;exact am) (by simpa [Dy] using U)
  ·cases O;obtain⟨rfl,ap,rfl⟩:=av;exact h.LK (p:= .HU _) ⟨V,ap,V⟩ (by rw [K];rfl) (by rw [K];rfl) (by rw [K] at am;exact am) (by simpa [Dy] using U)
 ·have:=h.old i a b;rw [K] at this;exact this.elim
 ·
  have hw:=h.work k aq;rw [K] at hw;have a8:∀q k',q=Nx.ph p->(∀k',p≠ .Hs k')->q≠ .ph (.Hs k'):=by
   rintro q k' rfl a1 e;exact a1 k' (Nx.ph.inj e)
  cases p <;> simp only [G3] at hw <;> (try exact hw.elim) <;> simp only [Fam.act] at O <;> (try (cases O;done))
  ·cases O;refine h.ID aq (x:= .ph .I2) trivial (λk'=>by rw [K];simp) (by simp) (by rw [K];rfl) λL S Y Z=>?_;rw [K] at Y Z;simp only [cL,cS,Nat.add_zero] at Y Z;subst Y Z;exact U
  ·cases O;refine h.ID aq (x:= .ph .Hu) trivial (λk'=>by rw [K];simp) (by simp) (by rw [K];rfl) λL S Y Z=>?_;rw [K] at Y Z;simp only [cL,cS,Nat.add_zero] at Y Z;subst Y Z;exact U
  ·split at O
   ·rename_i ac;cases O;have ay:∀y ag al L S,y=(if c=true then φ (N0+F.n) else .ph .Dl)->Dy y v wt sm ag al cl->(if v=1/\wt=1 then L=ag+1 else L=ag)->S=al->Dy y (v - 1) wt sm L S cl:=by
     intro y ag al L S a9 hm Y Z;cases y with
     | gone d=>simp only [Dy] at hm ⊢;split at Y <;> omega
     | ph q=>
      cases q <;> simp only [Dy] at hm ⊢ <;> (try exact hm) <;> (try (split at Y <;> omega))
      ·split at Y
       ·exfalso;omega
       ·exact⟨by omega,by omega,by omega,by omega,hm.2.2.2.2⟩
      ·split at Y
       ·exfalso;omega
       ·exact⟨by omega,by omega,by omega,by omega,hm.2.2.2.2.1,by omega⟩
      ·split at Y
       ·exfalso;omega
       ·exact⟨by omega,by omega,by omega,by omega,hm.2.2.2.2.1,by omega,by omega⟩
      ·split at Y
       ·exact⟨by omega,by omega,hm.2.2⟩
       ·exact⟨by omega,by omega,hm.2.2⟩
      ·split at Y
       ·exact⟨by omega,by omega,hm.2.2⟩
       ·exact⟨by omega,by omega,hm.2.2⟩
      ·split at Y
       ·exact⟨by omega,by omega,hm.2.2⟩
       ·exact⟨by omega,by omega,hm.2.2⟩
    split
    ·rename_i aw;refine h.ID aq (x:= .ph .G5) trivial (λk'=>by rw [K];simp) (by simp) (by rw [K];simp [cU];omega) λL S Y Z=>?_;rw [K] at Y Z;simp only [cL,cS,Nat.add_zero] at Y Z;exact ay _ _ _ L S V U (by rw [if_pos aw];exact Y) Z
    ·rename_i aw;refine h.ID aq (x:= .gone 1) trivial (λk'=>by rw [K];simp) (by simp) (by rw [K];simp [cU];omega) λL S Y Z=>?_;rw [K] at Y Z;simp only [cL,cS,Nat.add_zero] at Y Z;exact ay _ _ _ L S V U (by rw [if_neg aw];exact Y) Z
   ·cases O
  ·split at O
   ·rename_i ac;cases O;refine h.ID aq (x:= .ph .Hp) trivial (λk'=>by rw [K];simp) (by simp) (by rw [K];simp [cU];omega) λL S Y Z=>?_;rw [K] at Y Z;simp only [cL,cS,Nat.add_zero] at Y Z;have e:L=sumTo N λi=>cL (φ i):=by
     have bb:L+1=(sumTo N λi=>cL (φ i))+1:=Y;omega
    obtain⟨aw,a2⟩:=ac;subst e Z aw a2;exact U
   ·cases O
  ·split at O
   ·rename_i ac;cases O;obtain⟨aw,a2⟩:=ac;subst aw a2;refine h.ID aq (x:= .ph .FA) trivial (λk'=>by rw [K];simp) (by simp) (by rw [K];simp [cU]) λL S Y Z=>?_;rw [K] at Y Z;simp only [cL,cS,Nat.add_zero] at Y Z;have ay:∀y ag al,Dy y 0 1 sm ag al cl->L+1=ag->S=al+1->Dy y 0 0 sm L S cl:=by
     intro y ag al hm Y Z;cases y with
     | gone d=>simp only [Dy] at hm ⊢;omega
     | ph q=>
      cases q <;> simp only [Dy] at hm ⊢ <;> (try exact hm) <;> (try (exfalso;omega))
      ·exact⟨by omega,by omega,hm.2.2⟩
      ·exact⟨by omega,by omega,hm.2.2⟩
      ·exact⟨by omega,by omega,hm.2.2⟩
    exact ay _ _ _ U Y Z
   ·cases O
  ·split at O
   ·rename_i ac;cases O;subst ac;refine h.ID aq (x:= .gone 1) trivial (λk'=>by rw [K];simp) (by simp) (by rw [K];simp [cU]) λL S Y Z=>?_;rw [K] at Y Z;simp only [cL,cS,Nat.add_zero] at Y Z;have ay:∀y ag al,Dy y v wt 0 ag al cl->L=ag->S+1=al->Dy y v wt 1 L S cl:=by
     intro y ag al hm Y Z;cases y with
     | gone d=>simp only [Dy] at hm ⊢;omega
     | ph q=>
      cases q <;> simp only [Dy] at hm ⊢ <;> (try exact hm) <;> (try (exfalso;omega))
      ·exact⟨by omega,by omega,hm.2.2⟩
      ·exact⟨by omega,by omega,hm.2.2⟩
      ·exact⟨by omega,by omega,hm.2.2⟩
    exact ay _ _ _ U Y Z
   ·cases O
  ·cases O;refine h.ID aq (x:= .ph .GJ) trivial (λk'=>by rw [K];simp) (by simp) (by rw [K];rfl) λL S Y Z=>?_;rw [K] at Y Z;simp only [cL,cS,Nat.add_zero] at Y Z;subst Y Z;exact U
 ·
  have hw:=h.cls hc;rw [if_pos hc,K] at U;rw [K] at hw;obtain⟨az,a4,av⟩:=h.main;cases p <;> simp only [Jt] at hw <;> (try exact hw.elim) <;> simp only [Fam.act] at O <;> (try (cases O;done)) <;> simp only [Dy] at U
  ·cases O;exact h.HZ hc (x:= .ph (.Ge F.n)) trivial ⟨U.1,U.2.1,U.2.2.1,U.2.2.2.1,U.2.2.2.2,a5⟩
  ·split at O
   ·rename_i m ac;cases O;split
    ·exact h.HZ hc (x:= .ph .Gh) trivial ⟨U.1,U.2.1,U.2.2.1,V,by assumption,U.2.2.2.2.1⟩
    ·exact h.HZ hc (x:= .ph (.Hx _)) trivial ⟨U.1,U.2.1,U.2.2.1,V,U.2.2.2.2.1,Nat.le_refl _,by omega⟩
   ·cases O
  ·split at O
   ·rename_i m ac;split at O
    ·cases O;exact h.HZ hc (x:= .ph .II) trivial ⟨by omega,by omega,U.2.2.2.2.1⟩
    ·cases O;exact h.HZ hc (x:= .ph (.Ge _)) trivial ⟨U.1,U.2.1,U.2.2.1,V,U.2.2.2.2.1,by omega⟩
   ·cases O
  ·cases O;exact h.HZ hc (x:= .ph .FL) trivial U
  ·split at O
   ·rename_i ac;cases O;exact h.HZ hc (x:= .ph .Hq) trivial ⟨by omega,by omega,V,by omega,by omega,U.2.2⟩
   ·cases O
  ·split at O
   ·rename_i ac;obtain⟨rfl,rfl⟩:=ac;cases O;exact h.HZ hc (x:= .ph .Gh) trivial U
   ·cases O
  ·cases O;exact h.HZ hc (x:= .ph .IC) trivial U
  ·cases O;exact h.HZ hc (x:= .ph .H6) trivial U
  ·cases O;exact h.HZ hc (x:= .ph .Gv) trivial U
end
open Go.ConcN (fork_knows)
section
variable {F:Fam}{N0 N j:Nat}{c:Bool}{φ:Nat->Nx}{v wt sm:Nat}{cl:Bool}
theorem CB.spawn(h:CB F N0 N j c φ v wt sm cl)(U:φ 0= .ph (.F2 j)):
  CB F N0 (N+1) (j+1) c (upd (upd φ N (.ph (F.start j))) 0 (.ph (F.FI j))) v wt sm cl:=by
 obtain⟨av,aw,ay⟩:=h.main;obtain rfl:av= .F2 j:=by rw [aw] at U;exact Nx.ph.inj U
 obtain⟨_,a3,rfl⟩:=ay;have az:=h.size;have a4:=h.pos;simp only [Bool.toNat_false,Nat.add_zero] at az;have Y:cU (.ph (F.start j))=1/\cL (.ph (F.start j))=0/\cS (.ph (F.start j))=0:=by
  exact⟨V,V,V⟩
 have K:cU (.ph (F.FI j))=0/\cL (.ph (F.FI j))=0/\cS (.ph (F.FI j))=0/\pend (.ph (F.FI j))=0/\got (.ph (F.FI j))= []:=by
  unfold Fam.FI;split <;> exact⟨rfl,rfl,rfl,rfl,rfl⟩
 have Z:cU (φ 0)=0/\cL (φ 0)=0/\cS (φ 0)=0:=by rw [U];exact⟨V,V,V⟩
 let φ':Nat->Nx:=upd (upd φ N (.ph (F.start j))) 0 (.ph (F.FI j));have O:φ' 0= .ph (F.FI j):=upd_same _ _ _;have aq:φ' N= .ph (F.start j):=by show upd _ _ _ _=_;rw [upd_ne _ _ (by omega),upd_same]
 have ac:∀i,0<i->i≠N->φ' i=φ i:=λi ag al=>by show upd _ _ _ _=_;rw [upd_ne _ _ (by omega),upd_ne _ _ al]
 have sum:∀f:Nx->Nat,f (φ 0)=0->f (.ph (F.FI j))=0->(sumTo (N+1) λi=>f (φ' i))=(sumTo N λi=>f (φ i))+f (.ph (F.start j)):=by
  intro f f0 f1;simp only [sumTo,aq];congr 1;have a0:0<N:=by omega
  have:=sumTo_upd (upd φ N (.ph (F.start j))) (.ph (F.FI j)) f a0;have e2:upd φ N (.ph (F.start j)) 0=φ 0:=upd_ne _ _ (by omega);rw [e2,f0,f1] at this;have a5:=sumTo_upd_out φ (.ph (F.start j)) f (i:=N) (j:=N) (Nat.le_refl _);show sumTo N (λi=>f (upd (upd φ N (.ph (F.start j))) 0 (.ph (F.FI j)) i))=_;omega
 have am:=h.cnt;have ap:=h.Ki;rw [U] at am ap;simp only [pend] at am ap;show CB F N0 (N+1) (j+1) false φ' v wt sm cl;have a1:got (φ 0)= []:=by rw [U];rfl
 refine⟨h.pos,h.n1,h.H8,by simp;omega,by omega,by simp,⟨F.FI j,O,?_⟩,λi ag al=>by rw [ac i ag (by omega)];exact h.old i ag al,λk a2=>?_,by simp,?_,?_,?_,λk a2 hh=>?_,by rw [O,K.2.2.2.2];exact .nil,by rw [O,K.2.2.2.2];simp⟩
 ·unfold Fam.FI;split
  ·exact⟨by assumption,V⟩
  ·exact⟨V,by omega,V⟩
 ·by_cases e:k=j
  ·subst e;rw [show N0+k=N by omega,aq];exact V
  ·rw [ac _ (by omega) (by omega)];exact h.work k (by omega)
 ·rw [O,K.2.2.2.1,sum cU Z.1 K.1,Y.1];exact am
 ·rw [O,K.2.2.2.1];exact ap
 ·have hm:=h.mode;simp only [Bool.false_eq_true,if_false] at hm ⊢;rw [sum cL Z.2.1 K.2.1,sum cS Z.2.2 K.2.2.1,Y.2.1,Y.2.2];exact hm
 ·rw [O,K.2.2.2.2];by_cases e:k=j
  ·exact absurd hh Bool.false_ne_true
  ·rw [ac _ (by omega) (by omega)];have:=h.K1 k (by omega) hh
   rwa [a1] at this
theorem CB.bK(h:CB F N0 N j c φ v wt sm cl)(O:φ 0= .ph .G7):
  CB F N0 (N+1) j true (upd (upd φ N (.ph .Dl)) 0 (.ph (.FX [] []))) v wt sm cl:=by
 obtain⟨av,aw,ay⟩:=h.main;obtain rfl:av= .G7:=by rw [aw] at O;exact Nx.ph.inj O
 obtain⟨aq,rfl⟩:=ay;have az:=h.size;have a2:=h.pos;simp only [Bool.toNat_false,Nat.add_zero] at az;have U:cU (φ 0)=0/\cL (φ 0)=0/\cS (φ 0)=0:=by rw [O];exact⟨V,V,V⟩
 let φ':Nat->Nx:=upd (upd φ N (.ph .Dl)) 0 (.ph (.FX [] []));have K:φ' 0= .ph (.FX [] []):=upd_same _ _ _;have Y:φ' N= .ph .Dl:=by show upd _ _ _ _=_;rw [upd_ne _ _ (by omega),upd_same]
 have Z:∀i,0<i->i≠N->φ' i=φ i:=λi ac ag=>by show upd _ _ _ _=_;rw [upd_ne _ _ (by omega),upd_ne _ _ ag]
 have sum:∀f:Nx->Nat,f (φ 0)=0->f (.ph (.FX [] []))=0->f (.ph .Dl)=0->(sumTo (N+1) λi=>f (φ' i))=(sumTo N λi=>f (φ i)):=by
  intro f f0 f1 f2;simp only [sumTo,Y,f2];have a0:0<N:=by omega
  have:=sumTo_upd (upd φ N (.ph .Dl)) (.ph (.FX [] [])) f a0;have e2:upd φ N (.ph .Dl) 0=φ 0:=upd_ne _ _ (by omega);rw [e2,f0,f1] at this;have a3:=sumTo_upd_out φ (.ph .Dl) f (i:=N) (j:=N) (Nat.le_refl _);show sumTo N (λi=>f (upd (upd φ N (.ph .Dl)) 0 (.ph (.FX [] [])) i))+0=_;omega
 have al:=h.cnt;have am:=h.Ki;rw [O] at al am;simp only [pend] at al am;show CB F N0 (N+1) j true φ' v wt sm cl;have a1:got (φ 0)= []:=by rw [O];rfl
 refine⟨h.pos,h.n1,h.H8,by simp;omega,h.jn,λ_=>aq,⟨.FX [] [],K,aq,V⟩,λi ac ag=>by rw [Z i ac (by omega)];exact h.old i ac ag,λk ap=>?_,λ_=>by rw [show N0+F.n=N by omega,Y];trivial,?_,?_,?_,λk ap hh=>?_,by rw [K];exact .nil,by rw [K];simp [got]⟩
 ·rw [Z _ (by omega) (by omega)];exact h.work k ap
 ·rw [K,sum cU U.1 rfl rfl];exact al
 ·rw [K];exact am
 ·have hm:=h.mode;simp only [Bool.false_eq_true,if_false,if_true] at hm ⊢;rw [show N0+F.n=N by omega,Y,sum cL U.2.1 rfl rfl,sum cS U.2.2 rfl rfl];exact hm
 ·rw [K];rw [Z _ (by omega) (by omega)];have:=h.K1 k ap hh
  rwa [a1] at this
theorem CB.leave(h:CB F N0 N j c φ v wt sm cl){i d d':Nat}(hi:i<N)(K:φ i= .gone d):CB F N0 N j c (upd φ i (.gone d')) v wt sm cl:=by
 rcases h.EH hi with rfl | ⟨a,b⟩ | ⟨k,U,rfl⟩ | ⟨hc,rfl⟩
 ·obtain⟨p,Y,_⟩:=h.main;rw [K] at Y;cases Y
 ·have al:=hi;have z:∀f:Nx->Nat,f (.gone d)=0->f (.gone d')=0->(sumTo N λa=>f (upd φ i (.gone d') a))=sumTo N λa=>f (φ a):=by
   intro f f0 f1;have:=sumTo_upd φ (.gone d') f al;rw [K] at this;omega
  have av:=h.size;have O:upd φ i (.gone d') 0=φ 0:=upd_ne _ _ (by omega);refine⟨h.pos,h.n1,h.H8,h.size,h.jn,h.cj,by rw [O];exact h.main,λZ am ap=>?_,λk U=>by rw [upd_ne _ _ (by omega)];exact h.work k U,λhc=>by rw [upd_ne _ _ (by omega)];exact h.cls hc,by rw [O,z cU rfl rfl];exact h.cnt,by rw [O];exact h.Ki,?_,λk U hh=>by rw [O,upd_ne _ _ (by omega)];exact h.K1 k U hh,by rw [O];exact h.nd,by rw [O];exact h.sub⟩
  ·by_cases e:Z=i
   ·subst e;rw [upd_same];trivial
   ·rw [upd_ne _ _ e];exact h.old Z am ap
  ·rw [z cL rfl rfl,z cS rfl rfl,upd_ne _ _ (by omega)];exact h.mode
 ·refine h.ID U (x:= .gone d') trivial (by rw [K];simp) (by simp) (by rw [K];rfl) λL S ac ag=>?_;rw [K] at ac ag;have aq:L=sumTo N λi=>cL (φ i):=ac;have e2:S=sumTo N λi=>cS (φ i):=ag;subst aq e2;exact h.mode
 ·have hm:=h.mode;rw [if_pos hc,K] at hm;exact h.HZ hc (x:= .gone d') trivial hm
theorem CB.Zg(h:CB F N0 N j c φ v wt sm cl)(hc:c=true)(O:φ (N0+F.n)= .ph .Hq∨φ (N0+F.n)= .ph .Gh∨φ (N0+F.n)= .ph .Gv∨φ (N0+F.n)= .ph .HR∨Oh (φ (N0+F.n))):∀k,k<j->Oh (φ (N0+k)):=by
 intro k U;have hm:=h.mode;rw [if_pos hc] at hm;have Y:=h.size;have Z:=h.cnt;have ac:cU (φ (N0+k))<=sumTo N λi=>cU (φ i):=le_sumTo (f:=λi=>cU (φ i)) (show N0+k<N by omega);have ag:cL (φ (N0+k))<=sumTo N λi=>cL (φ i):=le_sumTo (f:=λi=>cL (φ i)) (show N0+k<N by omega);have al:cS (φ (N0+k))<=sumTo N λi=>cS (φ i):=le_sumTo (f:=λi=>cS (φ i)) (show N0+k<N by omega);have am:v=0/\(sumTo N λi=>cL (φ i))=0/\(sumTo N λi=>cS (φ i))=0:=by
  rcases O with e | e | e | e | e
  ·rw [e] at hm;exact⟨hm.2.2.2.2.1,hm.1,hm.2.1⟩
  ·rw [e] at hm;exact⟨hm.2.2.2.2.1,hm.1,hm.2.1⟩
  ·rw [e] at hm;exact⟨hm.2.2.2.2.1,hm.1,hm.2.1⟩
  ·rw [e] at hm;exact⟨hm.2.2.2.2.1,hm.1,hm.2.1⟩
  ·cases K:φ (N0+F.n) with
   | gone d=>rw [K] at hm;exact⟨hm.2.2.2.2.1,hm.1,hm.2.1⟩
   | ph p=>rw [K] at e;exact e.elim
 have hw:=h.work k U;cases K:φ (N0+k) with
 | gone d=>trivial
 | ph p=>
  have ap:1<=cU (φ (N0+k))+cL (φ (N0+k))+cS (φ (N0+k)):=by
   rw [K] at hw ⊢;cases p <;> simp only [G3] at hw <;> simp [cU,cL,cS]
  exfalso;omega
end
open Go.ConcN (RelBy)
def dl:LP->Nat
 | .Hr | .Ep _ _ _ | .Cl _ _ _ _ | .IB _ | .Cv _ | .Gf | .ED _ | .En _ | .len=>1
 | .H2 | .ET _ | .Hw | .Fg _ | .Fl=>1
 | _=>0
def F1:Nx->Nat
 | .gone d=>d
 | .ph .Hu | .ph .G5 | .ph .Hp | .ph .FA=>1
 | .ph (.Ge _) | .ph (.Hx _) | .ph .II | .ph .H6 | .ph .FL | .ph .Hq | .ph .Gh=>1
 | .ph (.IF _) | .ph (.IH _) | .ph (.HU _) | .ph (.Hd _)=>1
 | .ph (.lk _ p)=>dl p
 | _=>0
def late:Nx->Prop
 | .ph (.Hs _) | .ph .H7 | .ph .GJ | .ph (.lk _ _)=>False
 | _=>True
def KE(t:Trace)(E:LH)(ρ:Nat):Prop:=∀b,E b≠none->∀x a,touchAt t x=some a->CM a.loc=some b->a.write=true->Before t x ρ
structure Fi (F:Fam) (N0 t0 N j:Nat) (φ:Nat->Nx) (S:Nat->St) (t:Trace):Prop where
 deaf:∀i,i<N->Deaf t i=F1 (φ i)
 above:∀i,N<=i->Deaf t i=0
 plain:∀x a b,touchAt t x=some a->CM a.loc=some b->(b=F.wg∨b=F.mu)->a.kind= .plain->∀i,i<N->(i=0∨N0<=i)->Knows t i x
 said:∀x a b,touchAt t x=some a->CM a.loc=some b->(b=F.wg∨b=F.mu)->a.kind= .said->Knows t 0 x
 Gy:∀x a,touchAt t x=some a->CM a.loc=some F.fd->(∀i,i<N->(i=0∨N0<=i)->Knows t i x)∨∃k,k<j/\t.g? x=some (N0+k)/\t.counts x/\a.loc= .cell ⟨F.fd,k,none⟩
 over:∀x g,t.g? x=some g->g≠0->t.counts x->(∃y,t.g? y=some 0/\HappensBefore t x y)∨(N0<=g/\g<N)
 norel:∀x,t0<=x->t.act? x≠some (.mark (.release F.sA))
 MG:t0<=t.size
 rel:∀k,k<j->late (φ (N0+k))->∃ρ,t0<=ρ/\RelBy F.sA t (N0+k) ρ/\KE t (S (N0+k)).E ρ
section
variable {F:Fam}{N0 t0 N j:Nat}{φ:Nat->Nx}{S:Nat->St}{t u:Trace}
def EvS(F:Fam)(N0 j i:Nat)(e:Event):Prop:=
 (∀a,(MemAct.ofEvent e).touch? =some a->∃b,CM a.loc=some b/\(((b=F.wg∨b=F.mu)/\a.kind≠ .plain/\(a.kind= .said->i=0))∨(b=F.fd/\∃k,k<j/\i=N0+k/\a.loc= .cell ⟨F.fd,k,none⟩/\a.kind= .plain)))/\e.loc≠ .mark (.release F.sA)
theorem Fi.noRace(h:Fi F N0 t0 N j φ S t)(hc:∀said,¬Race said t){i:Nat}(hi:i<N)(Z:i=0∨N0<=i){fn:FuncId}{pos:String}{es:Array Event}
  (am:∀e∈es,EvS F N0 j i e):∀said,¬Race said (t++MemOp.ofEvents i fn pos es):=by
 intro said;refine noRace_append (g:=i) (hc said) (λop O=>by obtain⟨e,_,rfl⟩:=mem_ofEvents O;rfl) λx a U op O d hd ap=>?_;obtain⟨e,he,rfl⟩:=mem_ofEvents O;obtain⟨b,hb,K⟩:=(am e he).1 d hd;obtain⟨ac,hm,a2,aq⟩:=ap;have Y:CM a.loc=some b:=by rw [ac];exact hb
 rcases K with⟨K,ag,av⟩ | ⟨rfl,k,ag,aw,ay,_⟩
 ·rcases aq with q | q | ⟨_,q,q'⟩
  ·exact h.plain x a b U Y K q i hi Z
  ·exact absurd q ag
  ·have:=h.said x a b U Y K q
   rwa [← av q'] at this
 ·rcases h.Gy x a U Y with q | ⟨k',_,az,_,al⟩
  ·exact q i hi Z
  ·rw [ac,ay] at al;have:k=k':=by simpa using al
   subst this;obtain⟨z,a0,a1⟩:=Option.map_eq_some_iff.1 az;have:=knows_own a0;rw [a1,← aw] at this;exact this
theorem PM(h:∀x g,t.g? x=some g->g≠0->t.counts x->(∃y,t.g? y=some 0/\HappensBefore t x y)∨(N0<=g/\g<N))(hu:∀op∈u,op.g=0∨(N0<=op.g/\op.g<N)∨op.act.touch? =none):
  ∀x g,(t++u).g? x=some g->g≠0->(t++u).counts x->(∃y,(t++u).g? y=some 0/\HappensBefore (t++u) x y)∨(N0<=g/\g<N):=by
 intro x g O U hc;rcases Nat.lt_or_ge x t.size with q | q
 ·rcases h x g (by rw [← g?_old (u:=u) q];exact O) U ((counts_old q).1 hc) with⟨y,K,hb⟩ | hh
  ·have ag:y<t.size:=by
    unfold Trace.g? at K;obtain⟨z,al,_⟩:=Option.map_eq_some_iff.1 K;exact lt_size_of_getElem? al
   exact .inl ⟨y,by rw [g?_old ag];exact K,hb_app u hb⟩
  ·exact .inr hh
 ·obtain⟨a,am,_⟩:=hc;obtain⟨op,Y,Z⟩:=touch_of am;have ac:op.g=g:=by simpa [Trace.g?,Y] using O
  rcases getElem?_append_cases Y with⟨aq,_⟩ | ⟨_,ap⟩
  ·omega
  ·rcases hu op ap with z | z | z
   ·exact absurd (ac▸z) U
   ·exact .inr (ac▸z)
   ·rw [z] at Z;cases Z
theorem Px(h:∀x,t0<=x->t.act? x≠some (.mark (.release F.sA)))(hu:∀op∈u,op.act≠ .mark (.release F.sA)):∀x,t0<=x->(t++u).act? x≠some (.mark (.release F.sA)):=by
 intro x O e;obtain⟨op,U,K⟩:=Option.map_eq_some_iff.1 e;rcases getElem?_append_cases U with⟨_,Y⟩ | ⟨_,Z⟩
 ·exact h x O (by rw [act?_of Y,K])
 ·exact hu op Z K
theorem Vu{g:Nat}(hu:∀op∈u,op.g=g->op.act.touch? =none):∀x,t.size<=x->(t++u).g? x=some g->¬(t++u).counts x:=by
 intro x ac U hc;obtain⟨a,Y,_⟩:=hc;obtain⟨op,K,O⟩:=touch_of Y;rcases getElem?_append_cases K with⟨ag,_⟩ | ⟨_,Z⟩
 ·omega
 ·rw [hu op Z (by simpa [Trace.g?,K] using U)] at O;cases O
theorem KE.app{E:LH}{ρ:Nat}(h:KE t E ρ)(hu:∀op∈u,∀a b,op.act.touch? =some a->CM a.loc=some b->a.write=true->E b=none):KE (t++u) E ρ:=by
 intro b hb x a U K hw;obtain⟨op,Y,O⟩:=touch_of U;rcases getElem?_append_cases Y with⟨ag,Z⟩ | ⟨_,ac⟩
 ·exact(h b hb x a (by rw [touchAt_of Z];exact O) K hw).app u
 ·exact absurd (hu op ac a b O K hw) hb
theorem Fi.app(h:Fi F N0 t0 N j φ S t){i:Nat}(hi:i<N){x:Nx}{s':St}{fn:FuncId}{pos:String}{es:Array Event}
  (hd:deafBehind (F1 (φ i)) es=F1 x)
  (aq:∀e∈es,(∀a b,(MemAct.ofEvent e).touch? =some a->CM a.loc=some b->(b=F.wg∨b=F.mu)->a.kind≠ .plain/\(a.kind= .said->i=0))/\
   (∀a,(MemAct.ofEvent e).touch? =some a->CM a.loc=some F.fd->∃k,k<j/\i=N0+k/\a.loc= .cell ⟨F.fd,k,none⟩/\a.kind= .plain)/\e.loc≠ .mark (.release F.sA))
  (a7:(i=0∨N0<=i)∨∀e∈es,(MemAct.ofEvent e).touch? =none)
  (a8:∀k,k<j->late (φ (N0+k))->∀e∈es,∀a b,(MemAct.ofEvent e).touch? =some a->CM a.loc=some b->a.write=true->(S (N0+k)).E b=none)
  (aw:∀k,k<j->i=N0+k->late x->(late (φ i)/\s'.E=(S i).E/\∀ρ,RelBy F.sA t i ρ->RelBy F.sA (t++MemOp.ofEvents i fn pos es) i ρ)∨∃ρ,t0<=ρ/\RelBy F.sA (t++MemOp.ofEvents i fn pos es) i ρ/\KE (t++MemOp.ofEvents i fn pos es) s'.E ρ):
  Fi F N0 t0 N j (upd φ i x) (upd S i s') (t++MemOp.ofEvents i fn pos es):=by
 generalize hu:MemOp.ofEvents i fn pos es=u at*;have ag:∀op∈u,op.g=i:=λop O=>by rw [← hu] at O;obtain⟨e,_,rfl⟩:=mem_ofEvents O;rfl
 have av:∀op∈u,∃e∈es,op.act=MemAct.ofEvent e:=λop O=>by rw [← hu] at O;obtain⟨e,he,rfl⟩:=mem_ofEvents O;exact⟨e,he,V⟩
 have hold:∀{y a},touchAt (t++u) y=some a->(touchAt t y=some a/\y<t.size)∨(Knows (t++u) i y/\(t++u).g? y=some i/\∃e∈es,(MemAct.ofEvent e).touch? =some a):=by
  intro y a a9;obtain⟨op,O,a1⟩:=touch_of a9;rcases getElem?_append_cases O with⟨aw,bb⟩ | ⟨_,ay⟩
  ·left;exact⟨by rw [touchAt_of bb];exact a1,aw⟩
  ·right;obtain⟨e,he,Z⟩:=av op ay;exact⟨by have:=knows_own O;rwa [ag op ay] at this,by simp [Trace.g?,O,ag op ay],e,he,by rw [← Z];exact a1⟩
 have a2:∀k,k<j->late (φ (N0+k))->∀ρ,KE t (S (N0+k)).E ρ->KE (t++u) (S (N0+k)).E ρ:=λk K U ρ be=>be.app λop bi a b a3 hb hw=>by
  obtain⟨e,he,Z⟩:=av op bi;rw [Z] at a3;exact a8 k K U e he a b a3 hb hw
 refine⟨λY ac=>?_,λY ac=>?_,λy a b al hb am K Y ac az=>?_,λy a b al hb am K=>?_,λy a al hb=>?_,PM h.over λop O=>?_,Px h.norel λop O e=>?_,by simp;have:=h.MG;omega,λk K U=>?_⟩
 ·by_cases e:Y=i
  ·subst e;rw [upd_same,← hu,Deaf_own,h.deaf Y hi,hd]
  ·rw [upd_ne _ _ e,Deaf_other t (Ne.symm e) u ag];exact h.deaf Y ac
 ·rw [Deaf_other t (by omega) u ag];exact h.above Y ac
 ·rcases hold al with⟨q,_⟩ | ⟨_,_,e,he,ap⟩
  ·exact(h.plain y a b q hb am K Y ac az).app _
  ·exact absurd K ((aq e he).1 a b ap hb am).1
 ·rcases hold al with⟨q,_⟩ | ⟨a4,_,e,he,ap⟩
  ·exact(h.said y a b q hb am K).app _
  ·rw [← ((aq e he).1 a b ap hb am).2 K];exact a4
 ·rcases hold al with⟨q,a5⟩ | ⟨a4,a0,e,he,ap⟩
  ·rcases h.Gy y a q hb with z | ⟨k,K,a0,hc,U⟩
   ·exact .inl λY ac az=>(z Y ac az).app _
   ·exact .inr ⟨k,K,by rw [g?_old a5];exact a0,(counts_old a5).2 hc,U⟩
  ·obtain⟨k,K,bn,U,bo⟩:=(aq e he).2.1 a ap hb;exact .inr ⟨k,K,by rw [a0,bn],⟨a,al,by rw [U];rfl,.inl (by rw [bo];simp)⟩,U⟩
 ·rw [ag op O];rcases a7 with(q | q) | q
  ·exact .inl q
  ·exact .inr (.inl ⟨q,hi⟩)
  ·obtain⟨e,he,Z⟩:=av op O;rw [Z];exact .inr (.inr (q e he))
 ·obtain⟨ev,bv,Z⟩:=av op O;rw [Z] at e;exact(aq ev bv).2.2 (by
   obtain⟨loc,wr,bw⟩:=ev
   cases loc with
   | mark m=>simp only [MemAct.ofEvent,MemAct.mark.injEq] at e;rw [e]
   | obj r=>cases wr <;> cases bw <;> simp [MemAct.ofEvent] at e
   | _=>simp [MemAct.ofEvent] at e)
 ·by_cases e:i=N0+k
  ·subst e;rw [upd_same] at U;rw [upd_same];rcases aw k K rfl U with⟨a6,bx,bz⟩ | hh
   ·obtain⟨ρ,a,b,c⟩:=h.rel k K a6;exact⟨ρ,a,bz ρ b,by rw [bx];exact a2 k K a6 ρ c⟩
   ·exact hh
  ·rw [upd_ne _ _ (Ne.symm e)] at U;rw [upd_ne _ _ (Ne.symm e)];obtain⟨ρ,a,b,c⟩:=h.rel k K U;exact⟨ρ,a,b.appOther ag e,a2 k K U ρ c⟩
theorem Fi.Dg(h:Fi F N0 t0 N j φ S t)(hu:∀op∈u,op.act.touch? =none/\∀m,op.act≠ .mark m):Fi F N0 t0 N j φ S (t++u):=by
 have ap:∀g,Deaf (t++u) g=Deaf t g:=by
  intro g;obtain⟨l⟩:=u;rw [Deaf_append];have key:∀(l:List MemOp) (d:Nat),(∀op∈l,∀m,op.act≠ .mark m)->l.foldl (deafStep g) d=d:=by
   intro l
   induction l with
   | nil=>intro d _;rfl
   | cons z l aw=>
    intro d U;have ay:=U z (by simp);have e2:deafStep g d z=d:=by
     unfold deafStep;split <;> first | (rename_i e;exact absurd e (ay _)) | rfl
    rw [List.foldl_cons,e2];exact aw d λop K=>U op (by simp [K])
  exact key l _ λop K=>(hu op (by simpa using K)).2
 have hold:∀{y a},touchAt (t++u) y=some a->touchAt t y=some a/\y<t.size:=by
  intro y a Z;obtain⟨op,K,ac⟩:=touch_of Z;rcases getElem?_append_cases K with⟨az,a0⟩ | ⟨_,a1⟩
  ·exact⟨by rw [touchAt_of a0];exact ac,az⟩
  ·rw [(hu op a1).1] at ac;cases ac
 have a2:∀g x,t.size<=x->(t++u).g? x=some g->¬(t++u).counts x:=λg=>Vu λop K _=>(hu op K).1;refine⟨λi hi=>by rw [ap];exact h.deaf i hi,λi hi=>by rw [ap];exact h.above i hi,λy a b Y hb ag O i hi al=>(h.plain y a b (hold Y).1 hb ag O i hi al).app _,λy a b Y hb ag O=>(h.said y a b (hold Y).1 hb ag O).app _,λy a Y hb=>?_,
  PM h.over λop K=> .inr (.inr (hu op K).1),Px h.norel λop K=>(hu op K).2 _,by simp;have:=h.MG;omega,λk O U=>let ⟨ρ,a,b,c⟩:=h.rel k O U;⟨ρ,a,b.app λx Z am=>a2 _ x Z am,c.app λop K a b aq=>by rw [(hu op K).1] at aq;cases aq⟩⟩
 obtain⟨q,av⟩:=hold Y;rcases h.Gy y a q hb with z | ⟨k,O,am,hc,U⟩
 ·exact .inl λa3 a4 al=>(z a3 a4 al).app _
 ·exact .inr ⟨k,O,by rw [g?_old av];exact am,(counts_old av).2 hc,U⟩
theorem Fi.spawn(h:Fi F N0 t0 N j φ S t){φ':Nat->Nx}{S':Nat->St}(ac:0<N)(a9:N=N0+j)(hd:∀i,i<N->F1 (φ' i)=F1 (φ i))(a2:F1 (φ' N)=0)(a3:F1 (φ 0)=0)
  (a4:∀k,k<j+1->late (φ' (N0+k))->k<j/\late (φ (N0+k))/\(S' (N0+k)).E=(S (N0+k)).E)
  {x y:MemOp} (Z:x.g=0/\x.act= .go N) (aq:y.g=N/\y.act= .start):Fi F N0 t0 (N+1) (j+1) φ' S' (t++ #[x,y]):=by
 have hu:∀op∈(#[x,y]:Array MemOp),op.act.touch? =none/\∀m,op.act≠ .mark m:=by
  intro op av;simp only [List.mem_toArray,List.mem_cons,List.not_mem_nil,or_false] at av;rcases av with rfl | rfl
  ·rw [Z.2];exact⟨V,by simp⟩
  ·rw [aq.2];exact⟨V,by simp⟩
 have K:=h.Dg hu;have aw:∀z,Knows t 0 z->Knows (t++ #[x,y]) N z:=λz O=>fork_knows Z aq (by rw [h.deaf 0 ac];exact a3) (h.above N (Nat.le_refl _)) O;have hold:∀{z a},touchAt (t++ #[x,y]) z=some a->touchAt t z=some a:=by
  intro z a O;obtain⟨op,ag,U⟩:=touch_of O;rcases getElem?_append_cases ag with⟨ay,a5⟩ | ⟨_,al⟩
  ·rw [touchAt_of a5];exact U
  ·rw [(hu op al).1] at U;cases U
 refine⟨λi hi=>?_,λi hi=>K.above i (by omega),λz a b O hb az Y i hi am=>?_,K.said,λz a O hb=>?_,λz g ap a6 a7=>?_,K.norel,K.MG,λk Y Z=>?_⟩
 ·rcases Nat.lt_or_ge i N with q | q
  ·rw [hd i q];exact K.deaf i q
  ·obtain rfl:i=N:=by omega
   rw [a2];exact K.above i (Nat.le_refl _)
 ·rcases Nat.lt_or_ge i N with q | q
  ·exact K.plain z a b O hb az Y i q am
  ·obtain rfl:i=N:=by omega
   exact aw z (h.plain z a b (hold O) hb az Y 0 ac (.inl V))
 ·have a0:z<t.size:=by
   obtain⟨op,ag,U⟩:=touch_of O;rcases getElem?_append_cases ag with⟨ay,_⟩ | ⟨_,al⟩
   ·exact ay
   ·rw [(hu op al).1] at U;cases U
  rcases h.Gy z a (hold O) hb with a1 | ⟨k,Y,ap,hc,a8⟩
  ·refine .inl λi hi am=>?_;rcases Nat.lt_or_ge i N with q | q
   ·exact(a1 i q am).app _
   ·obtain rfl:i=N:=by omega
    exact aw z (a1 0 ac (.inl V))
  ·exact .inr ⟨k,by omega,by rw [g?_old a0];exact ap,(counts_old a0).2 hc,a8⟩
 ·rcases K.over z g ap a6 a7 with q | q
  ·exact .inl q
  ·exact .inr ⟨q.1,by omega⟩
 ·obtain⟨a,b,c⟩:=a4 k Y Z;rw [c];exact K.rel k a b
end
end Pal
namespace Pal
open Go Go.Conc
open Go.ConcN (upd upd_same upd_ne sumTo sumTo_upd sumTo_upd_out sumTo_congr le_sumTo sumTo_le)
def pH:LP->Nat
 | .len | .K0 | .Kd | .Fj | .GO | .Kk | .Kg | .J9 | .H2=>1
 | _=>0
def pN:LP->Nat
 | .Fg false=>1
 | _=>0
def pZ:LP->Nat
 | .Fg true=>1
 | _=>0
def pV:LP->Nat
 | .Gf | .ED _=>1
 | _=>0
def pT:LP->Nat
 | .Ep _ true _ | .Cl _ true _ _=>1
 | _=>0
def pQ:LP->Nat
 | .IB _ | .Cv _=>1
 | _=>0
def pD:LP->Nat
 | .En _=>1
 | _=>0
def pX:LP->Nat
 | .ET _ | .Hw=>1
 | _=>0
def oC(f:LP->Nat):Option LP->Nat
 | some p=>f p
 | none=>0
def LN(m:M4)(q h rn rs v t s d x:Nat):Prop:=
 h=m.l.toNat/\
 (m.s=false->rs=0/\d=0/\m.k.toNat=rn+q+v+t/\s=m.w+rn+q/\(m.l=false->m.k=false->1<=m.w->1<=x))/\
 (m.s=true->m.k=false/\rn=0/\t=0/\m.l.toNat+rs+q+v+d=1/\m.w=s+v+d/\1<=m.w)
def LB:LP->M4->Prop
 | .Cl sv aw it old,_=>(aw=true->old.k=true)/\(sv=true->aw=true)/\it<=4/\Da old
 | .Ep sv aw it,_=>(sv=true->aw=true)/\it<=4
 | .En ex,m=>ex=false->2<=m.w
 | .ET old,_=>old.l=false/\old.k=false/\old.s=false/\old.w≠0/\Da old
 | _,_=>True
section
variable {F:Fam}{p:LP}{m m':M4}{q q' h rn rs v t s d x:Nat}{es:Array Event}{o:Option LP}
theorem aQ(ap:LN m q (pH p+h) (pN p+rn) (pZ p+rs) (pV p+v) (pT p+t) (pQ p+s) (pD p+d) (pX p+x))(K:LB p m)(Y:Da m)(aq:∀sv,p= .Cv sv->q≠0):DK p m q:=by
 obtain⟨l,k,st,w⟩:=m;obtain⟨Z,O,U⟩:=ap;cases p <;> simp only [DK,LB] at K ⊢ <;> (try exact Y)
 ·exact⟨K.1,K.2,Y,λe=>by
   subst e
   simp only [pH,pN,pZ,pV,pT,pQ,pD,pX] at Z O U
   cases st
   ·have:=(O V).2.2.1
    cases k
    ·simp at this;omega
    ·rfl
   ·have:=(U V).2.2.1;omega⟩
 ·exact⟨K.1,K.2.1,K.2.2.1,K.2.2.2,Y,λe=>by
   subst e
   simp only [pH,pN,pZ,pV,pT,pQ,pD,pX] at Z O U
   cases st
   ·have:=(O V).2.2.1
    cases k
    ·simp at this;omega
    ·rfl
   ·have:=(U V).2.2.1;omega⟩
 ·exact aq _ V
 ·simp only [pH,pN,pZ,pV,pT,pQ,pD,pX] at Z O U;refine⟨λe=>?_,λe=>?_,Y⟩
  ·subst e;obtain⟨a1,al,ag,ac,av,am⟩:=U V;cases l
   ·exact⟨V,a1,by omega⟩
   ·simp at ac;omega
  ·subst e;obtain⟨a1,al,ag,ac⟩:=O V;cases k
   ·simp at ag;omega
   ·rfl
 ·simp only [pH,pN,pZ,pV,pT,pQ,pD,pX] at Z O U;cases st
  ·have:=(O V).2.1;omega
  ·obtain⟨a1,al,ag,ac,av,am⟩:=U V;cases l
   ·exact⟨V,V,a1,am,K,Y⟩
   ·simp at ac;omega
 ·simp only [pH,pN,pZ,pV,pT,pQ,pD,pX] at Z;cases l
  ·simp at Z
  ·exact⟨V,Y⟩
 ·exact⟨K.1,K.2.1,K.2.2.1,K.2.2.2.1,K.2.2.2.2,Y⟩
 ·refine⟨?_,Y⟩;have aw:k.toNat<=1:=Bool.toNat_le k;cases st
  ·have:=(O V).2.2.1;simp only at this;omega
  ·have:=(U V).2.2.2.1;simp only at this;omega
set_option maxHeartbeats 1000000 in
theorem LN.step(K:(m',q',es,o)∈F.BX p m q)(U:DK p m q)(O:LN m q (pH p+h) (pN p+rn) (pZ p+rs) (pV p+v) (pT p+t) (pQ p+s) (pD p+d) (pX p+x)):
  LN m' q' (oC pH o+h) (oC pN o+rn) (oC pZ o+rs) (oC pV o+v) (oC pT o+t) (oC pQ o+s) (oC pD o+d) (oC pX o+x):=by
 obtain⟨l,k,st,w⟩:=m;cases p <;> simp only [Fam.BX,List.mem_singleton,Prod.mk.injEq,List.not_mem_nil] at K
 case Gg=>obtain⟨rfl,rfl,-,rfl⟩:=K;exact O
 case Hr=>
  split at K
  ·rename_i e;simp only [M4.zero,M4.mk.injEq] at e;obtain⟨rfl,rfl,rfl,rfl⟩:=e;simp only [List.mem_singleton,Prod.mk.injEq] at K;obtain⟨rfl,rfl,-,rfl⟩:=K;simp [LN,pH,pN,pZ,pV,pT,pQ,pD,pX,oC] at O ⊢;omega
  ·simp only [List.mem_singleton,Prod.mk.injEq] at K;obtain⟨rfl,rfl,-,rfl⟩:=K;exact O
 case Ep sv aw it=>obtain⟨rfl,rfl,-,rfl⟩:=K;cases aw <;> exact O
 case Cl sv aw it old=>
  simp only [Fam.FK,List.mem_append] at K;simp only [DK] at U;obtain⟨k1,Y,Z,ac,am,-⟩:=U;rcases K with K | K
  ·split at K
   ·rename_i c;split at K
    ·rename_i c2;simp only [List.mem_singleton] at K;obtain⟨rfl,c3,c4⟩:=c2;split at K
     ·rename_i e;subst e;simp only [Prod.mk.injEq] at K;obtain⟨rfl,rfl,-,rfl⟩:=K;simp only at c c3 c4;obtain⟨rfl,rfl,-⟩:=c;subst c3;simp [LN,pH,pN,pZ,pV,pT,pQ,pD,pX,oC] at O ⊢;omega
     ·simp only [Prod.mk.injEq] at K;obtain⟨rfl,rfl,-,rfl⟩:=K;exact O
    ·simp only [List.mem_singleton,Prod.mk.injEq] at K;obtain⟨rfl,rfl,-,rfl⟩:=K;cases aw <;> exact O
   ·simp at K
  ·split at K
   ·rename_i e;subst e;split at K
    ·rename_i c;simp only [List.mem_singleton,Prod.mk.injEq] at K;obtain⟨rfl,rfl,-,rfl⟩:=K;simp only at c;obtain⟨rfl,rfl⟩:=c;cases aw <;> cases k <;> simp [LN,pH,pN,pZ,pV,pT,pQ,pD,pX,oC] at O k1 ⊢ <;> omega
    ·rename_i c;have key:∀o',(o'=some (LP.IB sv)∨o'=some (LP.Cv sv))->LN ⟨l,!aw&&k,st || (sv&&l),w+1⟩ q (oC pH o'+h) (oC pN o'+rn) (oC pZ o'+rs) (oC pV o'+v) (oC pT o'+t) (oC pQ o'+s) (oC pD o'+d) (oC pX o'+x):=by
      intro o' ap;have ag:oC pH o'=0/\oC pN o'=0/\oC pZ o'=0/\oC pV o'=0/\oC pT o'=0/\oC pQ o'=1/\oC pD o'=0/\oC pX o'=0:=by
       rcases ap with rfl | rfl <;> exact⟨rfl,rfl,rfl,rfl,rfl,rfl,rfl,rfl⟩
      obtain⟨ag,e2,aq,av,ay,az,a0,a1⟩:=ag;rw [ag,e2,aq,av,ay,az,a0,a1];cases l <;> cases st <;> cases k <;> cases aw <;> cases sv <;> simp [LN,pH,pN,pZ,pV,pT,pQ,pD,pX] at O k1 Y c ⊢ <;> omega
     simp only [List.mem_cons,List.not_mem_nil,or_false,Prod.mk.injEq] at K;rcases K with⟨rfl,rfl,-,rfl⟩ | ⟨rfl,rfl,-,rfl⟩
     ·exact key _ (.inl V)
     ·exact key _ (.inr V)
   ·simp only [List.mem_singleton,Prod.mk.injEq] at K;obtain⟨rfl,rfl,-,rfl⟩:=K;cases aw <;> exact O
 case IB sv=>obtain⟨rfl,rfl,-,rfl⟩:=K;exact O
 case Cv sv=>
  obtain⟨rfl,rfl,-,rfl⟩:=K;simp only [DK] at U;cases st <;> cases k <;> cases l <;> cases sv <;> simp [LN,pH,pN,pZ,pV,pT,pQ,pD,pX,oC] at O ⊢ <;> omega
 case Gf=>
  simp only [List.mem_cons,List.not_mem_nil,or_false,Prod.mk.injEq] at K;rcases K with⟨rfl,rfl,-,rfl⟩ | ⟨rfl,rfl,-,rfl⟩ <;> exact O
 case ED sv=>
  simp only [DK] at U;split at K
  ·rename_i c;simp only [List.mem_singleton,Prod.mk.injEq] at K;obtain⟨rfl,rfl,-,rfl⟩:=K;have c:st=true:=c;subst c;cases k <;> cases l <;> simp [LN,pH,pN,pZ,pV,pT,pQ,pD,pX,oC] at O ⊢ <;> omega
  ·rename_i c;simp only [List.mem_singleton,Prod.mk.injEq] at K;obtain⟨rfl,rfl,-,rfl⟩:=K;cases st
   ·cases k <;> cases l <;> simp [LN,pH,pN,pZ,pV,pT,pQ,pD,pX,oC] at O ⊢ <;> omega
   ·exact absurd V c
 case En ex=>
  obtain⟨rfl,rfl,-,rfl⟩:=K;simp only [DK] at U;obtain⟨rfl,rfl,rfl,ac,am,-⟩:=U;cases ex <;> simp [LN,pH,pN,pZ,pV,pT,pQ,pD,pX,oC] at O am ⊢ <;> omega
 case len=>obtain⟨rfl,rfl,-,rfl⟩:=K;exact O
 case K0=>obtain⟨rfl,rfl,-,rfl⟩:=K;exact O
 case Kd=>obtain⟨rfl,rfl,-,rfl⟩:=K;exact O
 case GO=>obtain⟨rfl,rfl,-,rfl⟩:=K;exact O
 case Kk=>obtain⟨rfl,rfl,-,rfl⟩:=K;exact O
 case Kg=>obtain⟨rfl,rfl,-,rfl⟩:=K;exact O
 case J9=>obtain⟨rfl,rfl,-,rfl⟩:=K;exact O
 case H2=>
  obtain⟨rfl,rfl,-,rfl⟩:=K;simp only [DK] at U;obtain⟨rfl,-⟩:=U;rcases Nat.eq_zero_or_pos w with rfl | hw
  ·cases st <;> cases k <;> simp [LN,pH,pN,pZ,pV,pT,pQ,pD,pX,oC] at O ⊢ <;> omega
  ·have al:¬w=0:=by omega
   cases st <;> cases k <;> simp [LN,pH,pN,pZ,pV,pT,pQ,pD,pX,oC,al] at O ⊢ <;> omega
 case ET old=>
  simp only [DK] at U;obtain⟨k1,Y,Z,ac,-⟩:=U;split at K
  ·rename_i e;subst e;simp only at k1 Y Z ac;subst k1 Y Z;simp only [List.mem_singleton,Prod.mk.injEq] at K;obtain⟨rfl,rfl,-,rfl⟩:=K;simp [LN,pH,pN,pZ,pV,pT,pQ,pD,pX,oC] at O ⊢;omega
  ·simp only [List.mem_singleton,Prod.mk.injEq] at K;obtain⟨rfl,rfl,-,rfl⟩:=K;exact O
 case Hw=>
  obtain⟨rfl,rfl,-,rfl⟩:=K;rcases Nat.eq_zero_or_pos w with rfl | hw
  ·cases st <;> cases k <;> cases l <;> simp [LN,pH,pN,pZ,pV,pT,pQ,pD,pX,oC] at O ⊢ <;> omega
  ·have al:¬w=0:=by omega
   cases st <;> cases k <;> cases l <;> simp [LN,pH,pN,pZ,pV,pT,pQ,pD,pX,oC,al] at O ⊢ <;> omega
 case Fg b=>
  obtain⟨rfl,rfl,-,rfl⟩:=K;cases b <;> cases st <;> cases k <;> cases l <;> simp [LN,pH,pN,pZ,pV,pT,pQ,pD,pX,oC] at O ⊢ <;> omega
 case Fl=>obtain⟨rfl,rfl,-,rfl⟩:=K;exact O
theorem LN.awake(O:LN m q (pH p+h) (pN p+rn) (pZ p+rs) (pV p+v) (pT p+t) (pQ p+s) (pD p+d) (pX p+x))(ag:pT p=1):m.k=true:=by
 obtain⟨l,k,st,w⟩:=m;obtain⟨al,U,Y⟩:=O;cases st
 ·obtain⟨a1,Z,K,ac⟩:=U V;cases k
  ·simp at K;omega
  ·rfl
 ·obtain⟨a1,Z,K,ac⟩:=Y V;omega
theorem LN.dM(K:(m',q',es,o)∈F.BX p m q)(O:DK p m q)(Z:LB p m)(U:Da m)(al:LN m q (pH p+h) (pN p+rn) (pZ p+rs) (pV p+v) (pT p+t) (pQ p+s) (pD p+d) (pX p+x)):∀ac,o=some ac->LB ac m':=by
 have ag:=λam=>al.awake am;cases p <;> simp only [Fam.BX,List.mem_singleton,Prod.mk.injEq,List.not_mem_nil] at K
 case Hr=>
  split at K <;> simp only [List.mem_singleton,Prod.mk.injEq] at K <;> obtain⟨rfl,rfl,-,rfl⟩:=K <;> rintro _ ⟨⟩ <;> simp [LB]
 case Ep sv aw it=>
  obtain⟨rfl,rfl,-,rfl⟩:=K;rintro _ ⟨⟩;exact⟨λe=>by subst e;exact ag rfl,Z.1,Z.2,U⟩
 case Cl sv aw it old=>
  simp only [Fam.FK,List.mem_append] at K;simp only [DK] at O;obtain⟨k1,Y,ap,aq,av,-⟩:=O;rcases K with K | K
  ·split at K
   ·rename_i c;split at K
    ·simp only [List.mem_singleton] at K;split at K <;> simp only [Prod.mk.injEq] at K <;> obtain⟨rfl,rfl,-,rfl⟩:=K <;> rintro _ ⟨⟩
     ·exact⟨λ_=>V,by omega⟩
     ·exact⟨Y,by omega⟩
    ·simp only [List.mem_singleton,Prod.mk.injEq] at K;obtain⟨rfl,rfl,-,rfl⟩:=K;rintro _ ⟨⟩;exact⟨λe=>by subst e;exact ag rfl,Y,by omega,U⟩
   ·simp at K
  ·split at K
   ·split at K
    ·simp only [List.mem_singleton,Prod.mk.injEq] at K;obtain⟨rfl,rfl,-,rfl⟩:=K;rintro _ ⟨⟩;trivial
    ·simp only [List.mem_cons,List.not_mem_nil,or_false,Prod.mk.injEq] at K;rcases K with⟨rfl,rfl,-,rfl⟩ | ⟨rfl,rfl,-,rfl⟩ <;> rintro _ ⟨⟩ <;> trivial
   ·simp only [List.mem_singleton,Prod.mk.injEq] at K;obtain⟨rfl,rfl,-,rfl⟩:=K;rintro _ ⟨⟩;exact⟨Y,ap⟩
 case Cv sv=>
  obtain⟨rfl,rfl,-,rfl⟩:=K;rintro _ h;cases sv <;> cases h <;> trivial
 case Gf=>
  simp only [List.mem_cons,List.not_mem_nil,or_false,Prod.mk.injEq] at K;rcases K with⟨rfl,rfl,-,rfl⟩ | ⟨rfl,rfl,-,rfl⟩ <;> rintro _ ⟨⟩ <;> trivial
 case ED sv=>
  simp only [DK] at O;split at K
  ·rename_i c;simp only [List.mem_singleton,Prod.mk.injEq] at K;obtain⟨rfl,rfl,-,rfl⟩:=K;rintro _ ⟨⟩;intro e;have:=(O.1 c).2.2;simp at e;omega
  ·rename_i c;simp only [List.mem_singleton,Prod.mk.injEq] at K;obtain⟨rfl,rfl,-,rfl⟩:=K;rintro _ ⟨⟩;exact⟨λ_=>O.2.1 (by simpa using c),λ_=>V,by omega,U⟩
 case H2=>
  obtain⟨rfl,rfl,-,rfl⟩:=K;rintro _ h;split at h
  ·cases h;trivial
  ·rename_i c;split at h
   ·rename_i c2;cases h;exact⟨V,c2.1,by simpa using c,c2.2,U⟩
   ·cases h;trivial
 case ET old=>
  split at K <;> simp only [List.mem_singleton,Prod.mk.injEq] at K <;> obtain⟨rfl,rfl,-,rfl⟩:=K <;> rintro _ ⟨⟩ <;> trivial
 case Hw=>
  obtain⟨rfl,rfl,-,rfl⟩:=K;rintro _ h;split at h
  ·rename_i c;cases h;exact⟨c.1,c.2.1,c.2.2.1,c.2.2.2,U⟩
  ·cases h;trivial
 all_goals
  obtain⟨rfl,rfl,-,rfl⟩:=K;rintro _ ⟨⟩
 all_goals trivial
theorem LN.keepW(K:(m',q',es,o)∈F.BX p m q)(O:DK p m q)(U:LN m q (pH p+h) (pN p+rn) (pZ p+rs) (pV p+v) (pT p+t) (pQ p+s) (pD p+d) (pX p+x))(hd:1<=d):m.w<=m'.w:=by
 obtain⟨l,k,st,w⟩:=m;obtain⟨al,Y,Z⟩:=U;have ac:st=true:=by
  cases st
  ·have:=(Y V).2.1;omega
  ·rfl
 subst ac;obtain⟨a1,am,ap,ag,aq,av⟩:=Z V;cases p <;> simp only [Fam.BX,List.mem_singleton,Prod.mk.injEq,List.not_mem_nil] at K
 case Hr=>split at K <;> simp only [List.mem_singleton,Prod.mk.injEq] at K <;> obtain⟨rfl,rfl,-,rfl⟩:=K <;> simp_all [M4.zero]
 case Cl sv aw it old=>
  simp only [Fam.FK,List.mem_append] at K;rcases K with K | K
  ·split at K
   ·split at K
    ·simp only [List.mem_singleton] at K;split at K <;> simp only [Prod.mk.injEq] at K <;> obtain⟨rfl,rfl,-,rfl⟩:=K <;> exact Nat.le_refl _
    ·simp only [List.mem_singleton,Prod.mk.injEq] at K;obtain⟨rfl,rfl,-,rfl⟩:=K;exact Nat.le_refl _
   ·simp at K
  ·split at K
   ·split at K
    ·simp only [List.mem_singleton,Prod.mk.injEq] at K;obtain⟨rfl,rfl,-,rfl⟩:=K;exact Nat.le_refl _
    ·simp only [List.mem_cons,List.not_mem_nil,or_false,Prod.mk.injEq] at K;rcases K with⟨rfl,rfl,-,rfl⟩ | ⟨rfl,rfl,-,rfl⟩ <;> simp
   ·simp only [List.mem_singleton,Prod.mk.injEq] at K;obtain⟨rfl,rfl,-,rfl⟩:=K;exact Nat.le_refl _
 case Gf=>
  simp only [List.mem_cons,List.not_mem_nil,or_false,Prod.mk.injEq] at K;rcases K with⟨rfl,rfl,-,rfl⟩ | ⟨rfl,rfl,-,rfl⟩ <;> exact Nat.le_refl _
 case ED sv=>split at K <;> simp only [List.mem_singleton,Prod.mk.injEq] at K <;> obtain⟨rfl,rfl,-,rfl⟩:=K <;> exact Nat.le_refl _
 case En ex=>simp only [pD] at ag;omega
 case ET old=>
  simp only [DK] at O;split at K
  ·rename_i e;subst e;exact absurd O.2.2.1 (by simp)
  ·simp only [List.mem_singleton,Prod.mk.injEq] at K;obtain⟨rfl,rfl,-,rfl⟩:=K;exact Nat.le_refl _
 all_goals
  obtain⟨rfl,rfl,-,rfl⟩:=K;exact Nat.le_refl _
end
def Dd(f:LP->Nat):Nx->Nat
 | .ph (.lk _ p)=>f p
 | _=>0
def OH:Nx->M4->Prop
 | .ph (.lk _ p),m=>LB p m
 | _,_=>True
def Sg(f:LP->Nat)(N:Nat)(φ:Nat->Nx):Nat:=sumTo N λi=>Dd f (φ i)
structure LI (N:Nat) (φ:Nat->Nx) (m:M4) (q:Nat):Prop where
 ln:LN m q (Sg pH N φ) (Sg pN N φ) (Sg pZ N φ) (Sg pV N φ) (Sg pT N φ) (Sg pQ N φ) (Sg pD N φ) (Sg pX N φ)
 loc:∀i,i<N->OH (φ i) m
section
variable {F:Fam}{N i k:Nat}{φ:Nat->Nx}{p:LP}{m m':M4}{q q':Nat}{es:Array Event}{o:Option LP}{y:Nx}
theorem Qd(f:LP->Nat)(hi:i<N):Sg f N (upd φ i y)+Dd f (φ i)=Sg f N φ+Dd f y:=sumTo_upd φ y (Dd f) hi
theorem FU(f:LP->Nat)(hi:i<N)(K:φ i= .ph (.lk k p)):∃r,Sg f N φ=f p+r/\∀o,Sg f N (upd φ i (.ph (Fam.Dc k o)))=oC f o+r:=by
 have O:Dd f (φ i)<=Sg f N φ:=le_sumTo (f:=λi=>Dd f (φ i)) hi;have e:Dd f (φ i)=f p:=by rw [K];rfl
 refine⟨Sg f N φ - f p,by omega,λo=>?_⟩;have U:=Qd (φ:=φ) (y:= .ph (Fam.Dc k o)) f hi;have Y:Dd f (.ph (Fam.Dc k o))=oC f o:=by cases o <;> rfl
 omega
theorem NC(f:LP->Nat)(hi:i<N)(K:Dd f (φ i)=Dd f y):Sg f N (upd φ i y)=Sg f N φ:=by
 have:=Qd (φ:=φ) (y:=y) f hi;omega
theorem LI.other(h:LI N φ m q)(hi:i<N)(U:∀k p,φ i≠ .ph (.lk k p))(K:∀k p,y≠ .ph (.lk k p)):LI N (upd φ i y) m q:=by
 have z:∀(f:LP->Nat) x,(∀k p,x≠Nx.ph (.lk k p))->Dd f x=0:=by
  intro f x Y;cases x with
  | gone d=>rfl
  | ph p=>cases p <;> first | rfl | exact absurd rfl (Y _ _)
 have e:∀f,Sg f N (upd φ i y)=Sg f N φ:=λf=>NC f hi (by rw [z f _ U,z f _ K]);refine⟨by simp only [e];exact h.ln,λa Z=>?_⟩;by_cases O:a=i
 ·subst O;rw [upd_same];cases y with
  | gone d=>trivial
  | ph p=>cases p <;> first | trivial | exact absurd rfl (K _ _)
 ·rw [upd_ne _ _ O];exact h.loc a Z
theorem LI.ok(h:LI N φ m q)(hi:i<N)(K:φ i= .ph (.lk k p))(Y:Da m)(Z:∀sv,p= .Cv sv->q≠0):DK p m q:=by
 obtain⟨a,ac,-⟩:=FU pH hi K;obtain⟨b,ag,-⟩:=FU pN hi K;obtain⟨c,al,-⟩:=FU pZ hi K;obtain⟨d,am,-⟩:=FU pV hi K;obtain⟨e,ap,-⟩:=FU pT hi K;obtain⟨f,aq,-⟩:=FU pQ hi K;obtain⟨g,av,-⟩:=FU pD hi K;obtain⟨j,aw,-⟩:=FU pX hi K;have O:=h.ln;rw [ac,ag,al,am,ap,aq,av,aw] at O;have U:=h.loc i hi;rw [K] at U;exact aQ O U Y Z
theorem LI.step(h:LI N φ m q)(hi:i<N)(K:φ i= .ph (.lk k p))(aq:Da m)(U:DK p m q)(Y:(m',q',es,o)∈F.BX p m q):LI N (upd φ i (.ph (Fam.Dc k o))) m' q':=by
 obtain⟨a,av,aw⟩:=FU pH hi K;obtain⟨b,ay,az⟩:=FU pN hi K;obtain⟨c,a0,a1⟩:=FU pZ hi K;obtain⟨d,a2,a3⟩:=FU pV hi K;obtain⟨e,a4,a5⟩:=FU pT hi K;obtain⟨f,a6,a7⟩:=FU pQ hi K;obtain⟨g,a8,a9⟩:=FU pD hi K;obtain⟨j,bb,be⟩:=FU pX hi K;have O:=h.ln;rw [av,ay,a0,a2,a4,a6,a8,bb] at O;have ag:=h.loc i hi;rw [K] at ag;refine⟨by rw [aw,az,a1,a3,a5,a7,a9,be];exact O.step Y U,λy al=>?_⟩;by_cases Z:y=i
 ·subst Z;rw [upd_same];cases o with
  | none=>trivial
  | some bi=>exact O.dM Y U ag aq bi rfl
 ·rw [upd_ne _ _ Z];have ac:=h.loc y al;cases am:φ y with
  | gone d=>trivial
  | ph p0=>
   cases p0 with
   | lk bn p0=>
    rw [am] at ac;cases p0 <;> try exact ac
    rename_i ex;intro bo;have hd:1<=g:=by
     have bv:=Qd (N:=N) (φ:=φ) (i:=i) (y:= .gone 0) pD hi;have ap:Dd pD (upd φ i (.gone 0) y)<=Sg pD N (upd φ i (.gone 0)):=le_sumTo (f:=λa=>Dd pD (upd φ i (.gone 0) a)) al;rw [upd_ne _ _ Z,am] at ap;have bw:Dd pD (φ i)=pD p:=by rw [K];rfl
     have e2:Dd pD (.gone 0)=0:=V;have bx:Dd pD (.ph (.lk bn (.En ex)))=1:=V;omega
    have:=O.keepW Y U hd;have ap:2<=m.w:=ac bo;omega
   | _=>trivial
end
def HC:LP->Nat
 | .len=>22 | .K0=>21 | .Kd=>20 | .Fj=>19 | .GO=>18 | .Kk=>17 | .Kg=>16 | .J9=>15 | .H2=>14
 | .ET _=>13 | .Hw=>13 | .Fg _=>12 | .Fl=>11
 | _=>23
def kw:LP->Nat
 | .Gg | .Hr=>2
 | .Ep _ aw _=>if aw then 1 else 2
 | .Cl _ aw _ _=>if aw then 1 else 2
 | .Gf | .ED _ | .En _=>1
 | _=>0
def lc(m:M4):LP->Nat
 | .Gg=>27 | .Hr=>26 | .Ep _ _ it=>2*(5 - it)+1
 | .Cl _ _ it old=>2*(5 - it)+if m=old then 0 else 2
 | .IB _=>24 | .Cv _=>23 | .Gf=>22 | .ED _=>21
 | .ET old=>if m=old then 1 else 3
 | .Hw=>2
 | _=>0
def wO:Option LP->Nat
 | some p=>HC p
 | none=>9
def wt(n:Nat):Nx->Nat
 | .gone _=>0
 | .ph p=>match p with
  | .Hs _=>10 | .H7=>9 | .GJ=>8 | .I2=>7 | .Hu=>6 | .G5=>5 | .Hp=>4 | .FA=>3
  | .Dl=>3*n+25 | .Ge m=>3*m+20 | .Hx m=>3*m+19 | .II=>14 | .H6=>13 | .FL=>12 | .Hq=>11 | .Gh=>10 | .IC=>9 | .Gv=>8 | .HR=>7
  | .Gt j=>5*n+90+50*(n - j) | .IF j=>5*n+89+50*(n - j) | .IH j=>5*n+88+50*(n - j) | .HU j=>5*n+87+50*(n - j) | .Hd j=>5*n+86+50*(n - j) | .F2 j=>5*n+85+50*(n - j)
  | .G7=>5*n+60 | .FX _ _=>2
  | .lk _ p=>HC p
theorem Z8{F:Fam}{p:Ph}{v w sm v' w' sm':Nat}{es:Array Event}{K:Nx}(h:F.act p v w sm=some ((v',w',sm'),es,K)):wt F.n K<wt F.n (.ph p):=by
  cases p <;> simp only [Fam.act] at h <;> (try (cases h;done))
  case Hu=>
    split at h
    ·cases h;split <;> simp [wt]
    ·cases h
  case Ge=>
    split at h
    ·cases h;split <;> simp [wt] <;> omega
    ·cases h
  case Hx=>
    split at h
    ·split at h <;> cases h <;> simp [wt] <;> omega
    ·cases h
  case IF=>
    split at h
    ·cases h;split <;> simp [wt]
    ·cases h
  all_goals first
    | (cases h;simp [wt];done)
    | (split at h
       ·cases h;simp [wt]
       ·cases h)
section
variable {F:Fam}{p:LP}{m m':M4}{q q':Nat}{es:Array Event}{o:Option LP}
theorem ZP(K:(m',q',es,o)∈F.BX p m q)(O:DK p m q):wO o<HC p∨(wO o=HC p/\(oC kw o+q'<kw p+q∨(oC kw o+q'=kw p+q/\m'=m/\oC (lc m) o<lc m p))):=by
 cases p <;> simp only [Fam.BX,List.mem_singleton,Prod.mk.injEq,List.not_mem_nil] at K
 case Hr=>
  split at K <;> simp only [List.mem_singleton,Prod.mk.injEq] at K <;> obtain⟨rfl,rfl,-,rfl⟩:=K
  ·exact .inl (by simp [wO,HC])
  ·exact .inr ⟨V,.inr ⟨V,V,by simp [oC,lc]⟩⟩
 case Ep sv aw it=>
  obtain⟨rfl,rfl,-,rfl⟩:=K;exact .inr ⟨V,.inr ⟨V,V,by simp [oC,lc]⟩⟩
 case Cl sv aw it old=>
  simp only [Fam.FK,List.mem_append] at K;simp only [DK] at O;obtain⟨k1,U,Y,Z,ac,-⟩:=O;rcases K with K | K
  ·split at K
   ·rename_i c;split at K
    ·rename_i c2;simp only [List.mem_singleton] at K;obtain⟨rfl,c3,c4⟩:=c2;split at K <;> simp only [Prod.mk.injEq] at K <;> obtain⟨rfl,rfl,-,rfl⟩:=K
     ·exact .inr ⟨V,.inl (by simp [oC,kw])⟩
     ·rename_i e;refine .inr ⟨V,.inr ⟨V,V,?_⟩⟩;simp only [oC,lc,if_neg e];omega
    ·simp only [List.mem_singleton,Prod.mk.injEq] at K;obtain⟨rfl,rfl,-,rfl⟩:=K;refine .inr ⟨V,.inr ⟨V,V,?_⟩⟩;simp only [oC,lc,if_true];omega
   ·simp at K
  ·split at K
   ·rename_i e;split at K
    ·simp only [List.mem_singleton,Prod.mk.injEq] at K;obtain⟨rfl,rfl,-,rfl⟩:=K;exact .inl (by simp [wO,HC])
    ·simp only [List.mem_cons,List.not_mem_nil,or_false,Prod.mk.injEq] at K;rcases K with⟨rfl,rfl,-,rfl⟩ | ⟨rfl,rfl,-,rfl⟩ <;> exact .inr ⟨rfl,.inl (by cases aw <;> simp [oC,kw])⟩
   ·rename_i e;simp only [List.mem_singleton,Prod.mk.injEq] at K;obtain⟨rfl,rfl,-,rfl⟩:=K;refine .inr ⟨V,.inr ⟨V,V,?_⟩⟩;simp only [oC,lc,if_neg e];omega
 case Cv sv=>
  obtain⟨rfl,rfl,-,rfl⟩:=K;simp only [DK] at O;cases sv
  ·refine .inr ⟨V,.inr ⟨?_,V,by simp [oC,lc]⟩⟩;simp only [oC,kw,Bool.false_eq_true,if_false];omega
  ·refine .inr ⟨V,.inr ⟨?_,V,by simp [oC,lc]⟩⟩;simp only [oC,kw,if_true];omega
 case Gf=>
  simp only [List.mem_cons,List.not_mem_nil,or_false,Prod.mk.injEq] at K;rcases K with⟨rfl,rfl,-,rfl⟩ | ⟨rfl,rfl,-,rfl⟩ <;> exact .inr ⟨rfl,.inr ⟨rfl,rfl,by simp [oC,lc]⟩⟩
 case ED sv=>
  split at K <;> simp only [List.mem_singleton,Prod.mk.injEq] at K <;> obtain⟨rfl,rfl,-,rfl⟩:=K <;> exact .inr ⟨rfl,.inr ⟨rfl,rfl,by simp [oC,lc]⟩⟩
 case H2=>
  obtain⟨rfl,rfl,-,rfl⟩:=K;refine .inl ?_;split
  ·simp [wO,HC]
  ·split <;> simp [wO,HC]
 case ET old=>
  split at K <;> simp only [List.mem_singleton,Prod.mk.injEq] at K <;> obtain⟨rfl,rfl,-,rfl⟩:=K
  ·exact .inl (by simp [wO,HC])
  ·rename_i e;refine .inr ⟨V,.inr ⟨V,V,?_⟩⟩;simp only [oC,lc,if_neg e];omega
 case Hw=>
  obtain⟨rfl,rfl,-,rfl⟩:=K;split
  ·exact .inr ⟨V,.inr ⟨V,V,by simp [oC,lc]⟩⟩
  ·exact .inl (by simp [wO,HC])
 case IB sv=>obtain⟨rfl,rfl,-,rfl⟩:=K;exact .inr ⟨V,.inr ⟨V,V,by simp [oC,lc]⟩⟩
 case Gg=>obtain⟨rfl,rfl,-,rfl⟩:=K;exact .inr ⟨V,.inr ⟨V,V,by simp [oC,lc]⟩⟩
 all_goals
  obtain⟨rfl,rfl,-,rfl⟩:=K;exact .inl (by simp [wO,HC])
end
def Dn(N:Nat)(r' r:Nat->Rk):Prop:=∃i,i<N/\Rk.sub (r' i) (r i)/\∀j,j≠i->r' j=r j
theorem Dn.wf:∀N,WellFounded (Dn N)
 | 0=>⟨λ_=>⟨_,λ_ ⟨_,h,_⟩=>by omega⟩⟩
 | N+1=>⟨by
  have key:∀x:Rk,∀r:Nat->Rk,r N=x->Acc (Dn (N+1)) r:=by
   intro x
   induction x using Rk.wf.induction with
   | _ x Y=>
    intro r
    induction r using (Dn.wf N).induction with
    | _ r Z=>
     intro e
     refine⟨_,λr' ⟨i,hi,K,O⟩=>?_⟩
     by_cases U:i=N
     ·subst U;exact Y (r' i) (by rw [← e];exact K) r' V
     ·exact Z r' ⟨i,by omega,K,O⟩ (by rw [O N (Ne.symm U),e])
  exact λr=>key _ r V⟩
def chain:Nat->Rk
 | 0=> .leaf
 | n+1=> .node λ_=>chain n
theorem WT(n:Nat)(w:World):Rk.sub (chain n) (chain (n+1)):=⟨_,w,V,V⟩
structure Mu where
 a:Nat
 k:Nat
 l:Nat
 N:Nat
 r:Nat->Rk
 b:Nat
def Mu.lt(x y:Mu):Prop:=x.a<y.a∨(x.a=y.a/\(x.k<y.k∨(x.k=y.k/\(x.l<y.l∨(x.l=y.l/\x.N=y.N/\(Dn y.N x.r y.r∨(x.r=y.r/\x.b<y.b)))))))
theorem Mu.wf:WellFounded Mu.lt:=⟨by
 have key:∀(a k l N:Nat) (r:Nat->Rk) (b:Nat),Acc Mu.lt ⟨a,k,l,N,r,b⟩:=by
  intro a
  induction a using Nat.strongRecOn with
  | _ a ag=>
   intro k
   induction k using Nat.strongRecOn with
   | _ k al=>
    intro l
    induction l using Nat.strongRecOn with
    | _ l am=>
     intro N r
     induction r using (Dn.wf N).induction with
     | _ r ap=>
      intro b
      induction b using Nat.strongRecOn with
      | _ b aq=>
       refine⟨_,λ⟨av,k',l',N',r',b'⟩ h=>?_⟩
       rcases h with h | ⟨K,h | ⟨O,h | ⟨U,Y,h | ⟨Z,ac⟩⟩⟩⟩
       ·exact ag av h k' l' N' r' b'
       ·simp only at K h;subst K;exact al k' h l' N' r' b'
       ·simp only at K O h;subst K O;exact am l' h N' r' b'
       ·simp only at K O U Y h;subst K O U Y;exact ap r' h b'
       ·simp only at K O U Y Z ac;subst K O U Y Z;exact aq b' ac
 exact λ⟨a,k,l,N,r,b⟩=>key a k l N r b⟩
def bit(b:Bool):Nat:=if b then 1 else 0
def mu(F:Fam)(N:Nat)(φ:Nat->Nx)(m:M4)(q:Nat)(r:Nat->Rk)(bt:Nat->Bool):Mu:=⟨sumTo N λi=>wt F.n (φ i),Sg kw N φ+q,Sg (lc m) N φ,N,r,sumTo N λi=>bit (bt i)⟩
section
variable {F:Fam}{N N' i k:Nat}{φ φ':Nat->Nx}{p:LP}{m m':M4}{q q':Nat}{es:Array Event}{o:Option LP}{r r':Nat->Rk}{b b':Nat->Bool}{x:Nx}{ρ:Rk}
theorem dh(h:(sumTo N' λi=>wt F.n (φ' i))<sumTo N λi=>wt F.n (φ i)):Mu.lt (mu F N' φ' m' q' r' b') (mu F N φ m q r b):= .inl h
theorem Uf(hi:i<N)(h:wt F.n x<wt F.n (φ i)):Mu.lt (mu F N (upd φ i x) m' q' r' b') (mu F N φ m q r b):=by
 have:=sumTo_upd φ x (wt F.n) hi;exact .inl (by show(sumTo N λa=>wt F.n (upd φ i x a))<sumTo N λa=>wt F.n (φ a);omega)
theorem U2(hi:i<N)(K:∀f,Dd f x=Dd f (φ i))(hw:wt F.n x=wt F.n (φ i))(h:Rk.sub ρ (r i)):Mu.lt (mu F N (upd φ i x) m q (upd r i ρ) b') (mu F N φ m q r b):=by
 have:=sumTo_upd φ x (wt F.n) hi;refine .inr ⟨by show(sumTo N λa=>wt F.n (upd φ i x a))=sumTo N λa=>wt F.n (φ a);omega,.inr ⟨by show Sg kw N (upd φ i x)+q=_;rw [NC kw hi (K kw).symm];rfl,.inr ⟨NC (lc m) hi (K _).symm,V,.inl ⟨i,hi,?_,λa O=>upd_ne _ _ O⟩⟩⟩⟩;show Rk.sub (upd r i ρ i) _;rw [upd_same];exact h
theorem dv(hi:i<N)(K:φ i= .ph (.lk k p))(Y:(m',q',es,o)∈F.BX p m q)(Z:DK p m q):Mu.lt (mu F N (upd φ i (.ph (Fam.Dc k o))) m' q' r' b') (mu F N φ m q r b):=by
 have hw:=sumTo_upd φ (.ph (Fam.Dc k o)) (wt F.n) hi;have ac:wt F.n (φ i)=HC p:=by rw [K];rfl
 have e2:wt F.n (.ph (Fam.Dc k o))=wO o:=by cases o <;> rfl
 rw [ac,e2] at hw;obtain⟨a,O,U⟩:=FU (k:=k) kw hi K;obtain⟨c,ag,al⟩:=FU (k:=k) (lc m) hi K;rcases ZP Y Z with h | ⟨ap,h | ⟨aq,am,av⟩⟩
 ·exact .inl (by show(sumTo N λa=>wt F.n (upd φ i _ a))<sumTo N λa=>wt F.n (φ a);omega)
 ·exact .inr ⟨by show(sumTo N λa=>wt F.n (upd φ i _ a))=sumTo N λa=>wt F.n (φ a);omega,.inl (by show Sg kw N (upd φ i _)+q'<Sg kw N φ+q;rw [O,U];omega)⟩
 ·subst am;exact .inr ⟨by show(sumTo N λa=>wt F.n (upd φ i _ a))=sumTo N λa=>wt F.n (φ a);omega,.inr ⟨by show Sg kw N (upd φ i _)+q'=Sg kw N φ+q;rw [O,U];omega,.inl (by show Sg (lc m') N (upd φ i _)<Sg (lc m') N φ;rw [ag,al];omega)⟩⟩
end
open Go.ConcN (RelBy fork_knows)
section
variable {F:Fam}{N0 t0 N j:Nat}{φ:Nat->Nx}{S:Nat->St}{t u:Trace}{v wt sm v' wt' sm':Nat}
theorem Ns{α:Type}(f:Nat->α)(i:Nat):upd f i (f i)=f:=by
 funext a;unfold upd;split
 ·rename_i e;rw [e]
 ·rfl
def FN(F:Fam)(K:Prop)(e:Event):Prop:=
 (∀a,(MemAct.ofEvent e).touch? =some a->(∃b,CM a.loc=some b/\(b=F.wg∨b=F.mu))/\a.kind≠ .plain/\(a.kind= .said->K))/\e.loc≠ .mark (.release F.sA)
theorem FN.toS{K:Prop}{e:Event}{i:Nat}(h:FN F K e)(O:K->i=0):EvS F N0 j i e:=
 ⟨λa U=>let ⟨⟨b,Y,Z⟩,ac,ag⟩:=h.1 a U;⟨b,Y,.inl ⟨Z,ac,λq=>O (ag q)⟩⟩,h.2⟩
theorem FN.keep{O:Prop}{e:Event}{i:Nat}(h:FN F O e)(Y:O->i=0)(Z:F.fd≠F.wg)(ac:F.fd≠F.mu):(∀a b,(MemAct.ofEvent e).touch? =some a->CM a.loc=some b->(b=F.wg∨b=F.mu)->a.kind≠ .plain/\(a.kind= .said->i=0))/\
   (∀a,(MemAct.ofEvent e).touch? =some a->CM a.loc=some F.fd->∃k,k<j/\i=N0+k/\a.loc= .cell ⟨F.fd,k,none⟩/\a.kind= .plain)/\e.loc≠ .mark (.release F.sA):=
 ⟨λa b K _ _=>⟨(h.1 a K).2.1,λq=>Y ((h.1 a K).2.2 q)⟩,λa K hb=>by
  obtain⟨⟨b,U,ag⟩,-⟩:=h.1 a K
  rw [hb] at U
  obtain rfl:=Option.some.inj U
  rcases ag with e | e
  ·exact absurd e Z
  ·exact absurd e ac,h.2⟩
theorem Sj{m:Mark}(K:∀a,m≠ .read a)(O:∀a,m≠ .write a):(MemAct.ofEvent (Fam.CC m)).touch? =none:=by
 cases m <;> first | rfl | exact absurd rfl (K _) | exact absurd rfl (O _)
theorem b8(p:Ph){es:Array Event}{aq:Nx}(K:F.act p v wt sm=some ((v',wt',sm'),es,aq)):
  (∀e∈es,FN F (p= .H6∨∃j,p= .HU j) e)/\deafBehind (F1 (.ph p)) es=F1 aq/\(∀e∈es,∀B,F.wg<B->(MemAct.ofEvent e).low B):=by
 have a0:∀b w,(MemAct.ofEvent ⟨.cell F.sA,w,b⟩).touch? =some ⟨.cell F.sA,w,if b then .atomic else .plain⟩:=by intro b w;cases b <;> cases w <;> rfl
 have ac:∀(a:Addr) w (T:Prop),a.block=F.wg->FN F T ⟨.cell a,w,true⟩:=by
  intro a w T hb;refine⟨λx U=>?_,by simp⟩;have:x=⟨.cell a,w,.atomic⟩:=by cases w <;> (simp [MemAct.ofEvent,MemAct.touch?] at U;exact U.symm)
  subst this;exact⟨⟨F.wg,by simp [CM,hb],.inl V⟩,by simp,by simp⟩
 have ag:∀(a:Addr) w B,a.block=F.wg->F.wg<B->(MemAct.ofEvent ⟨.cell a,w,true⟩).low B:=by
  intro a w B hb O;cases w <;> simp [MemAct.ofEvent,MemAct.low,Loc.low,hb,O]
 have He:∀(m:Mark) (T:Prop),(∀a,m≠ .read a)->(∀a,m≠ .write a)->(∀a,m≠ .release a)->FN F T (Fam.CC m):=by
  intro m T aw ay az;exact⟨λx U=>(by rw [Sj aw ay] at U;cases U),λe=>az _ (Loc.mark.inj e)⟩
 have al:F.mA.block=F.wg:=V;have Z:F.sA.block=F.wg:=V;have Fo:∀(T:Prop),∀e∈semEvents F.mA,FN F T e:=by
  intro T e he;simp only [semEvents,List.mem_toArray,List.mem_cons,List.not_mem_nil,or_false] at he;rcases he with rfl | rfl | rfl | rfl
  ·exact He .disable T (by simp) (by simp) (by simp)
  ·exact ac _ _ _ al
  ·exact ac _ _ _ al
  ·exact He .enable T (by simp) (by simp) (by simp)
 have av:∀e∈semEvents F.mA,∀B,F.wg<B->(MemAct.ofEvent e).low B:=by
  intro e he B O;simp only [semEvents,List.mem_toArray,List.mem_cons,List.not_mem_nil,or_false] at he;rcases he with rfl | rfl | rfl | rfl
  ·trivial
  ·exact ag _ _ _ al O
  ·exact ag _ _ _ al O
  ·trivial
 have am:∀(T:Prop),∀e∈(#[Fam.Cc F.sA,Fam.Ew F.sA]:Array Event),FN F T e:=by
  intro T e he;simp only [List.mem_toArray,List.mem_cons,List.not_mem_nil,or_false] at he;rcases he with rfl | rfl <;> exact ac _ _ _ Z
 have ap:∀e∈(#[Fam.Cc F.sA,Fam.Ew F.sA]:Array Event),∀B,F.wg<B->(MemAct.ofEvent e).low B:=by
  intro e he B O;simp only [List.mem_toArray,List.mem_cons,List.not_mem_nil,or_false] at he;rcases he with rfl | rfl <;> exact ag _ _ _ Z O
 have one:∀{e:Event} {T:Prop},FN F T e->∀x∈(#[e]:Array Event),FN F T x:=by
  intro e T h x U;simp at U;subst U;exact h
 have Y:∀{e:Event},(∀B,F.wg<B->(MemAct.ofEvent e).low B)->∀x∈(#[e]:Array Event),∀B,F.wg<B->(MemAct.ofEvent x).low B:=by
  intro e h x U;simp at U;subst U;exact h
 cases p <;> simp only [Fam.act] at K <;> (try (cases K;done))
 ·cases K;exact⟨one (He _ _ (by simp) (by simp) (by simp)),V,Y λB O=>O⟩
 ·cases K;exact⟨one (He _ _ (by simp) (by simp) (by simp)),V,Y λB O=>trivial⟩
 ·split at K
  ·cases K;exact⟨am _,by split <;> rfl,ap⟩
  ·cases K
 ·split at K
  ·cases K;exact⟨one (ac _ _ _ Z),V,Y λB O=>ag _ _ _ Z O⟩
  ·cases K
 ·split at K
  ·cases K;exact⟨one (ac _ _ _ Z),V,Y λB O=>ag _ _ _ Z O⟩
  ·cases K
 ·split at K
  ·cases K;exact⟨Fo _,V,av⟩
  ·cases K
 ·cases K;exact⟨one (He _ _ (by simp) (by simp) (by simp)),V,Y λB O=>trivial⟩
 ·split at K
  ·cases K;exact⟨one (ac _ _ _ Z),by split <;> rfl,Y λB O=>ag _ _ _ Z O⟩
  ·cases K
 ·split at K
  ·split at K
   ·cases K;exact⟨am _,V,ap⟩
   ·cases K;exact⟨one (ac _ _ _ Z),V,Y λB O=>ag _ _ _ Z O⟩
  ·cases K
 ·cases K;refine⟨one ⟨λx U=>?_,by simp [Fam.CC]⟩,V,Y λB O=>O⟩;simp [Fam.CC,MemAct.ofEvent,MemAct.touch?] at U;subst U;exact⟨⟨F.wg,V,.inl V⟩,by simp,λ_=> .inl V⟩
 ·split at K
  ·cases K;exact⟨Fo _,V,av⟩
  ·cases K
 ·split at K
  ·cases K;exact⟨one (ac _ _ _ Z),V,Y λB O=>ag _ _ _ Z O⟩
  ·cases K
 ·cases K;exact⟨one (He _ _ (by simp) (by simp) (by simp)),V,Y λB O=>trivial⟩
 ·cases K;exact⟨one (He _ _ (by simp) (by simp) (by simp)),V,Y λB O=>trivial⟩
 ·split at K
  ·cases K;exact⟨am _,by split <;> rfl,ap⟩
  ·cases K
 ·cases K;refine⟨one ⟨λx U=>?_,by simp [Fam.CC]⟩,V,Y λB O=>O⟩;simp [Fam.CC,MemAct.ofEvent,MemAct.touch?] at U;subst U;exact⟨⟨F.wg,V,.inl V⟩,by simp,λ_=> .inr ⟨_,V⟩⟩
 ·cases K;exact⟨one (He _ _ (by simp) (by simp) (by simp)),V,Y λB O=>trivial⟩
 all_goals
  cases K;exact⟨by simp,V,by simp⟩
theorem X0(p:Ph){es:Array Event}{U:Nx}(K:F.act p v wt sm=some ((v',wt',sm'),es,U)){k:Nat}(hw:G3 F k (.ph p))(O:late (.ph p)):
  ∀m e,es[m]? =some e->(MemAct.ofEvent e).touch? =none∨((∃ad wr,e=⟨.cell ad,wr,true⟩)/\0<deafBehind (F1 (.ph p)) (es.extract 0 m)):=by
 have two:∀m e,(#[Fam.Cc F.sA,Fam.Ew F.sA]:Array Event)[m]? =some e->(∃ad wr,e=⟨.cell ad,wr,true⟩)/\0<deafBehind 1 ((#[Fam.Cc F.sA,Fam.Ew F.sA]:Array Event).extract 0 m):=by
  intro m e h
  match m with
  | 0=>simp at h;subst h;exact⟨⟨_,_,rfl⟩,by simp [deafBehind]⟩
  | 1=>simp at h;subst h;exact⟨⟨_,_,rfl⟩,by simp [deafBehind,Fam.Cc]⟩
  | m+2=>simp at h
 cases p <;> simp only [G3] at hw <;> (try exact hw.elim) <;> simp only [late] at O <;> (try exact O.elim) <;> simp only [Fam.act] at K <;> (try (cases K;done))
 ·cases K;intro m e h
  match m with
  | 0=>simp at h;subst h;exact .inl rfl
  | m+1=>simp at h
 ·split at K
  ·cases K;exact λm e h=> .inr (two m e h)
  ·cases K
 ·split at K
  ·cases K;intro m e h
   match m with
   | 0=>simp at h;subst h;exact .inr ⟨⟨_,_,rfl⟩,by simp [deafBehind,F1]⟩
   | m+1=>simp at h
  ·cases K
 ·split at K
  ·cases K;intro m e h
   match m with
   | 0=>simp at h;subst h;exact .inr ⟨⟨_,_,rfl⟩,by simp [deafBehind,F1]⟩
   | m+1=>simp at h
  ·cases K
 ·split at K
  ·cases K;intro m e h
   match m with
   | 0=>simp [semEvents] at h;subst h;exact .inl rfl
   | 1=>simp [semEvents] at h;subst h;exact .inr ⟨⟨_,_,rfl⟩,by simp [deafBehind,F1,semEvents]⟩
   | 2=>simp [semEvents] at h;subst h;exact .inr ⟨⟨_,_,rfl⟩,by simp [deafBehind,F1,semEvents]⟩
   | 3=>simp [semEvents] at h;subst h;exact .inl rfl
   | m+4=>simp [semEvents] at h
  ·cases K
theorem Y7{p:LP}{m m':M4}{q q':Nat}{es:Array Event}{o:Option LP}(K:(m',q',es,o)∈F.BX p m q):
  (∀e∈es,FN F False e)/\deafBehind (dl p) es=oC dl o/\(∀e∈es,∀B,F.mu<B->(MemAct.ofEvent e).low B):=by
 have ac:∀(a:Addr) w,a.block=F.mu->FN F False ⟨.cell a,w,true⟩:=by
  intro a w hb;refine⟨λx Z=>?_,by simp⟩;have:x=⟨.cell a,w,.atomic⟩:=by cases w <;> (simp [MemAct.ofEvent,MemAct.touch?] at Z;exact Z.symm)
  subst this;exact⟨⟨F.mu,by simp [CM,hb],.inr V⟩,by simp,by simp⟩
 have ag:∀(a:Addr) w B,a.block=F.mu->F.mu<B->(MemAct.ofEvent ⟨.cell a,w,true⟩).low B:=by
  intro a w B hb O;cases w <;> simp [MemAct.ofEvent,MemAct.low,Loc.low,hb,O]
 have He:∀(m:Mark),(∀a,m≠ .read a)->(∀a,m≠ .write a)->(∀a,m≠ .release a)->FN F False (Fam.CC m):=by
  intro m al am ap;exact⟨λx Z=>(by rw [Sj al am] at Z;cases Z),λe=>ap _ (Loc.mark.inj e)⟩
 have nil:∀d,(∀e∈(#[]:Array Event),FN F False e)/\deafBehind d #[]=d/\(∀e∈(#[]:Array Event),∀B,F.mu<B->(MemAct.ofEvent e).low B):=λd=>⟨by simp,rfl,by simp⟩;have rd:∀d,(∀e∈(#[Fam.Cc F.uA]:Array Event),FN F False e)/\deafBehind d #[Fam.Cc F.uA]=d/\(∀e∈(#[Fam.Cc F.uA]:Array Event),∀B,F.mu<B->(MemAct.ofEvent e).low B):=λd=>
  ⟨λe he=>by simp at he;subst he;exact ac _ _ rfl,rfl,λe he B O=>by simp at he;subst he;exact ag _ _ _ rfl O⟩
 have U:∀d,(∀e∈(#[Fam.Cc F.uA,Fam.Ew F.uA]:Array Event),FN F False e)/\deafBehind d #[Fam.Cc F.uA,Fam.Ew F.uA]=d/\(∀e∈(#[Fam.Cc F.uA,Fam.Ew F.uA]:Array Event),∀B,F.mu<B->(MemAct.ofEvent e).low B):=λd=>
  ⟨λe he=>by
   simp only [List.mem_toArray,List.mem_cons,List.not_mem_nil,or_false] at he
   rcases he with rfl | rfl <;> exact ac _ _ rfl,rfl,λe he B O=>by
   simp only [List.mem_toArray,List.mem_cons,List.not_mem_nil,or_false] at he
   rcases he with rfl | rfl <;> exact ag _ _ _ rfl O⟩
 have Fo:(∀e∈semEvents F.qA,FN F False e)/\deafBehind 1 (semEvents F.qA)=1/\(∀e∈semEvents F.qA,∀B,F.mu<B->(MemAct.ofEvent e).low B):=by
  refine⟨λe he=>?_,V,λe he B O=>?_⟩
  ·simp only [semEvents,List.mem_toArray,List.mem_cons,List.not_mem_nil,or_false] at he;rcases he with rfl | rfl | rfl | rfl
   ·exact He .disable (by simp) (by simp) (by simp)
   ·exact ac _ _ V
   ·exact ac _ _ V
   ·exact He .enable (by simp) (by simp) (by simp)
  ·simp only [semEvents,List.mem_toArray,List.mem_cons,List.not_mem_nil,or_false] at he;rcases he with rfl | rfl | rfl | rfl
   ·trivial
   ·exact ag _ _ _ V O
   ·exact ag _ _ _ V O
   ·trivial
 have Y:∀(m:Mark) (d d':Nat),(∀a,m≠ .read a)->(∀a,m≠ .write a)->(∀a,m≠ .release a)->deafBehind d #[Fam.CC m]=d'->(∀B,F.mu<B->(MemAct.ofEvent (Fam.CC m)).low B)->
   (∀e∈(#[Fam.CC m]:Array Event),FN F False e)/\deafBehind d #[Fam.CC m]=d'/\(∀e∈(#[Fam.CC m]:Array Event),∀B,F.mu<B->(MemAct.ofEvent e).low B):=λm d d' al am ap aq av=>
  ⟨λe he=>by simp at he;subst he;exact He m al am ap,aq,λe he B O=>by simp at he;subst he;exact av B O⟩
 cases p <;> simp only [Fam.BX,List.mem_singleton,Prod.mk.injEq,List.not_mem_nil] at K
 case Gg=>obtain⟨rfl,rfl,rfl,rfl⟩:=K;exact Y .disable 0 1 (by simp) (by simp) (by simp) V λB O=>trivial
 case Hr=>
  split at K <;> simp only [List.mem_singleton,Prod.mk.injEq] at K <;> obtain⟨rfl,rfl,rfl,rfl⟩:=K
  ·exact U 1
  ·exact rd 1
 case Cl sv aw it old=>
  simp only [Fam.FK,List.mem_append] at K;rcases K with K | K
  ·split at K
   ·split at K
    ·simp only [List.mem_singleton] at K;split at K <;> simp only [Prod.mk.injEq] at K <;> obtain⟨rfl,rfl,rfl,rfl⟩:=K
     ·exact U 1
     ·exact rd 1
    ·simp only [List.mem_singleton,Prod.mk.injEq] at K;obtain⟨rfl,rfl,rfl,rfl⟩:=K;exact nil 1
   ·simp at K
  ·split at K
   ·split at K
    ·simp only [List.mem_singleton,Prod.mk.injEq] at K;obtain⟨rfl,rfl,rfl,rfl⟩:=K;exact U 1
    ·simp only [List.mem_cons,List.not_mem_nil,or_false,Prod.mk.injEq] at K;rcases K with⟨rfl,rfl,rfl,rfl⟩ | ⟨rfl,rfl,rfl,rfl⟩ <;> exact U 1
   ·simp only [List.mem_singleton,Prod.mk.injEq] at K;obtain⟨rfl,rfl,rfl,rfl⟩:=K;exact rd 1
 case Cv sv=>obtain⟨rfl,rfl,rfl,rfl⟩:=K;cases sv <;> exact Fo
 case Gf=>
  simp only [List.mem_cons,List.not_mem_nil,or_false,Prod.mk.injEq] at K;rcases K with⟨rfl,rfl,rfl,rfl⟩ | ⟨rfl,rfl,rfl,rfl⟩ <;> exact nil 1
 case ED sv=>split at K <;> simp only [List.mem_singleton,Prod.mk.injEq] at K <;> obtain⟨rfl,rfl,rfl,rfl⟩:=K <;> exact nil 1
 case H2=>
  obtain⟨rfl,rfl,rfl,rfl⟩:=K;split
  ·exact U 1
  ·split <;> exact U 1
 case ET old=>
  split at K <;> simp only [List.mem_singleton,Prod.mk.injEq] at K <;> obtain⟨rfl,rfl,rfl,rfl⟩:=K
  ·exact U 1
  ·exact rd 1
 case Hw=>obtain⟨rfl,rfl,rfl,rfl⟩:=K;split <;> exact nil 1
 case Fg b=>obtain⟨rfl,rfl,rfl,rfl⟩:=K;exact Fo
 case len=>obtain⟨rfl,rfl,rfl,rfl⟩:=K;exact Y .enable 1 0 (by simp) (by simp) (by simp) V λB O=>trivial
 case Fl=>obtain⟨rfl,rfl,rfl,rfl⟩:=K;exact Y .enable 1 0 (by simp) (by simp) (by simp) V λB O=>trivial
 case J9=>obtain⟨rfl,rfl,rfl,rfl⟩:=K;exact Y .disable 0 1 (by simp) (by simp) (by simp) V λB O=>trivial
 case Kd=>obtain⟨rfl,rfl,rfl,rfl⟩:=K;exact Y (.acquire F.uA) 0 0 (by simp) (by simp) (by simp) V λB O=>O
 case Kg=>obtain⟨rfl,rfl,rfl,rfl⟩:=K;exact Y (.releaseMerge F.uA) 0 0 (by simp) (by simp) (by simp) V λB O=>O
 all_goals
  obtain⟨rfl,rfl,rfl,rfl⟩:=K
 all_goals first | exact nil 0 | exact nil 1 | exact U 1
end
def Cw(c:Bool)(N:Nat)(φ:Nat->Nx):Nat->Nx:=λi=>if c=true/\i=N then φ 0 else if c=true/\i=0 then .ph (.FX [] []) else φ i
theorem Jw{N:Nat}{φ:Nat->Nx}:Cw false N φ=φ:=by funext i;simp [Cw]
theorem IW{c:Bool}{N:Nat}{φ:Nat->Nx}{i:Nat}(K:i≠0)(O:i≠N):Cw c N φ i=φ i:=by simp [Cw,K,O]
theorem J6{N:Nat}{φ:Nat->Nx}:Cw true N φ N=φ 0:=by simp [Cw]
theorem Nw{c:Bool}{N:Nat}{φ:Nat->Nx}{i:Nat}{x:Nx}(K:i≠0)(O:i≠N):upd (Cw c N φ) i x=Cw c N (upd φ i x):=by
 funext a;unfold Cw;by_cases e:a=i
 ·subst e;rw [upd_same,if_neg (by simp [O]),if_neg (by simp [K]),upd_same]
 ·rw [upd_ne _ _ e];rw [upd_ne φ x (Ne.symm K),upd_ne _ _ e]
theorem Xz{N:Nat}{φ:Nat->Nx}{x:Nx}(O:N≠0):upd (Cw true N φ) N x=Cw true N (upd φ 0 x):=by
 funext a;unfold Cw;by_cases e:a=N
 ·subst e;simp [upd_same]
 ·rw [upd_ne _ _ e];by_cases K:a=0
  ·subst K;simp [e]
  ·rw [upd_ne φ x K];simp [e,K]
def HQ:Nx->Bool
 | .gone _=>true
 | .ph p=>Fam.CL p
def loc(x:Nx)(s:St):St:=if HQ x=true then .quiet else s
def GK:LP->Prop
 | .GO | .Kk | .Kg | .J9 | .H2 | .ET _ | .Hw | .Fg _ | .Fl=>True
 | _=>False
def stored:Nx->Prop
 | .gone _=>True
 | .ph (.lk _ p)=>GK p
 | .ph .H7 | .ph .GJ | .ph .I2 | .ph .Hu | .ph .G5 | .ph .Hp | .ph .FA=>True
 | _=>False
def Qc(p:Ph):Prop:=p= .FL∨∃k sv,p= .lk k (.Cv sv)
inductive GN (P:Program) (F:Fam) (main:Bool):Nx->Rk->Bool->Gs_
 | walk {p:Ph} {r:Rk} {g:Goroutine} {s:St}:main=Fam.Cy p->(Fam.CL p=true->s= .quiet)->Jr P main (JQ (Stop P F p)) r g s->GN P F main (.ph p) r true g s
 | blk {p:Ph} {r:Rk} {g:Goroutine} {s:St}:Qc p->main=Fam.Cy p->Stop P F p g s->GN P F main (.ph p) r false {g with status:= .blocked} s
 | gone {q d:Nat} {g:Goroutine}:main=false->QuitsD P q d g->GN P F main (.gone d) (chain q) true g .quiet
section
variable {P:Program}{F:Fam}{main:Bool}
theorem Jr.running{p:Ph}{r:Rk}{g:Goroutine}{s:St}(h:Jr P main (JQ (Stop P F p)) r g s):g.status= .running:=by
 cases r with
 | leaf=>obtain⟨s₀,_,K⟩:=h;exact K.law.run
 | node f=>
  rcases h with⟨s₀,_,K⟩ | ⟨O,_⟩
  ·exact K.law.run
  ·exact O
theorem Jr.at_{Q:GP}{r:Rk}{g:Goroutine}{s:St}(h:Q g s):Jr P main Q r g s:=by
 cases r with
 | leaf=>exact h
 | node f=>exact .inl h
theorem GN.awake{x:Nx}{r:Rk}{b:Bool}{g:Goroutine}{s:St}(h:GN P F main x r b g s):Go.Conc.awake g:=by
 cases h with
 | walk _ _ K=>exact awake_of (.inl K.running)
 | blk _ _ _=>exact awake_of (.inr (.inl rfl))
 | gone _ O=>exact awake_of (O.status.elim .inl λx=> .inr (.inr x))
theorem Vz{g:Goroutine}(h:g.status= .running):{({g with status:= .blocked}:Goroutine) with status:= .running}=g:=by
 obtain⟨a,b,c,d,e⟩:=g;simp only at h;subst h;rfl
theorem Rq{p:Ph}(h:Qc p):Fam.CL p=false:=by
 rcases h with rfl | ⟨k,sv,rfl⟩ <;> rfl
theorem GN.woken{x:Nx}{r:Rk}{b:Bool}{o:Goroutine}{s:St}(h:GN P F main x r b o s){g g':Goroutine}{w':World}:
  ∃b',GN P F main x r b' (Go.Conc.woken P g g' w' o) s/\(b=true->b'=true)/\(mayWake P g=true->g'.status= .running->b'=true):=by
 have al:∀(o:Goroutine),Go.Conc.woken P g g' w' o=o.again w'∨Go.Conc.woken P g g' w' o=o:=by
  intro o;unfold Go.Conc.woken;split
  ·exact .inl V
  ·exact .inr V
 cases h with
 | walk K am U=>exact⟨true,by rw [woken_run U.running];exact .walk K am U,λ_=>rfl,λ_ _=>rfl⟩
 | @blk p _ go _ Y K O=>
  have Z:({go with status:= .blocked}:Goroutine).again w'=go:=by
   have:=O.law.offers;have ap:({go with status:= .blocked}:Goroutine).again w'={({go with status:= .blocked}:Goroutine) with status:= .running}:=by simp [Goroutine.again,this]
   rw [ap];exact Vz O.law.run
  have ac:GN P F main (.ph p) r true go s:= .walk K (λq=>by rw [Rq Y] at q;cases q) (Jr.at_ ⟨s,.refl _,O⟩);by_cases hc:mayWake P g=true/\g'.status= .running
  ·have e:Go.Conc.woken P g g' w' ({go with status:= .blocked}:Goroutine)=({go with status:= .blocked}:Goroutine).again w':=by
    unfold Go.Conc.woken;rw [if_pos (by simp [hc.1,hc.2])]
   exact⟨true,by rw [e,Z];exact ac,λ_=>V,λ_ _=>V⟩
  ·rcases al ({go with status:= .blocked}:Goroutine) with e | e
   ·exact⟨true,by rw [e,Z];exact ac,λ_=>V,λa b=>absurd ⟨a,b⟩ hc⟩
   ·exact⟨false,by rw [e];exact .blk Y K O,λe=>e,λa b=>absurd ⟨a,b⟩ hc⟩
 | gone K ag=>exact⟨true,by rw [woken_quitsD ag];exact .gone K ag,λ_=>rfl,λ_ _=>rfl⟩
end
structure Base where
 N0:Nat
 t0:Nat
 E0:LH
 w0:World
structure Inv (P:Program) (F:Fam) (B:Base) (gs:Array Goroutine) (w:World) (t:Trace) (φ:Nat->Nx) (r:Nat->Rk) (bt:Nat->Bool) (S:Nat->St) (Sh:Nat->Prop) (j:Nat) (c:Bool) (v wt sm:Nat) (m:M4) (q:Nat) (f:Nat->Value):Prop where
 Cz:CB F B.N0 (gs.size+c.toNat) j c (Cw c gs.size φ) v wt sm false
 lock:LI gs.size φ m q
 ES:Fi F B.N0 B.t0 gs.size j φ S t
 K3:∀i g,gs[i]? =some g->GN P F (i==0) (φ i) (r i) (bt i) g (loc (φ i) (S i))
 Ca:BV t w gs.size S Sh
 H3:Sh F.wg
 IL:Sh F.mu
 I5:Sh F.fd
 MN:F.mu≠F.wg
 Kf:F.fd≠F.wg
 Kl:F.fd≠F.mu
 H8:F.n<134217728
 mn:φ 0≠ .ph .G7/\φ 0≠ .ph .HR
 wg:F.WG w v wt sm
 JC:F.MU w m q
 Gy:F.FD w f
 blk:∀i,i<gs.size->bt i=false->(i=0/\φ 0= .ph .FL/\sm=0)∨((∃k sv,φ i= .ph (.lk k (.Cv sv)))/\q=0)
 IK:∀k,k<j->stored (φ (B.N0+k))->F.msg k (f k) (S (B.N0+k)).E
 le:Le B.E0 (S 0).E
 tape:w.tape=B.w0.tape
 os:Gw B.w0.os w.os
 output:w.output=B.w0.output
section
variable {P:Program}{F:Fam}{B:Base}{gs:Array Goroutine}{w w':World}{t:Trace}{φ:Nat->Nx}{r:Nat->Rk}{bt:Nat->Bool}{S:Nat->St}{Sh:Nat->Prop}{j:Nat}{c:Bool}{v wt' sm v₁ wt₁ sm₁:Nat}{m m₁:M4}{q q₁:Nat}{f f₁:Nat->Value}
theorem Inv.at_(h:Inv P F B gs w t φ r bt S Sh j c v wt' sm m q f)(d:Nat):Inv P F B gs (w.at d) t φ r bt S Sh j c v wt' sm m q f:=
 have hc:BV t (w.at d) gs.size S Sh:=by
  have:=h.Ca.mute (u:= #[]) (w':=w.at d) (g:=0) (by simp) (by simp) (by simp) rfl;simpa using this
 {h with Ca:=hc}
theorem Inv.size(h:Inv P F B gs w t φ r bt S Sh j c v wt' sm m q f):gs.size=B.N0+j:=by have:=h.Cz.size;omega
theorem Inv.EH(h:Inv P F B gs w t φ r bt S Sh j c v wt' sm m q f){i:Nat}(hi:i<gs.size):i=0∨(i≠0/\∃d,φ i= .gone d/\i<B.N0)∨∃k,k<j/\i=B.N0+k/\i≠0/\G3 F k (φ i):=by
 have Y:=h.size;have Z:=h.Cz.pos;rcases Nat.eq_zero_or_pos i with K | K
 ·exact .inl K
 rcases Nat.lt_or_ge i B.N0 with O | O
 ·have:=h.Cz.old i K O;rw [IW (by omega) (by omega)] at this;cases U:φ i with
  | gone d=>exact .inr (.inl ⟨by omega,d,rfl,O⟩)
  | ph p=>rw [U] at this;exact this.elim
 ·have:=h.Cz.work (i - B.N0) (by omega);rw [show B.N0+(i - B.N0)=i by omega,IW (by omega) (by omega)] at this;exact .inr (.inr ⟨i - B.N0,by omega,by omega,by omega,this⟩)
theorem Inv.main(h:Inv P F B gs w t φ r bt S Sh j c v wt' sm m q f):∃p,φ 0= .ph p/\Fam.Cy p=true/\((c=false/\HP F.n j c p)∨(c=true/\Jt (.ph p))):=by
 have Y:=h.size;cases hc:c with
 | false=>
  have:=h.Cz.main;rw [hc,Jw] at this;obtain⟨p,U,K⟩:=this;exact⟨p,U,by cases p <;> simp [HP] at K <;> rfl,.inl ⟨V,K⟩⟩
 | true=>
  have:=h.Cz.cls hc;have Z:=h.Cz.cj hc;rw [hc,show B.N0+F.n=gs.size by omega,J6] at this;cases O:φ 0 with
  | gone d=>
   have:=h.Cz.mode;rw [if_pos hc,hc,show B.N0+F.n=gs.size by omega,J6,O] at this;simp [Dy] at this
  | ph p=>rw [O] at this;exact⟨p,rfl,by cases p <;> simp [Jt] at this <;> rfl,.inr ⟨rfl,this⟩⟩
theorem J2(a b:LP->Nat)(N:Nat)(φ:Nat->Nx):Sg (λp=>a p+b p) N φ=Sg a N φ+Sg b N φ:=by
 unfold Sg
 induction N with
 | zero=>rfl
 | succ N K=>
  simp only [sumTo,K];have:Dd (λp=>a p+b p) (φ N)=Dd a (φ N)+Dd b (φ N):=by
   cases φ N with
   | gone d=>rfl
   | ph p=>cases p <;> rfl
  omega
theorem Pd{a b:Nat->Nat}:∀{N M:Nat},N<=M->(∀i,i<N->a i<=b i)->sumTo N a<=sumTo M b
 | 0,_,_,_=>by simp [sumTo]
 | N+1,0,h,_=>by omega
 | N+1,M+1,h,K=>by
  rcases Nat.lt_or_ge N M with q | q
  ·have O:sumTo (N+1) a<=sumTo M b:=Pd (by omega) K
   simp only [sumTo] at O ⊢;omega
  ·obtain rfl:N=M:=by omega
   have O:sumTo N a<=sumTo N b:=Pd (Nat.le_refl _) λi hi=>K i (by omega);have U:=K N (by omega);simp only [sumTo];omega
theorem Inv.small(h:Inv P F B gs w t φ r bt S Sh j c v wt' sm m q f):Da m:=by
 have Y:=h.size;have hb:Sg (λp=>(pQ p+pV p)+pD p) gs.size φ<=sumTo (gs.size+c.toNat) λi=>cU (Cw c gs.size φ i):=by
  refine Pd (by omega) λi hi=>?_;rcases Nat.eq_zero_or_pos i with rfl | Z
  ·obtain⟨p,O,hm,_⟩:=h.main;rw [O];cases p <;> first | (simp [Dd];done) | (simp [Fam.Cy] at hm)
  ·rw [IW (by omega) (by omega)];cases φ i with
   | gone d=>simp [Dd]
   | ph p=>
    cases p <;> simp only [Dd] <;> (try omega)
    rename_i k l;cases l <;> simp [pQ,pV,pD,cU]
 rw [J2,J2] at hb;have hc:=h.Cz.cnt;have ac:=h.Cz.QZ;obtain⟨l1,l2,U⟩:=h.lock.ln;have ag:=h.H8;show m.w<134217728;cases K:m.s with
 | false=>have:=(l2 K).2.2.2.1;omega
 | true=>have:=(U K).2.2.2.2.1;omega
theorem Inv.go(h:Inv P F B gs w t φ r bt S Sh j c v wt' sm m q f){i:Nat}{g g':Goroutine}{es:Array Event}{x:Nx}{ρ:Rk}{s':St}(hi:gs[i]? =some g)
  (aq:CB F B.N0 (gs.size+c.toNat) j c (Cw c gs.size (upd φ i x)) v₁ wt₁ sm₁ false) (av:LI gs.size (upd φ i x) m₁ q₁)
  (aw:Fi F B.N0 B.t0 gs.size j (upd φ i x) (upd S i s') (t++MemOp.ofEvents i g.frame.fn g.frame.place es))
  (ay:GN P F (i==0) x ρ true g' (loc x s'))
  (hC:BV (t++MemOp.ofEvents i g.frame.fn g.frame.place es) w' gs.size (upd S i s') Sh)
  (az:F.WG w' v₁ wt₁ sm₁) (a0:F.MU w' m₁ q₁) (a1:F.FD w' f₁)
  (a2:sm₁≠0->sm=0->mayWake P g=true/\g'.status= .running) (a3:q₁≠0->q=0->mayWake P g=true/\g'.status= .running)
  (a4:∀k,k<j->stored (upd φ i x (B.N0+k))->F.msg k (f₁ k) (upd S i s' (B.N0+k)).E)
  (a5:i=0->x≠ .ph .G7/\x≠ .ph .HR) (a6:i=0->Le (S 0).E s'.E) (a7:w'.tape=w.tape) (a8:Gw w.os w'.os) (a9:w'.output=w.output):
  ∃O,Inv P F B ((gs.map (woken P g g' w')).setIfInBounds i g') w' (t++MemOp.ofEvents i g.frame.fn g.frame.place es) (upd φ i x) (upd r i ρ) O (upd S i s') Sh j c v₁ wt₁ sm₁ m₁ q₁ f₁:=by
 have bb:i<gs.size:=(Array.getElem?_eq_some_iff.1 hi).1;have U:((gs.map (woken P g g' w')).setIfInBounds i g').size=gs.size:=by simp
 have am:∀a,∃b',(a=i->b'=true)/\(a≠i->∀o,gs[a]? =some o->GN P F (a==0) (φ a) (r a) b' (woken P g g' w' o) (loc (φ a) (S a))/\(bt a=true->b'=true)/\(mayWake P g=true->g'.status= .running->b'=true)):=by
  intro a;by_cases e:a=i
  ·exact⟨true,λ_=>V,λq=>absurd e q⟩
  ·cases K:gs[a]? with
   | none=>exact⟨true,λ_=>rfl,λ_ o q=>by cases q⟩
   | some o=>
    obtain⟨b',be,Y,Z⟩:=(h.K3 a o K).woken (g:=g) (g':=g') (w':=w');exact⟨b',λq=>absurd q e,λ_ o' q=>by cases q;exact⟨be,Y,Z⟩⟩
 let O:Nat->Bool:=λa=>Classical.choose (am a);have hb:∀a,(a=i->O a=true)/\(a≠i->∀o,gs[a]? =some o->GN P F (a==0) (φ a) (r a) (O a) (woken P g g' w' o) (loc (φ a) (S a))/\(bt a=true->O a=true)/\(mayWake P g=true->g'.status= .running->O a=true)):=λa=>Classical.choose_spec (am a);refine⟨O,by rw [U];exact aq,by rw [U];exact av,by rw [U];exact aw,λa o K=>?_,by rw [U];exact hC,h.H3,h.IL,h.I5,h.MN,h.Kf,h.Kl,h.H8,(by
  by_cases e:i=0
  ·subst e;rw [upd_same];exact a5 V
  ·rw [upd_ne _ _ (Ne.symm e)];exact h.mn),az,a0,a1,λa ag al=>?_,a4,λb o K=>?_,a7.trans h.tape,h.os.trans a8,a9.trans h.output⟩
 ·by_cases e:a=i
  ·subst e;rw [Array.getElem?_setIfInBounds_self_of_lt (by simpa using bb)] at K;obtain rfl:=Option.some.inj K;rw [upd_same,upd_same,upd_same,(hb a).1 rfl];exact ay
  ·rw [Array.getElem?_setIfInBounds_ne (Ne.symm e),Array.getElem?_map] at K;obtain⟨o',bi,rfl⟩:=Option.map_eq_some_iff.1 K;rw [upd_ne _ _ e,upd_ne _ _ e,upd_ne _ _ e];exact((hb a).2 e o' bi).1
 ·rw [U] at ag;have e:a≠i:=λe=>by have:=(hb a).1 e;rw [al] at this;cases this
  obtain⟨_,k1,bn⟩:=(hb a).2 e _ (Array.getElem?_eq_getElem ag);have ap:¬(mayWake P g=true/\g'.status= .running):=λ⟨x,y⟩=>by have:=bn x y;rw [al] at this;cases this
  have bo:bt a=false:=by
   cases ac:bt a with
   | false=>rfl
   | true=>have:=k1 ac;rw [al] at this;cases this
  rcases h.blk a ag bo with⟨rfl,Y,Z⟩ | ⟨⟨k,sv,Y⟩,Z⟩
  ·refine .inl ⟨V,by rw [upd_ne _ _ e];exact Y,?_⟩;exact Classical.not_not.1 λac=>ap (a2 ac Z)
  ·refine .inr ⟨⟨k,sv,by rw [upd_ne _ _ e];exact Y⟩,?_⟩;exact Classical.not_not.1 λac=>ap (a3 ac Z)
 ·by_cases e:i=0
  ·subst e;rw [upd_same];exact a6 V b o (h.le b o K)
  ·rw [upd_ne _ _ (Ne.symm e)];exact h.le b o K
end
def Q2(P:Program)(F:Fam)(B:Base)(gs:Array Goroutine)(w:World)(t:Trace):Prop:=
 ∃q Sh g s,HB P gs w t q Sh g s/\F.fin g s/\Le B.E0 s.E/\w.tape=B.w0.tape/\Gw B.w0.os w.os/\w.output=B.w0.output
def Iw(P:Program)(F:Fam)(B:Base)(gs:Array Goroutine)(w:World)(sl:Option (Nat×Nat))(t:Trace)(i:Nat)(K:Mu):Prop:=
 ∃gs' w' O u,runT P (crowd gs w sl) i=(.next (crowd gs' w' O),u)/\
  ((∃φ r bt S Sh j c v wt' sm m q f,Inv P F B gs' w' (t++u) φ r bt S Sh j c v wt' sm m q f/\Mu.lt (mu F gs'.size φ m q r bt) K)∨Q2 P F B gs' w' (t++u))
theorem LI.same{N:Nat}{φ:Nat->Nx}{m:M4}{q i:Nat}{y:Nx}(h:LI N φ m q)(hi:i<N)(O:∀f,Dd f (φ i)=Dd f y∨(f≠pH/\f≠pN/\f≠pZ/\f≠pV/\f≠pT/\f≠pQ/\f≠pD/\f≠pX))(U:OH y m):LI N (upd φ i y) m q:=by
 have e:∀f,(f=pH∨f=pN∨f=pZ∨f=pV∨f=pT∨f=pQ∨f=pD∨f=pX)->Sg f N (upd φ i y)=Sg f N φ:=λf Y=>NC f hi (by
  rcases O f with q | ⟨a,b,c,d,e,f,g,h⟩
  ·exact q
  ·rcases Y with q | q | q | q | q | q | q | q <;> contradiction)
 refine⟨by rw [e pH (by simp),e pN (by simp),e pZ (by simp),e pV (by simp),e pT (by simp),e pQ (by simp),e pD (by simp),e pX (by simp)];exact h.ln,λa Z=>?_⟩;by_cases K:a=i
 ·subst K;rw [upd_same];exact U
 ·rw [upd_ne _ _ K];exact h.loc a Z
section
variable {P:Program}{F:Fam}{B:Base}{gs:Array Goroutine}{w w':World}{sl:Option (Nat×Nat)}{t:Trace}{φ:Nat->Nx}{r:Nat->Rk}{bt:Nat->Bool}{S:Nat->St}{Sh:Nat->Prop}{j:Nat}{c:Bool}{v wt' sm v₁ wt₁ sm₁:Nat}{m m₁:M4}{q q₁:Nat}{f f₁:Nat->Value}
theorem Inv.go'(h:Inv P F B gs w t φ r bt S Sh j c v wt' sm m q f){i:Nat}{g g':Goroutine}{es:Array Event}{x:Nx}{ρ:Rk}{s':St}(hi:gs[i]? =some g)(O:stepG P (i==0) g w= .go g' w' es)
  (U:CB F B.N0 (gs.size+c.toNat) j c (Cw c gs.size (upd φ i x)) v₁ wt₁ sm₁ false) (Y:LI gs.size (upd φ i x) m₁ q₁)
  (Z:Fi F B.N0 B.t0 gs.size j (upd φ i x) (upd S i s') (t++MemOp.ofEvents i g.frame.fn g.frame.place es))
  (ac:GN P F (i==0) x ρ true g' (loc x s'))
  (hC:BV (t++MemOp.ofEvents i g.frame.fn g.frame.place es) w' gs.size (upd S i s') Sh)
  (ag:F.WG w' v₁ wt₁ sm₁) (al:F.MU w' m₁ q₁) (am:F.FD w' f₁)
  (ap:sm₁≠0->sm=0->mayWake P g=true/\g'.status= .running) (aq:q₁≠0->q=0->mayWake P g=true/\g'.status= .running)
  (av:∀k,k<j->stored (upd φ i x (B.N0+k))->F.msg k (f₁ k) (upd S i s' (B.N0+k)).E)
  (aw:i=0->x≠ .ph .G7/\x≠ .ph .HR) (ay:i=0->Le (S 0).E s'.E) (az:w'.tape=w.tape) (a0:Gw w.os w'.os) (a1:w'.output=w.output)
  (hm:∀K,Mu.lt (mu F gs.size (upd φ i x) m₁ q₁ (upd r i ρ) K) (mu F gs.size φ m q r bt)):Iw P F B gs w sl t i (mu F gs.size φ m q r bt):=by
 obtain⟨K,a2⟩:=h.go hi U Y Z ac hC ag al am ap aq av aw ay az a0 a1;refine⟨_,_,_,_,runT_crowd_go hi O,.inl ⟨_,_,_,_,_,_,_,_,_,_,_,_,_,a2,?_⟩⟩;have a3:((gs.map (woken P g g' w')).setIfInBounds i g').size=gs.size:=by simp
 rw [a3];exact hm K
theorem RS{k:Nat}{p:Ph}(hw:G3 F k (.ph p))(K:late (.ph p)):Fam.CL p=true:=by
 cases p <;> simp only [G3] at hw <;> (try exact hw.elim) <;> first | rfl | exact K.elim
theorem M8(a:Nat)(fn:FuncId)(pos:String):MemOp.ofEvents a fn pos #[]= #[]:=by rw [ofEvents_eq];simp
theorem Inv.own(h:Inv P F B gs w t φ r bt S Sh j c v wt' sm m q f)(bb:∀k v E E',Le E E'->F.msg k v E->F.msg k v E'){i:Nat}{g g':Goroutine}{es:Array Event}{p:Ph}{ρ:Rk}{s':St}(hi:gs[i]? =some g)(K:φ i= .ph p)(a0:(i==0)=Fam.Cy p)
  (a1:stepG P (i==0) g w= .go g' w' es) (a2:Jr P (i==0) (JQ (Stop P F p)) ρ g' s') (be:Fits s' w') (O:Fr (loc (.ph p) (S i)) w s' w') (Y:∀e∈es,Ev (loc (.ph p) (S i)) w w' e) (bi:loc (.ph p) (S i)= .quiet->s'= .quiet/\w'=w/\es= #[]) (bn:Rk.sub ρ (r i)):
  Iw P F B gs w sl t i (mu F gs.size φ m q r bt):=by
 have U:i<gs.size:=(Array.getElem?_eq_some_iff.1 hi).1;have Z:upd φ i (.ph p)=φ:=by rw [← K];exact Ns _ _
 have a3:∀a4,Mu.lt (mu F gs.size (upd φ i (.ph p)) m q (upd r i ρ) a4) (mu F gs.size φ m q r bt):=λa4=>U2 U (λ_=>by rw [K]) (by rw [K]) bn;cases ac:Fam.CL p with
 | true=>
  have ag:loc (.ph p) (S i)= .quiet:=by simp [loc,HQ,ac]
  obtain⟨rfl,rfl,rfl⟩:=bi ag;have av:upd S i (S i)=S:=Ns _ _;refine h.go' hi a1 (x:= .ph p) (ρ:=ρ) (s':=S i) (by rw [Z];exact h.Cz) (by rw [Z];exact h.lock) ?_ (by rw [ag];exact .walk a0 (λ_=>rfl) a2) ?_ h.wg h.JC h.Gy (λa b=>absurd b a) (λa b=>absurd b a) (by rw [Z,av];exact h.IK) (λe=>by subst e;rw [← K];exact h.mn) (λe=>by subst e;exact .refl _) V (.refl _) V a3
  ·rw [Z,av,M8];simpa using h.ES
  ·rw [av,M8];simpa using h.Ca
 | false=>
  have ag:loc (.ph p) (S i)=S i:=by simp [loc,HQ,ac]
  rw [ag] at O Y;have bo:loc (.ph p) s'=s':=by simp [loc,HQ,ac]
  have aw:∀b₀,Sh b₀->∀b wr,G1 (S i) w w' b wr->b≠b₀:=by
   intro b₀ am b wr bv;have a5:=h.Ca.sh i U b₀ am;have b3:=h.Ca.Gu b₀ am;rintro rfl;rcases bv.2 with q | q | ⟨q,_⟩
   ·exact q a5.1
   ·omega
   ·exact q a5.2
  have ay:∀b₀,Sh b₀->w'.heap[b₀]? =w.heap[b₀]? :=λb₀ am=>O.keep b₀ (h.Ca.Gu b₀ am) (h.Ca.sh i U b₀ am).1;have a6:∀k,k<j->i=B.N0+k->¬late (φ i):=by
   intro k al e a7;rcases h.EH U with b4 | ⟨_,d,hd,_⟩ | ⟨k',_,_,_,hw⟩
   ·have:=h.Cz.pos;omega
   ·rw [K] at hd;cases hd
   ·rw [K] at hw a7;rw [RS hw a7] at ac;cases ac
  have bw:∀e∈es,e.loc≠ .mark .disable/\e.loc≠ .mark .enable:=by
   intro e he;have:=Y e he;refine⟨λaq=>?_,λaq=>?_⟩ <;> unfold Ev at this <;> rw [aq] at this <;> exact this
  refine h.go' (f₁:=f) hi a1 (x:= .ph p) (ρ:=ρ) (s':=s') (by rw [Z];exact h.Cz) (by rw [Z];exact h.lock) ?_ (by rw [bo];exact .walk a0 (λe=>by rw [ac] at e;cases e) a2) (h.Ca.own U be O Y) ?_ ?_ ?_ (λa b=>absurd b a) (λa b=>absurd b a) ?_ (λe=>by subst e;rw [← K];exact h.mn) (λe=>by subst e;exact λb o az=>O.ext b o az) O.tape (.of O.os) O.output a3
  ·refine h.ES.app U (by rw [K];exact deafBehind_still bw _) (λe he=>⟨λa b ap hb bx=>absurd bx ?_,λa ap hb=>absurd V (aw F.fd h.I5 F.fd a.write (Ln (Y e he) ap hb)),?_⟩) ?_ (λk al bz e he a b ap hb hw=>?_) (λk al e ag=>absurd (K▸ag) (a6 k al e))
   ·have:=Ln (Y e he) ap hb;rintro(q | q)
    ·exact aw F.wg h.H3 b _ this q
    ·exact aw F.mu h.IL b _ this q
   ·intro aq;have:=Y e he;unfold Ev at this;rw [aq] at this;exact this
   ·rcases h.EH U with e | ⟨_,d,hd,_⟩ | ⟨k,_,e,_,_⟩
    ·exact .inl (.inl e)
    ·rw [K] at hd;cases hd
    ·exact .inl (.inr (by omega))
   ·have b0:=Ln (Y e he) ap hb;have b1:B.N0+k≠i:=λe=>a6 k al e.symm (e▸bz);have a8:B.N0+k<gs.size:=by have:=h.size;omega
    rcases b0.2 with y | y | ⟨_,y⟩
    ·exact(h.Ca.hh i (B.N0+k) U a8 (Ne.symm b1) b y).2
    ·cases b2:(S (B.N0+k)).E b with
     | none=>rfl
     | some o=>have:=(h.Ca.fits _ a8).e b o b2;simp [Array.getElem?_eq_none y] at this
    ·rw [y] at hw;cases hw
  ·show w'.heap[F.wg]? =_;rw [ay _ h.H3];exact h.wg
  ·show w'.heap[F.mu]? =_;rw [ay _ h.IL];exact h.JC
  ·show w'.heap[F.fd]? =_;rw [ay _ h.I5];exact h.Gy
  ·intro k al a9;rw [Z] at a9;have:=h.IK k al a9;by_cases e:B.N0+k=i
   ·rw [e,upd_same];rw [e] at this;exact bb _ _ _ _ (λb o az=>O.ext b o az) this
   ·rw [upd_ne _ _ e];exact this
theorem Inv.slip(h:Inv P F B gs w t φ r bt S Sh j c v wt' sm m q f){i:Nat}{g:Goroutine}(hi:gs[i]? =some g)(Z:g.status= .running){d U:Nat}(O:φ i= .gone d)(az:r i=chain U)(ag:(i==0)=false)(ap:QuitsD P U d g):
  Iw P F B gs w sl t i (mu F gs.size φ m q r bt):=by
 have al:i<gs.size:=(Array.getElem?_eq_some_iff.1 hi).1;have ac:i≠0:=by simpa using ag
 cases U with
 | zero=>rw [ap.1] at Z;cases Z
 | succ U=>
  rcases ap with⟨a0,_⟩ | ⟨_,g',es,hm,a1,a2⟩
  ·rw [a0] at Z;cases Z
  have a3:∀op∈MemOp.ofEvents i g.frame.fn g.frame.place es,op.act.touch? =none:=λop Y=>by obtain⟨e,he,rfl⟩:=mem_ofEvents Y;exact touch_mute (hm e he)
  have a4:∀e∈es,e.loc≠ .mark (.release F.sA):=by
   intro e he aq;have:=hm e he;obtain⟨loc,wr,a7⟩:=e;simp only at aq;subst aq;simp [Event.mute] at this
  have av:upd S i (S i)=S:=Ns _ _;have aw:=h.Cz.leave (i:=i) (d:=d) (d':=deafBehind d es) (by omega) (by rw [IW ac (by omega)];exact O);rw [Nw ac (by omega)] at aw;refine h.go' hi (by rw [ag];exact a1 w) (x:= .gone (deafBehind d es)) (ρ:=chain U) (s':=S i) aw (h.lock.other al (λk p e=>by rw [O] at e;cases e) (λk p e=>by cases e)) ?_ (.gone ag a2) ?_ h.wg h.JC h.Gy (λa b=>absurd b a) (λa b=>absurd b a) ?_ (λe=>absurd e ac) (λe=>absurd e ac) V (.refl _) V λa8=>U2 al (λ_=>by rw [O];rfl) (by rw [O];rfl) (by rw [az];exact WT U w)
  ·refine h.ES.app al (by rw [O];rfl) (λe he=>⟨λa b K=>(by rw [touch_mute (hm e he)] at K;cases K),λa K=>(by rw [touch_mute (hm e he)] at K;cases K),a4 e he⟩) (.inr λe he=>touch_mute (hm e he)) (λk am a5 e he a b K=>(by rw [touch_mute (hm e he)] at K;cases K)) (λk am e a5=> .inl ⟨by rw [O];trivial,V,λρ a6=>?_⟩);exact a6.appOwn _ _ es λm e he=> .inl (touch_mute (hm e (Array.mem_of_getElem? he)))
  ·rw [av];exact h.Ca.mute (g:=i) (λop Y=>by obtain⟨e,_,rfl⟩:=mem_ofEvents Y;rfl) a3 (λop Y=>by obtain⟨e,he,rfl⟩:=mem_ofEvents Y;exact low_mute (hm e he) _) V
  ·rw [av];intro k am ay;refine h.IK k am ?_;by_cases e:B.N0+k=i
   ·rw [e,O];trivial
   ·rw [upd_ne _ _ e] at ay;exact ay
theorem au{p:Ph}{es:Array Event}{K:Nx}(O:F.act p v wt' sm=some ((v₁,wt₁,sm₁),es,K)):
  (∀q,K= .ph q->Fam.Cy q=Fam.Cy p/\(Fam.CL q=true->p= .GJ∨Fam.CL p=true)/\(Fam.CL q=false->Fam.CL p=false/\p≠ .GJ)/\∀k l,q≠ .lk k l)/\(sm₁≠0->sm=0->p= .FA)/\(∀d,K= .gone d->Fam.Cy p=false/\Fam.CL p=true)/\
  (∀k l,p≠ .lk k l)/\(Fam.Cy p=false->stored K)/\(Fam.Cy p=false->late K->late (.ph p)∨p= .GJ)/\(Fam.Cy p=false->stored (.ph p))/\K≠ .ph .G7/\K≠ .ph .HR:=by
 cases p <;> simp only [Fam.act] at O <;> (try (cases O;done))
 all_goals (try (split at O)) <;> (try (cases O;done)) <;> (try (split at O))
 all_goals cases O
 all_goals first
  | (simp [Fam.Cy,Fam.CL,stored,late];done)
  | (split <;> simp [Fam.Cy,Fam.CL,stored,late];done)
  | (simp [Fam.Cy,Fam.CL,stored,late];omega)
theorem CB.enabled{N0 N:Nat}{cl:Bool}(h:CB F N0 N j c φ v wt' sm cl){i:Nat}(hi:i<N){p:Ph}(K:φ i= .ph p)(ay:∀k,p≠ .Hs k)(az:∀k,p≠ .F2 k)(a0:p≠ .G7)(a1:∀a2 vs,p≠ .FX a2 vs)(a3:p≠ .HR)(a4:p= .FL->sm=1)(a5:p≠ .Gv)(a6:∀k l,p≠ .lk k l):
  ∃v' w' sm' es a7,F.act p v wt' sm=some ((v',w',sm'),es,a7):=by
 have hm:=h.mode;have be:=h.QZ;have bi:=h.H8;have hc:=h.cnt;have Z:cU (φ i)<=sumTo N λa=>cU (φ a):=le_sumTo (f:=λa=>cU (φ a)) hi;have ac:cL (φ i)<=sumTo N λa=>cL (φ a):=le_sumTo (f:=λa=>cL (φ a)) hi;have ap:cS (φ i)<=sumTo N λa=>cS (φ a):=le_sumTo (f:=λa=>cS (φ a)) hi;rw [K] at Z ac ap;have a8:wt'<=1:=by
  generalize (if c=true then φ (N0+F.n) else Nx.ph .Dl)=y at hm
  cases y with
  | gone d=>simp only [Dy] at hm;omega
  | ph q=>cases q <;> simp only [Dy] at hm <;> (try exact hm.elim) <;> omega
 have ag:1<=(sumTo N λa=>cL (φ a))+(sumTo N λa=>cS (φ a))->v=0/\sm=0/\wt'=sumTo N λa=>cL (φ a):=by
  intro hh;generalize (if c=true then φ (N0+F.n) else Nx.ph .Dl)=y at hm
  cases y with
  | gone d=>simp only [Dy] at hm;omega
  | ph q=>cases q <;> simp only [Dy] at hm <;> (try exact hm.elim) <;> omega
 have al:∀x,φ i= .ph x->Jt (.ph x)->c=true/\(if c=true then φ (N0+F.n) else Nx.ph .Dl)= .ph x:=by
  intro x U aq;rcases h.EH hi with rfl | ⟨a,b⟩ | ⟨k,am,rfl⟩ | ⟨hc,rfl⟩
  ·obtain⟨q,O,Y⟩:=h.main;rw [U] at O;cases O;cases x <;> simp [HP] at Y <;> exact aq.elim
  ·have:=h.old i a b;rw [U] at this;exact this.elim
  ·have:=h.work k am;rw [U] at this;cases x <;> simp [G3] at this <;> exact aq.elim
  ·exact⟨hc,by rw [if_pos hc];exact U⟩
 cases p <;> simp only [Fam.act]
 ·exact absurd V (ay _)
 ·exact⟨_,_,_,_,_,V⟩
 ·exact⟨_,_,_,_,_,V⟩
 ·simp only [cU] at Z;have:1<=v:=by
   have bn:1<=sumTo N λa=>cU (φ a):=Z;omega
  rw [if_pos ⟨this,by omega,a8⟩];exact⟨_,_,_,_,_,V⟩
 ·have a9:1<=sumTo N λa=>cL (φ a):=ac;have:=ag (by omega);rw [if_pos ⟨this.1,by omega⟩];exact⟨_,_,_,_,_,V⟩
 ·have a9:1<=sumTo N λa=>cL (φ a):=ac;have:=ag (by omega);rw [if_pos ⟨this.1,by omega⟩];exact⟨_,_,_,_,_,V⟩
 ·have bo:1<=sumTo N λa=>cS (φ a):=ap;have:=ag (by omega);rw [if_pos this.2.1];exact⟨_,_,_,_,_,V⟩
 ·exact⟨_,_,_,_,_,V⟩
 ·obtain⟨av,e⟩:=al _ K trivial;rw [e] at hm;rw [if_pos ⟨hm.2.2.2.2.2,hm.2.2.2.1⟩];exact⟨_,_,_,_,_,V⟩
 ·obtain⟨av,e⟩:=al _ K trivial;rw [e] at hm;rw [if_pos ⟨hm.2.2.2.2.2.1,hm.2.2.2.2.2.2,hm.2.2.2.1⟩];split <;> exact⟨_,_,_,_,_,rfl⟩
 ·exact⟨_,_,_,_,_,V⟩
 ·rw [if_pos (a4 rfl)];exact⟨_,_,_,_,_,V⟩
 ·obtain⟨av,e⟩:=al _ K trivial;rw [e] at hm;rw [if_pos ⟨hm.2.2.2.2.1,hm.2.2.2.1⟩];exact⟨_,_,_,_,_,V⟩
 ·exact⟨_,_,_,_,_,V⟩
 ·exact absurd V a5
 ·exact absurd V a3
 ·exact⟨_,_,_,_,_,V⟩
 ·have bb:c=false/\v<=j/\j<F.n:=by
   rcases h.EH hi with rfl | ⟨a,b⟩ | ⟨k,am,rfl⟩ | ⟨hc,rfl⟩
   ·obtain⟨q,O,Y⟩:=h.main;rw [K] at O;cases O;have aw:=h.Ki;rw [K] at aw;exact⟨Y.2.2,by simpa [pend] using aw,Y.2.1⟩
   ·have:=h.old i a b;rw [K] at this;exact this.elim
   ·have:=h.work k am;rw [K] at this;exact this.elim
   ·have:=h.cls hc;rw [K] at this;exact this.elim
  rw [bb.1] at hm;simp only [Bool.false_eq_true,if_false,Dy] at hm;rw [if_pos ⟨by omega,hm.2.2.2.1⟩];exact⟨_,_,_,_,_,V⟩
 ·exact⟨_,_,_,_,_,V⟩
 ·exact⟨_,_,_,_,_,V⟩
 ·exact absurd V (az _)
 ·exact absurd V a0
 ·exact absurd V (a1 _ _)
 all_goals first | exact⟨_,_,_,_,_,rfl⟩ | exact absurd rfl (a6 _ _)
end
section
variable {P:Program}{F:Fam}{B:Base}{gs:Array Goroutine}{w w':World}{sl:Option (Nat×Nat)}{t:Trace}{φ:Nat->Nx}{r:Nat->Rk}{bt:Nat->Bool}{S:Nat->St}{Sh:Nat->Prop}{j:Nat}{c:Bool}{v wt' sm v₁ wt₁ sm₁:Nat}{m m₁:M4}{q q₁:Nat}{f f₁:Nat->Value}
theorem YD(w:World)(v wt sm:Nat):(F.put w v wt sm).heap.size=w.heap.size:=by simp [Fam.put]
theorem Qj(w:World)(v wt sm:Nat){b:Nat}(h:b≠F.wg):(F.put w v wt sm).heap[b]? =w.heap[b]? :=by simp [Fam.put,Array.getElem?_setIfInBounds_ne (Ne.symm h)]
theorem ak(w:World)(v wt sm:Nat)(h:F.wg<w.heap.size):F.WG (F.put w v wt sm) v wt sm:=by simp [Fam.WG,Fam.put,h]
theorem WM(w:World)(m:M4)(q:Nat):(F.FZ w m q).heap.size=w.heap.size:=by simp [Fam.FZ]
theorem PW(w:World)(m:M4)(q:Nat){b:Nat}(h:b≠F.mu):(F.FZ w m q).heap[b]? =w.heap[b]? :=by simp [Fam.FZ,Array.getElem?_setIfInBounds_ne (Ne.symm h)]
theorem Zu(w:World)(m:M4)(q:Nat)(h:F.mu<w.heap.size):F.MU (F.FZ w m q) m q:=by simp [Fam.MU,Fam.FZ,h]
theorem Xl(w:World)(f:Nat->Value):(F.Hz w f).heap.size=w.heap.size:=by simp [Fam.Hz]
theorem P0(w:World)(f:Nat->Value){b:Nat}(h:b≠F.fd):(F.Hz w f).heap[b]? =w.heap[b]? :=by simp [Fam.Hz,Array.getElem?_setIfInBounds_ne (Ne.symm h)]
theorem Zc(w:World)(f:Nat->Value)(h:F.fd<w.heap.size):F.FD (F.Hz w f) f:=by simp [Fam.FD,Fam.Hz,h]
theorem bC{p:Ph}{s:St}(h:p≠ .GJ):Fam.JD p s=s:=by cases p <;> first | rfl | exact absurd rfl h
theorem BV.heap{t:Trace}{w w':World}{N:Nat}{S:Nat->St}{Sh:Nat->Prop}(h:BV t w N S Sh)(hw:w'.heap=w.heap):BV t w' N S Sh:=by
 have:=h.mute (u:= #[]) (w':=w') (g:=0) (by simp) (by simp) (by simp) hw;simpa using this
theorem Inv.act(h:Inv P F B gs w t φ r bt S Sh j c v wt' sm m q f)(b1:∀k v E E',Le E E'->F.msg k v E->F.msg k v E'){i:Nat}{g:Goroutine}(hi:gs[i]? =some g){p:Ph}(K:φ i= .ph p)(ac:(i==0)=Fam.Cy p){s₀:St}(b2:Ci (loc (.ph p) (S i)) s₀)(aq:Stop P F p g s₀)
  {es:Array Event} {Z:Nx} (O:F.act p v wt' sm=some ((v₁,wt₁,sm₁),es,Z)):Iw P F B gs w sl t i (mu F gs.size φ m q r bt):=by
 have U:i<gs.size:=(Array.getElem?_eq_some_iff.1 hi).1;obtain⟨g',b3,b4,a4⟩:=aq.law.act _ _ _ _ _ _ _ _ O;obtain⟨n1,n2,b5,b6,n5,ca,cc,ce⟩:=au O;obtain⟨am,e2,ci⟩:=b8 p O;have a5:=h.Ca.Gu F.wg h.H3;have eb:=h.size;have ec:=h.Cz.pos;have a6:i≠0->Fam.Cy p=false:=λe=>by rw [← ac];simp [e]
 have a7:(p= .H6∨∃j,p= .HU j)->i=0:=by
  intro Y;have:Fam.Cy p=true:=by rcases Y with rfl | ⟨j,rfl⟩ <;> rfl
  rw [this] at ac;simpa using ac
 have a8:i=0∨B.N0<=i:=by
  rcases h.EH U with e | ⟨_,d,hd,_⟩ | ⟨k,_,e,_,_⟩
  ·exact .inl e
  ·rw [K] at hd;cases hd
  ·exact .inr (by omega)
 let s':St:=if Fam.CL p=true then S i else s₀
 have av:Fam.CL p=true->s'=S i:=λe=>by simp [s',e]
 have ag:Fam.CL p=false->s'=s₀:=λe=>by simp [s',e]
 have a9:Fam.CL p=false->Ci (S i) s₀:=λe=>by simpa [loc,HQ,e] using b2
 have hle:Le (S i).E s'.E:=by
  cases e:Fam.CL p with
  | true=>rw [av e];exact .refl _
  | false=>rw [ag e];exact λb o aw=>(a9 e).ext b o aw
 have bb:BV t w gs.size (upd S i s') Sh:=by
  cases e:Fam.CL p with
  | true=>rw [av e,Ns];exact h.Ca
  | false=>rw [ag e];exact h.Ca.ghost U (a9 e)
 have co:BV (t++MemOp.ofEvents i g.frame.fn g.frame.place es) (F.put w v₁ wt₁ sm₁) gs.size (upd S i s') Sh:=by
  refine bb.ext (h.ES.noRace h.Ca.clean U a8 λe he=>(am e he).toS a7) (λop ay a az b hb=>?_) (λop ay=>?_) (YD ..) (λb hb=>Qj _ _ _ _ λe=>hb (e▸h.H3))
  ·obtain⟨e,he,rfl⟩:=mem_ofEvents ay;obtain⟨⟨b',al,a0⟩,_⟩:=(am e he).1 a az;rw [hb] at al;cases al;rcases a0 with rfl | rfl
   ·exact h.H3
   ·exact h.IL
  ·obtain⟨e,he,rfl⟩:=mem_ofEvents ay;exact ci e he _ a5
 have cp:stepG P (i==0) g w= .go g' (F.put w v₁ wt₁ sm₁) es:=by rw [ac];exact b3 w h.wg
 have ct:CB F B.N0 (gs.size+c.toNat) j c (Cw c gs.size (upd φ i Z)) v₁ wt₁ sm₁ false:=by
  by_cases e:i=0
  ·subst e;cases c with
   | false=>
    have:=h.Cz.act (i:=0) (by omega) (by rw [Jw];exact K) O;rw [Jw] at this;rw [Jw];exact this
   | true=>
    have:=h.Cz.act (i:=gs.size) (by simp) (by rw [J6];exact K) O
    rwa [Xz (by omega)] at this
  ·have:=h.Cz.act (i:=i) (by omega) (by rw [IW e (by omega)];exact K) O
   rwa [Nw e (by omega)] at this
 have cw:Fi F B.N0 B.t0 gs.size j (upd φ i Z) (upd S i s') (t++MemOp.ofEvents i g.frame.fn g.frame.place es):=by
  refine h.ES.app U (by rw [K];exact e2) (λe he=>(am e he).keep a7 h.Kf h.Kl) (.inl a8) (λk ap be e he a b az hb hw=>?_) (λk ap e be=>?_)
  ·obtain⟨⟨b',al,a0⟩,_⟩:=(am e he).1 a az;rw [hb] at al;cases al;have bi:B.N0+k<gs.size:=by omega
   rcases a0 with rfl | rfl
   ·exact(h.Ca.sh _ bi _ h.H3).2
   ·exact(h.Ca.sh _ bi _ h.IL).2
  ·have bn:i≠0:=by omega
   have bo:G3 F k (.ph p):=by
    rcases h.EH U with cy | ⟨_,d,hd,_⟩ | ⟨k',_,ed,_,hw⟩
    ·exact absurd cy bn
    ·rw [K] at hd;cases hd
    ·obtain rfl:k'=k:=by omega
     rwa [K] at hw
   rcases ca (a6 bn) be with a2 | rfl
   ·refine .inl ⟨by rw [K];exact a2,by rw [av (RS bo a2)],λρ a3=>?_⟩;refine a3.appOwn _ _ es λm e he=>?_;rw [h.ES.deaf _ U,K];exact X0 p O bo a2 m e he
   ·refine .inr ⟨t.size,h.ES.MG,?_,?_⟩
    ·simp only [Fam.act] at O;cases O;exact .new (by rw [h.ES.deaf _ U,K];rfl) _ _
    ·simp only [Fam.act] at O;cases O;rw [ag rfl];intro b hb x a bv c0 hw;have c1:MemOp.ofEvents i g.frame.fn g.frame.place #[Fam.CC (.releaseMerge F.sA)]= #[{g:=i,fn:=g.frame.fn,pos:=g.frame.place,act:= .mark (.releaseMerge F.sA)}]:=by rw [ofEvents_eq];simp [Fam.CC,MemAct.ofEvent]
     rw [c1] at bv ⊢;obtain⟨op,aw,bw⟩:=touch_of bv;rcases getElem?_append_cases aw with⟨_,c2⟩ | ⟨_,bx⟩
     ·have c3:=bb.kE i U b (by rw [upd_same,ag rfl];exact hb) x a (by rw [touchAt_of c2];exact bw) c0 hw;have c4:(t++ #[({g:=i,fn:=g.frame.fn,pos:=g.frame.place,act:= .mark (.releaseMerge F.sA)}:MemOp)])[t.size]? =some {g:=i,fn:=g.frame.fn,pos:=g.frame.place,act:= .mark (.releaseMerge F.sA)}:=by simp
      exact .inr (c3.hb_new (Nat.le_refl _) c4 V)
     ·simp at bx;subst bx;cases bw
 have c5:∀k,k<j->stored (upd φ i Z (B.N0+k))->F.msg k (f k) (upd S i s' (B.N0+k)).E:=by
  intro k ap bz;by_cases e:B.N0+k=i
  ·rw [e,upd_same];have:=h.IK k ap (by rw [e,K];exact cc (a6 (by omega)));rw [e] at this;exact b1 _ _ _ _ hle this
  ·rw [upd_ne _ _ e] at bz ⊢;exact h.IK k ap bz
 have c6:LI gs.size (upd φ i Z) m q:=h.lock.other U (λk l e=>b6 k l (by rw [K] at e;exact Nx.ph.inj e)) (λk l e=>by subst e;exact(n1 _ rfl).2.2.2 k l rfl);have c7:∀q,Z= .ph q->loc (.ph q) s'=Fam.JD p s₀:=by
  intro q e;obtain⟨_,b0,c8,_⟩:=n1 q e;cases Y:Fam.CL q with
  | true=>
   have:loc (.ph q) s'= .quiet:=by simp [loc,HQ,Y]
   rw [this];rcases b0 Y with rfl | e
   ·rfl
   ·rw [aq.law.quiet e];cases p <;> rfl
  | false=>
   obtain⟨a1,c9⟩:=c8 Y;rw [bC c9,ag a1];simp [loc,HQ,Y]
 have fin:∀(ρ:Rk),GN P F (i==0) Z ρ true g' (loc Z s')->Iw P F B gs w sl t i (mu F gs.size φ m q r bt):=λρ dd=>
  h.go' (f₁:=f) hi cp ct c6 cw dd co (ak _ _ _ _ a5) (by show(F.put w v₁ wt₁ sm₁).heap[F.mu]? =_;rw [Qj _ _ _ _ h.MN];exact h.JC) (by show(F.put w v₁ wt₁ sm₁).heap[F.fd]? =_;rw [Qj _ _ _ _ h.Kf];exact h.Gy)
   (λa b=>⟨aq.law.I3 (.inl (n2 a b)),b4⟩) (λa b=>absurd b a) c5 (λ_=>ce) (λe=>by subst e;exact hle) rfl (.refl _) rfl λee=>Uf U (by rw [K];exact Z8 O)
 cases Z with
 | ph q=>
  obtain⟨ρ,a3⟩:=a4;refine fin ρ ?_;obtain⟨dn,b0,_,_⟩:=n1 q V;refine .walk (by rw [ac,dn]) (λY=>by simp [loc,HQ,Y]) ?_;rw [c7 q rfl,ac];exact a3
 | gone d=>
  obtain⟨ea,Y⟩:=a4;exact fin (chain ea) (.gone (by rw [ac];exact(b5 d rfl).1) Y)
theorem bW{l:LP}{m m':M4}{q q':Nat}{es:Array Event}{o:Option LP}(K:(m',q',es,o)∈F.BX l m q):q'<=q∨∃b,l= .Fg b:=by
 cases l <;> simp only [Fam.BX,List.mem_singleton,Prod.mk.injEq,List.not_mem_nil] at K
 case Fg b=>exact .inr ⟨b,rfl⟩
 case Hr=>split at K <;> simp only [List.mem_singleton,Prod.mk.injEq] at K <;> exact .inl (by omega)
 case Cl sv aw it old=>
  simp only [Fam.FK,List.mem_append] at K;left;rcases K with K | K
  ·split at K
   ·split at K
    ·simp only [List.mem_singleton] at K;split at K <;> simp only [Prod.mk.injEq] at K <;> omega
    ·simp only [List.mem_singleton,Prod.mk.injEq] at K;omega
   ·simp at K
  ·split at K
   ·split at K
    ·simp only [List.mem_singleton,Prod.mk.injEq] at K;omega
    ·simp only [List.mem_cons,List.not_mem_nil,or_false,Prod.mk.injEq] at K;rcases K with K | K <;> omega
   ·simp only [List.mem_singleton,Prod.mk.injEq] at K;omega
 case Gf=>
  simp only [List.mem_cons,List.not_mem_nil,or_false,Prod.mk.injEq] at K;left;rcases K with K | K <;> omega
 case ED sv=>split at K <;> simp only [List.mem_singleton,Prod.mk.injEq] at K <;> exact .inl (by omega)
 case ET old=>split at K <;> simp only [List.mem_singleton,Prod.mk.injEq] at K <;> exact .inl (by omega)
 all_goals exact .inl (by omega)
theorem XU{l:LP}{m m':M4}{q q':Nat}{es:Array Event}{o:Option LP}(K:(m',q',es,o)∈F.BX l m q):(∀p,o=some p->GK p->GK l)/\(o=none->GK l):=by
 cases l <;> simp only [Fam.BX,List.mem_singleton,Prod.mk.injEq,List.not_mem_nil] at K
 case Hr=>split at K <;> simp only [List.mem_singleton,Prod.mk.injEq] at K <;> obtain⟨-,-,-,rfl⟩:=K <;> simp [GK]
 case Cl sv aw it old=>
  simp only [Fam.FK,List.mem_append] at K;rcases K with K | K
  ·split at K
   ·split at K
    ·simp only [List.mem_singleton] at K;split at K <;> simp only [Prod.mk.injEq] at K <;> obtain⟨-,-,-,rfl⟩:=K <;> simp [GK]
    ·simp only [List.mem_singleton,Prod.mk.injEq] at K;obtain⟨-,-,-,rfl⟩:=K;simp [GK]
   ·simp at K
  ·split at K
   ·split at K
    ·simp only [List.mem_singleton,Prod.mk.injEq] at K;obtain⟨-,-,-,rfl⟩:=K;simp [GK]
    ·simp only [List.mem_cons,List.not_mem_nil,or_false,Prod.mk.injEq] at K;rcases K with⟨-,-,-,rfl⟩ | ⟨-,-,-,rfl⟩ <;> simp [GK]
   ·simp only [List.mem_singleton,Prod.mk.injEq] at K;obtain⟨-,-,-,rfl⟩:=K;simp [GK]
 case Gf=>
  simp only [List.mem_cons,List.not_mem_nil,or_false,Prod.mk.injEq] at K;rcases K with⟨-,-,-,rfl⟩ | ⟨-,-,-,rfl⟩ <;> simp [GK]
 case Cv sv=>obtain⟨-,-,-,rfl⟩:=K;cases sv <;> simp [GK]
 case ED sv=>split at K <;> simp only [List.mem_singleton,Prod.mk.injEq] at K <;> obtain⟨-,-,-,rfl⟩:=K <;> simp [GK]
 all_goals first
  | (obtain⟨-,-,-,rfl⟩:=K;simp [GK];done)
  | (exact⟨λ_ _ _=>trivial,λ_=>trivial⟩)
theorem Inv.BX(h:Inv P F B gs w t φ r bt S Sh j c v wt' sm m q f)(be:∀k v E E',Le E E'->F.msg k v E->F.msg k v E'){i:Nat}{g:Goroutine}(hi:gs[i]? =some g){k:Nat}{l:LP}(K:φ i= .ph (.lk k l))(bi:l≠ .Fj)(ag:(i==0)=false){s₀:St}(a1:Ci (S i) s₀)(a2:Stop P F (.lk k l) g s₀)
  (bn:∀sv,l= .Cv sv->q≠0):Iw P F B gs w sl t i (mu F gs.size φ m q r bt):=by
 have O:i<gs.size:=(Array.getElem?_eq_some_iff.1 hi).1;have aw:=h.lock.ok O K h.small bn;obtain⟨m',q',es,o,g',al,U,bo,Y,bv,bw⟩:=a2.law.lk k l V bi w m q h.JC aw;obtain⟨am,e2,bx⟩:=Y7 U;have a3:=h.Ca.Gu F.mu h.IL;have c1:=h.size;have c2:=h.Cz.pos;have Z:i≠0:=by simpa using ag
 obtain⟨k',bz,a4,_,a5⟩:∃k',k'<j/\i=B.N0+k'/\i≠0/\G3 F k' (φ i):=by
  rcases h.EH O with e | ⟨_,d,hd,_⟩ | e
  ·exact absurd e Z
  ·rw [K] at hd;cases hd
  ·exact e
 rw [K] at a5;obtain rfl:k=k':=a5;have b0:BV t w gs.size (upd S i s₀) Sh:=h.Ca.ghost O a1;have b1:BV (t++MemOp.ofEvents i g.frame.fn g.frame.place es) al gs.size (upd S i s₀) Sh:=by
  have:BV (t++MemOp.ofEvents i g.frame.fn g.frame.place es) (F.FZ w m' q') gs.size (upd S i s₀) Sh:=by
   refine b0.ext (h.ES.noRace h.Ca.clean O (.inr (by omega)) λe he=>(am e he).toS (λx=>x.elim)) (λop ay a az b hb=>?_) (λop ay=>?_) (WM ..) (λb hb=>PW _ _ _ λe=>hb (e▸h.IL))
   ·obtain⟨e,he,rfl⟩:=mem_ofEvents ay;obtain⟨⟨b',ac,a0⟩,_⟩:=(am e he).1 a az;rw [hb] at ac;cases ac;rcases a0 with rfl | rfl
    ·exact h.H3
    ·exact h.IL
   ·obtain⟨e,he,rfl⟩:=mem_ofEvents ay;exact bx e he _ a3
  exact this.heap Y.1
 have b2:cU (.ph (Fam.Dc k o))=1/\cL (.ph (Fam.Dc k o))=0/\cS (.ph (Fam.Dc k o))=0/\G3 F k (.ph (Fam.Dc k o))/\(∀a,Nx.ph (Fam.Dc k o)≠ .ph (.Hs a))/\Fam.Cy (Fam.Dc k o)=false/\Fam.CL (Fam.Dc k o)=false/\¬late (.ph (Fam.Dc k o)):=by
  cases o with
  | none=>exact⟨rfl,rfl,rfl,trivial,by simp [Fam.Dc],rfl,rfl,λx=>x⟩
  | some p=>exact⟨rfl,rfl,rfl,rfl,by simp [Fam.Dc],rfl,rfl,λx=>x⟩
 obtain⟨b3,x2,b4,b5,b6,ca,a6,cc⟩:=b2;have ce:CB F B.N0 (gs.size+c.toNat) j c (Cw c gs.size (upd φ i (.ph (Fam.Dc k o)))) v wt' sm false:=by
  have ap:Cw c gs.size φ (B.N0+k)= .ph (.lk k l):=by rw [← a4,IW Z (by omega)];exact K
  have:=h.Cz.ID (v':=v) (wt':=wt') (sm':=sm) (cl':=false) bz (x:= .ph (Fam.Dc k o)) b5 (λa=>by rw [ap];simp) b6 (by rw [ap,b3];rfl) λL S' a7 a8=>by
   rw [ap,x2] at a7;rw [ap,b4] at a8;have ci:L=_:=a7;have co:S'=_:=a8;rw [ci,co];exact h.Cz.mode
  rwa [← a4,Nw Z (by omega)] at this
 have cp:Fi F B.N0 B.t0 gs.size j (upd φ i (.ph (Fam.Dc k o))) (upd S i s₀) (t++MemOp.ofEvents i g.frame.fn g.frame.place es):=by
  refine h.ES.app O (by rw [K];rw [show F1 (.ph (.lk k l))=dl l from rfl,e2];cases o <;> rfl) (λe he=>(am e he).keep (λx=>x.elim) h.Kf h.Kl) (.inl (.inr (by omega))) (λk' aq a9 e he a b az hb hw=>?_) (λk' aq e a9=>absurd a9 cc);obtain⟨⟨b',ac,a0⟩,_⟩:=(am e he).1 a az;rw [hb] at ac;cases ac;have bb:B.N0+k'<gs.size:=by omega
  rcases a0 with rfl | rfl
  ·exact(h.Ca.sh _ bb _ h.H3).2
  ·exact(h.Ca.sh _ bb _ h.IL).2
 obtain⟨ρ,ct⟩:=bw;have cw:loc (.ph (Fam.Dc k o)) s₀=s₀:=by simp [loc,HQ,a6]
 refine h.go' (f₁:=f) hi (by rw [ag];exact bo) ce (h.lock.step O K h.small aw U) cp (ρ:=ρ) (by rw [cw];exact .walk (by rw [ag,ca]) (λe=>by rw [a6] at e;cases e) (by rw [ag];exact ct)) b1 ?_ ?_ ?_ (λa b=>absurd b a) (λa b=>?_) (λk' aq av=>?_) (λe=>absurd e Z) (λe=>absurd e Z) (Y.2.1) Y.2.2.1 Y.2.2.2 λc3=>dv O K U aw
 ·show al.heap[F.wg]? =_;rw [Y.1,PW _ _ _ (Ne.symm h.MN)];exact h.wg
 ·show al.heap[F.mu]? =_;rw [Y.1];exact Zu _ _ _ a3
 ·show al.heap[F.fd]? =_;rw [Y.1,PW _ _ _ h.Kl];exact h.Gy
 ·rcases bW U with e | ⟨cy,rfl⟩
  ·omega
  ·exact⟨a2.law.I3 (.inr ⟨k,cy,V⟩),bv⟩
 ·by_cases e:B.N0+k'=i
  ·rw [e,upd_same] at av ⊢;obtain rfl:k'=k:=by omega
   have c0:GK l:=by
    obtain⟨a,b⟩:=XU U;cases o with
    | none=>exact b rfl
    | some p=>exact a p rfl av
   have:=h.IK k' aq (by rw [e,K];exact c0);rw [e] at this;exact be _ _ _ _ (λb o U=>a1.ext b o U) this
  ·rw [upd_ne _ _ e] at av ⊢;exact h.IK k' aq av
end
section
variable {P:Program}{F:Fam}{B:Base}{gs gs':Array Goroutine}{w w':World}{sl:Option (Nat×Nat)}{t:Trace}{φ:Nat->Nx}{r:Nat->Rk}{bt:Nat->Bool}{S:Nat->St}{Sh:Nat->Prop}{j:Nat}{c:Bool}{v wt' sm v₁ wt₁ sm₁:Nat}{m m₁:M4}{q q₁:Nat}{f f₁:Nat->Value}
theorem Inv.store(h:Inv P F B gs w t φ r bt S Sh j c v wt' sm m q f){i:Nat}{g:Goroutine}(hi:gs[i]? =some g){k:Nat}(O:φ i= .ph (.lk k .Fj))(ag:(i==0)=false){s₀:St}(a4:Ci (S i) s₀)(a5:Stop P F (.lk k .Fj) g s₀):
  Iw P F B gs w sl t i (mu F gs.size φ m q r bt):=by
 have U:i<gs.size:=(Array.getElem?_eq_some_iff.1 hi).1;obtain⟨v0,a6,g',b1,a7,a8⟩:=a5.law.store k V;have aw:=h.Ca.Gu F.fd h.I5;have b2:=h.size;have b3:=h.Cz.pos;have Y:i≠0:=by simpa using ag
 obtain⟨k',al,Z,_,ay⟩:∃k',k'<j/\i=B.N0+k'/\i≠0/\G3 F k' (φ i):=by
  rcases h.EH U with e | ⟨_,d,hd,_⟩ | e
  ·exact absurd e Y
  ·rw [O] at hd;cases hd
  ·exact e
 rw [O] at ay;obtain rfl:k=k':=ay;have ac:∀e∈(#[⟨.cell ⟨F.fd,k,none⟩,true,false⟩]:Array Event),∀a,(MemAct.ofEvent e).touch? =some a->a=⟨.cell ⟨F.fd,k,none⟩,true,.plain⟩:=by
  intro e he a K;simp at he;subst he;simp [MemAct.ofEvent,MemAct.touch?] at K;exact K.symm
 have az:∀e∈(#[⟨.cell ⟨F.fd,k,none⟩,true,false⟩]:Array Event),e.loc≠ .mark (.release F.sA):=by
  intro e he;simp at he;subst he;simp
 have a9:∀e∈(#[⟨.cell ⟨F.fd,k,none⟩,true,false⟩]:Array Event),EvS F B.N0 j i e:=λe he=>
  ⟨λa K=>by have:=ac e he a K;subst this;exact⟨F.fd,rfl,.inr ⟨rfl,k,al,Z,rfl,rfl⟩⟩,az e he⟩
 have bb:BV t w gs.size (upd S i s₀) Sh:=h.Ca.ghost U a4;have be:BV (t++MemOp.ofEvents i g.frame.fn g.frame.place #[⟨.cell ⟨F.fd,k,none⟩,true,false⟩]) (F.Hz w (upd f k v0)) gs.size (upd S i s₀) Sh:=by
  refine bb.ext (h.ES.noRace h.Ca.clean U (.inr (by omega)) a9) (λop am a bi b hb=>?_) (λop am=>?_) (Xl ..) (λb hb=>P0 _ _ λe=>hb (e▸h.I5))
  ·obtain⟨e,he,rfl⟩:=mem_ofEvents am;have:=ac e he a bi;subst this;have:b=F.fd:=by simpa [CM] using hb.symm
   subst this;exact h.I5
  ·obtain⟨e,he,rfl⟩:=mem_ofEvents am;simp at he;subst he;simp [MemAct.ofEvent,MemAct.low,Loc.low,aw]
 have bn:CB F B.N0 (gs.size+c.toNat) j c (Cw c gs.size (upd φ i (.ph (.lk k .GO)))) v wt' sm false:=by
  have ap:Cw c gs.size φ (B.N0+k)= .ph (.lk k .Fj):=by rw [← Z,IW Y (by omega)];exact O
  have:=h.Cz.ID (v':=v) (wt':=wt') (sm':=sm) (cl':=false) al (x:= .ph (.lk k .GO)) rfl (λa=>by rw [ap];simp) (by simp) (by rw [ap];rfl) λL S' a0 a1=>by
   rw [ap] at a0 a1;have bo:L=_:=a0;have bv:S'=_:=a1;rw [bo,bv];exact h.Cz.mode
  rwa [← Z,Nw Y (by omega)] at this
 have bw:Fi F B.N0 B.t0 gs.size j (upd φ i (.ph (.lk k .GO))) (upd S i s₀) (t++MemOp.ofEvents i g.frame.fn g.frame.place #[⟨.cell ⟨F.fd,k,none⟩,true,false⟩]):=by
  refine h.ES.app U (by rw [O];rfl) (λe he=>⟨λa b K hb bx=>?_,λa K hb=>?_,az e he⟩) (.inl (.inr (by omega))) (λk' aq a2 e he a b K hb hw=>?_) (λk' aq e a2=>a2.elim)
  ·have:=ac e he a K;subst this;have av:b=F.fd:=by simpa [CM] using hb.symm
   subst av;rcases bx with e | e
   ·exact absurd e h.Kf
   ·exact absurd e h.Kl
  ·have:=ac e he a K;subst this;exact⟨k,al,Z,V,V⟩
  ·have:=ac e he a K;subst this;have av:b=F.fd:=by simpa [CM] using hb.symm
   subst av;exact(h.Ca.sh (B.N0+k') (by omega) _ h.I5).2
 obtain⟨ρ,bz⟩:=a8;have b0:LI gs.size (upd φ i (.ph (.lk k .GO))) m q:=by
  refine h.lock.same U (λf=>?_) trivial;rw [O];by_cases e:f .Fj=f .GO
  ·exact .inl e
  ·right;refine⟨?_,?_,?_,?_,?_,?_,?_,?_⟩ <;> rintro rfl <;> exact e rfl
 refine h.go' (f₁:=upd f k v0) hi (by rw [ag];exact a7 w f h.Gy) bn b0 bw (ρ:=ρ) (.walk (by rw [ag];rfl) (λe=>by cases e) (by rw [ag];exact bz)) be ?_ ?_ (Zc _ _ aw) (λa b=>absurd b a) (λa b=>absurd b a) (λk' aq a3=>?_) (λe=>absurd e Y) (λe=>absurd e Y) V (.refl _) V λb4=>Uf U (by rw [O];simp [wt,HC])
 ·show(F.Hz w (upd f k v0)).heap[F.wg]? =_;rw [P0 _ _ (Ne.symm h.Kf)];exact h.wg
 ·show(F.Hz w (upd f k v0)).heap[F.mu]? =_;rw [P0 _ _ (Ne.symm h.Kl)];exact h.JC
 ·by_cases e:k'=k
  ·subst e;rw [← Z,upd_same,upd_same];exact a6
  ·rw [upd_ne _ _ e];rw [upd_ne _ _ (by omega)] at a3 ⊢;exact h.IK k' aq a3
theorem VB{g g' o:Goroutine}(h:g'.status= .blocked):woken P g g' w o=o:=by
 unfold woken;rw [if_neg (by simp [h])]
theorem Fi.an{N0 t0 N:Nat}(h:Fi F N0 t0 N j φ S t){i:Nat}{s':St}(U:∀k,k<j->late (φ (N0+k))->N0+k≠i):Fi F N0 t0 N j φ (upd S i s') t:=
 ⟨h.deaf,h.above,h.plain,h.said,h.Gy,h.over,h.norel,h.MG,λk K O=>by rw [upd_ne _ _ (U k K O)];exact h.rel k K O⟩
theorem Inv.block(h:Inv P F B gs w t φ r bt S Sh j c v wt' sm m q f){i:Nat}{g:Goroutine}(hi:gs[i]? =some g){p:Ph}(K:φ i= .ph p)(a0:bt i=true)(ac:(i==0)=Fam.Cy p){s₀:St}(ap:Ci (S i) s₀)(ag:Stop P F p g s₀)
  (al:(p= .FL/\sm=0)∨((∃k sv,p= .lk k (.Cv sv))/\q=0)):Iw P F B gs w sl t i (mu F gs.size φ m q r bt):=by
 have Y:i<gs.size:=(Array.getElem?_eq_some_iff.1 hi).1;have a5:=h.size;have a1:stepG P (i==0) g w= .go {g with status:= .blocked} w #[]:=by
  rw [ac];rcases al with⟨rfl,rfl⟩ | ⟨⟨k,sv,rfl⟩,rfl⟩
  ·exact ag.law.Fo V w v wt' h.wg
  ·exact ag.law.Cv k sv V w m h.JC
 have Z:Qc p:=by
  rcases al with⟨rfl,_⟩ | ⟨⟨k,sv,rfl⟩,_⟩
  ·exact .inl V
  ·exact .inr ⟨k,sv,V⟩
 have a2:=Rq Z;have aq:=runT_crowd_go (P:=P) (sl:=sl) (i:=i) hi a1;have a3:(gs.map (woken P g {g with status:= .blocked} w)).setIfInBounds i {g with status:= .blocked}=gs.setIfInBounds i {g with status:= .blocked}:=by
  have:(woken P g {g with status:= .blocked} w)=id:=by funext o;exact VB V
  rw [this,Array.map_id]
 rw [a3,M8] at aq;have O:(gs.setIfInBounds i {g with status:= .blocked}).size=gs.size:=by simp
 have av:t++(#[]:Trace)=t:=by simp
 have a4:∀k,k<j->late (φ (B.N0+k))->B.N0+k≠i:=by
  intro k aw ay e;rw [e,K] at ay;rcases Z with rfl | ⟨k',sv,rfl⟩
  ·rcases h.EH Y with av | ⟨_,d,hd,_⟩ | ⟨k',_,_,_,hw⟩
   ·have:=h.Cz.pos;omega
   ·rw [K] at hd;cases hd
   ·rw [K] at hw;exact hw
  ·exact ay
 refine⟨_,_,_,_,aq,.inl ⟨φ,r,upd bt i false,upd S i s₀,Sh,j,c,v,wt',sm,m,q,f,?_,?_⟩⟩
 ·rw [av];refine⟨by rw [O];exact h.Cz,by rw [O];exact h.lock,by rw [O];exact h.ES.an a4,λa o U=>?_,by rw [O];exact h.Ca.ghost Y ap,h.H3,h.IL,h.I5,h.MN,h.Kf,h.Kl,h.H8,h.mn,h.wg,h.JC,h.Gy,λa az hb=>?_,λk aw am=>?_,?_,h.tape,h.os,h.output⟩
  ·by_cases e:a=i
   ·subst e;rw [Array.getElem?_setIfInBounds_self_of_lt Y] at U;obtain rfl:=Option.some.inj U;rw [upd_same,upd_same,K];have:loc (.ph p) s₀=s₀:=by simp [loc,HQ,a2]
    rw [this];exact .blk Z ac ag
   ·rw [Array.getElem?_setIfInBounds_ne (Ne.symm e)] at U;rw [upd_ne _ _ e,upd_ne _ _ e];exact h.K3 a o U
  ·by_cases e:a=i
   ·subst e;rcases al with⟨rfl,rfl⟩ | ⟨⟨k,sv,rfl⟩,rfl⟩
    ·have:a=0:=by simpa [Fam.Cy] using ac
     subst this;exact .inl ⟨V,K,V⟩
    ·exact .inr ⟨⟨k,sv,K⟩,V⟩
   ·rw [upd_ne _ _ e] at hb;rw [O] at az;exact h.blk a az hb
  ·by_cases e:B.N0+k=i
   ·rw [e,K] at am;rcases Z with rfl | ⟨k',sv,rfl⟩ <;> exact am.elim
   ·rw [upd_ne _ _ e];exact h.IK k aw am
  ·by_cases e:0=i
   ·subst e;rw [upd_same];exact λb o U=>ap.ext b o (h.le b o U)
   ·rw [upd_ne _ _ e];exact h.le
 ·rw [O];have:=sumTo_upd bt false bit Y;rw [a0] at this;exact .inr ⟨V,.inr ⟨V,.inr ⟨V,V,.inr ⟨V,by show(sumTo gs.size λa=>bit (upd bt i false a))<sumTo gs.size λa=>bit (bt a);simp only [bit] at this ⊢;simp only [if_true,Bool.false_eq_true,if_false] at this;omega⟩⟩⟩⟩
theorem LI.push{N:Nat}(h:LI N φ m q)(Z:0<N){p0:Ph}{j:Nat}(O:∀k p,φ 0≠ .ph (.lk k p))(U:∀k p,p0≠ .lk k p):LI (N+1) (upd (upd φ N (.ph (.lk j .Gg))) 0 (.ph p0)) m q:=by
 have Y:LI (N+1) (upd φ N (.ph (.lk j .Gg))) m q:=by
  have e:∀f,f LP.Gg=0->Sg f (N+1) (upd φ N (.ph (.lk j .Gg)))=Sg f N φ:=by
   intro f ac;unfold Sg;simp only [sumTo];have:=sumTo_upd_out φ (.ph (.lk j .Gg)) (Dd f) (i:=N) (j:=N) (Nat.le_refl _);rw [upd_same];show _+f .Gg=_;omega
  refine⟨by rw [e pH rfl,e pN rfl,e pZ rfl,e pV rfl,e pT rfl,e pQ rfl,e pD rfl,e pX rfl];exact h.ln,λa ag=>?_⟩;by_cases K:a=N
  ·subst K;rw [upd_same];trivial
  ·rw [upd_ne _ _ K];exact h.loc a (by omega)
 exact Y.other (by omega) (by rw [upd_ne _ _ (by omega)];exact O) (λk p e=>U k p (Nx.ph.inj e))
theorem Inv.spawn(h:Inv P F B gs w t φ r bt S Sh j c v wt' sm m q f){g:Goroutine}(hi:gs[0]? =some g){K:Nat}(ac:φ 0= .ph (.F2 K)){s₀:St}(be:Ci (S 0) s₀)(bw:Stop P F (.F2 K) g s₀):
  Iw P F B gs w sl t 0 (mu F gs.size φ m q r bt):=by
 have Y:0<gs.size:=(Array.getElem?_eq_some_iff.1 hi).1;obtain⟨rfl,dn,rfl⟩:K=j/\j<F.n/\c=false:=by
  obtain⟨p,bi,_,hh⟩:=h.main;rw [ac] at bi;cases bi;rcases hh with⟨e,hm⟩ | ⟨_,hm⟩
  ·exact⟨hm.1,hm.2.1,e⟩
  ·exact hm.elim
 obtain⟨g',child,ea,eb,bx,bz,b0⟩:=bw.law.go _ V;have b1:=h.size;have ec:=h.Cz.pos;have a3:=runT_crowd_spawn (P:=P) (sl:=sl) (i:=0) hi (show stepG P (0==0) g w=_ from bx w);rw [M8] at a3;generalize b2:({g:=0,fn:=g.frame.fn,pos:=g.frame.place,act:= .go gs.size}:MemOp)=x at a3;generalize b3:({g:=gs.size,fn:=child.frame.fn,pos:=g.frame.place,act:= .start}:MemOp)=y at a3;have am:x.g=0/\x.act= .go gs.size:=by subst b2;exact⟨V,V⟩
 have ap:y.g=gs.size/\y.act= .start:=by subst b3;exact⟨V,V⟩
 have b4:((#[]:Trace).push x).push y= #[x,y]:=V;have al:((gs.setIfInBounds 0 g').push child).size=gs.size+1:=by simp
 have b5:Fam.Cy (F.EG K)=true/\Fam.CL (F.EG K)=false/\F1 (.ph (F.EG K))=0/\(∀k p,F.EG K≠ .lk k p):=by
  unfold Fam.EG;split <;> exact⟨rfl,rfl,rfl,by simp⟩
 obtain⟨b6,x2,ca,cc⟩:=b5;let φ':Nat->Nx:=upd (upd φ gs.size (.ph (F.start K))) 0 (.ph (F.EG K));have f0:φ' 0= .ph (F.EG K):=upd_same _ _ _;have aq:φ' gs.size= .ph (F.start K):=by show upd _ _ _ _=_;rw [upd_ne _ _ (by omega),upd_same]
 have av:∀a,a≠0->a≠gs.size->φ' a=φ a:=λa ce a6=>by show upd _ _ _ _=_;rw [upd_ne _ _ ce,upd_ne _ _ a6]
 have hu:∀op∈(#[x,y]:Array MemOp),op.act.touch? =none/\∀m,op.act≠ .mark m:=by
  intro op O;simp only [List.mem_toArray,List.mem_cons,List.not_mem_nil,or_false] at O;rcases O with rfl | rfl
  ·rw [am.2];exact⟨V,by simp⟩
  ·rw [ap.2];exact⟨V,by simp⟩
 have aw:=h.Cz.spawn (by rw [Jw];exact ac);rw [Jw] at aw;simp only [Bool.toNat_false,Nat.add_zero] at aw;have a7:∃ay,CB F B.N0 (gs.size+1+ay.toNat) (K+1) ay (Cw ay (gs.size+1) φ') v wt' sm false:=by
  by_cases e:K+1=F.n
  ·refine⟨true,?_⟩;have a8:F.FI K= .G7:=by unfold Fam.FI;rw [if_pos e]
   have e2:F.EG K= .Dl:=by unfold Fam.EG;rw [if_pos e]
   have:=aw.bK (by rw [upd_same,a8]);have ci:Cw true (gs.size+1) φ'=upd (upd (upd (upd φ gs.size (.ph (F.start K))) 0 (.ph (F.FI K))) (gs.size+1) (.ph .Dl)) 0 (.ph (.FX [] [])):=by
    funext a;unfold Cw;by_cases a9:a=gs.size+1
    ·subst a9;rw [if_pos ⟨rfl,rfl⟩,upd_ne _ _ (by omega),upd_same,f0,e2]
    ·rw [if_neg (by simp [a9])];by_cases ag:a=0
     ·subst ag;rw [if_pos ⟨rfl,rfl⟩,upd_same]
     ·rw [if_neg (by simp [ag]),upd_ne _ _ ag,upd_ne _ _ a9];show upd _ _ _ _=_;rw [upd_ne _ _ ag,upd_ne _ _ ag]
   rw [ci];exact this
  ·refine⟨false,?_⟩;have a8:F.FI K=F.EG K:=by unfold Fam.FI Fam.EG;rw [if_neg e,if_neg e]
   rw [a8] at aw;rw [Jw];exact aw
 obtain⟨ay,a7⟩:=a7;have bn:BV t w gs.size (upd S 0 s₀) Sh:=h.Ca.ghost Y be;have co:BV (t++ #[x,y]) w gs.size (upd S 0 s₀) Sh:=by
  refine bn.ext (λsaid=>?_) (λop O a az=>by rw [(hu op O).1] at az;cases az) (λop O=>?_) V λ_ _=>V
  ·have e:t++ #[x,y]=(t++ #[x])++ #[y]:=by apply Array.ext';simp
   rw [e];exact noRace_append (g:=gs.size) (noRace_append (g:=0) (h.Ca.clean said) (λop O=>by simp at O;subst O;exact am.1) λz a _ op O b hb _=>by rw [(hu op (by simp at O ⊢;exact .inl O)).1] at hb;cases hb)
    (λop O=>by simp at O;subst O;exact ap.1) λz a _ op O b hb _=>by rw [(hu op (by simp at O ⊢;exact .inr O)).1] at hb;cases hb
  ·simp only [List.mem_toArray,List.mem_cons,List.not_mem_nil,or_false] at O;rcases O with rfl | rfl
   ·rw [am.2];trivial
   ·rw [ap.2];trivial
 have cp:Deaf t 0=0:=by rw [h.ES.deaf 0 Y,ac];rfl
 have ct:BV (t++ #[x,y]) w (gs.size+1) (upd (upd S 0 s₀) gs.size ⟨s₀.E,λ_=>none,false⟩) Sh:=by
  refine co.push (i:=0) Y (E:=s₀.E) (λb o a0=>by rw [upd_same];exact a0) λb hb z a cw cy c0=>?_;have hold:touchAt t z=some a:=by
   obtain⟨op,a0,bb⟩:=touch_of cw;rcases getElem?_append_cases a0 with⟨_,c1⟩ | ⟨_,c2⟩
   ·rw [touchAt_of c1];exact bb
   ·rw [(hu op c2).1] at bb;cases bb
  exact fork_knows am ap cp (h.ES.above _ (Nat.le_refl _)) (bn.kE 0 Y b (by rw [upd_same];exact hb) z a hold cy c0)
 have bo:∀k,k<K->upd (upd S 0 s₀) gs.size ⟨s₀.E,λ_=>none,false⟩ (B.N0+k)=S (B.N0+k):=λk bv=>by rw [upd_ne _ _ (by omega),upd_ne _ _ (by omega)]
 have c3:Fi F B.N0 B.t0 (gs.size+1) (K+1) φ' (upd (upd S 0 s₀) gs.size ⟨s₀.E,λ_=>none,false⟩) (t++ #[x,y]):=by
  refine h.ES.spawn Y b1 (λa az=>?_) (by rw [aq];rfl) (by rw [ac];rfl) (λk bv a4=>?_) am ap
  ·by_cases e:a=0
   ·subst e;rw [f0,ac,ca];rfl
   ·rw [av a e (by omega)]
  ·by_cases e:k=K
   ·subst e;rw [show B.N0+k=gs.size by omega,aq] at a4;exact a4.elim
   ·rw [av _ (by omega) (by omega)] at a4;exact⟨by omega,a4,by rw [bo k (by omega)]⟩
 obtain⟨c4,c5⟩:=b0;obtain⟨c6,c7⟩:=bz;have a2:∀{α:Type} (f:Nat->α) (a b:α),upd (upd f 0 a) gs.size b 0=a:=λf a b=>by rw [upd_ne _ _ (by omega),upd_same]
 have c8:∀s:St,loc (.ph (F.EG K)) s=s:=λs=>by simp [loc,HQ,x2]
 refine⟨_,_,_,_,a3,.inl ⟨φ',upd (upd r 0 c4) gs.size c6,upd (upd bt 0 true) gs.size true,upd (upd S 0 s₀) gs.size ⟨s₀.E,λ_=>none,false⟩,Sh,K+1,ay,v,wt',sm,m,q,f,?_,?_⟩⟩
 ·rw [b4];refine⟨by rw [al];exact a7,by rw [al];exact h.lock.push Y (λk p e=>by rw [ac] at e;cases e) cc,by rw [al];exact c3,λa o Z=>?_,by rw [al];exact ct,h.H3,h.IL,h.I5,h.MN,h.Kf,h.Kl,h.H8,(by rw [f0];unfold Fam.EG;split <;> simp),h.wg,h.JC,h.Gy,λa az hb=>?_,λk bv a5=>?_,?_,h.tape,h.os,h.output⟩
  ·by_cases e:a=0
   ·subst e;rw [Array.getElem?_push_lt (by simpa using Y)] at Z;simp at Z;subst Z;rw [f0,a2,a2,a2,c8];exact .walk b6.symm (λq=>by rw [x2] at q;cases q) c5
   ·by_cases U:a=gs.size
    ·subst U;have:child=o:=by
      rw [show gs.size=(gs.setIfInBounds 0 g').size by simp,Array.getElem?_push_size] at Z;exact Option.some.inj Z
     subst this;rw [aq,upd_same,upd_same,upd_same];have c9:(gs.size==0)=false:=by rw [beq_eq_false_iff_ne];omega
     rw [c9];exact .walk V (λq=>by cases q) c7
    ·rw [av a e U,upd_ne _ _ U,upd_ne _ _ e,upd_ne _ _ U,upd_ne _ _ e,upd_ne _ _ U,upd_ne _ _ e];have:gs[a]? =some o:=by
      rw [Array.getElem?_push] at Z;simp [U] at Z;simpa [Array.getElem?_setIfInBounds_ne (Ne.symm e)] using Z
     exact h.K3 a o this
  ·rw [al] at az;by_cases e:a=0
   ·subst e;rw [a2] at hb;cases hb
   ·by_cases U:a=gs.size
    ·subst U;rw [upd_same] at hb;cases hb
    ·rw [upd_ne _ _ U,upd_ne _ _ e] at hb;rcases h.blk a (by omega) hb with⟨ag,_⟩ | ⟨⟨k,sv,a6⟩,dd⟩
     ·exact absurd ag e
     ·exact .inr ⟨⟨k,sv,by rw [av a e U];exact a6⟩,dd⟩
  ·by_cases e:k=K
   ·subst e;rw [show B.N0+k=gs.size by omega,aq] at a5;exact a5.elim
   ·rw [av _ (by omega) (by omega)] at a5;rw [bo k (by omega)];exact h.IK k (by omega) a5
  ·rw [a2];exact h.le.trans λb o a0=>be.ext b o a0
 ·rw [al];refine dh ?_;simp only [sumTo];rw [aq];have a1:=sumTo_upd (upd φ gs.size (.ph (F.start K))) (.ph (F.EG K)) (wt F.n) Y;rw [upd_ne _ _ (by omega),ac] at a1;have ed:=sumTo_upd_out φ (.ph (F.start K)) (wt F.n) (i:=gs.size) (j:=gs.size) (Nat.le_refl _);have ee:wt F.n (.ph (F.start K))=23:=V;have ef:wt F.n (.ph (.F2 K))=5*F.n+85+50*(F.n - K):=V;have eg:wt F.n (.ph (F.EG K))+30<=5*F.n+85+50*(F.n - K):=by
   unfold Fam.EG;split <;> simp only [wt] <;> omega
  show(sumTo gs.size λi=>wt F.n (upd (upd φ gs.size (.ph (F.start K))) 0 (.ph (F.EG K)) i))+_<_;omega
end
theorem BV.final{t:Trace}{w:World}{N:Nat}{S:Nat->St}{Sh:Nat->Prop}(h:BV t w N S Sh)(am:0<N){s':St}{fd:Nat}
  (Z:∀b o,s'.E b=some o->w.heap[b]? =some o/\¬Sh b/\∀x a,touchAt t x=some a->CM a.loc=some b->a.write=true->Knows t 0 x)
  (ac:∀b o,s'.H b=some o->w.heap[b]? =some o/\(¬Sh b∨b=fd)/\∀x a,touchAt t x=some a->CM a.loc=some b->Knows t 0 x)
  (hd:∀b,s'.E b≠none->s'.H b=none) (ap:s'.E fd=none):BV t w N (lone s') (λb=>Sh b/\b≠fd):=by
 have l0:lone s' 0=s':=V;have ln:∀i,i≠0->lone s' i= .quiet:=λi hi=>by simp [lone,hi]
 have Y:∀i b,i≠0->(lone s' i).E b=none:=λi b hi=>by rw [ln i hi];rfl
 have U:∀i b,i≠0->(lone s' i).H b=none:=λi b hi=>by rw [ln i hi];rfl
 refine⟨λi hi=>?_,λa b aq hb al x O=>?_,λi hi b hb=>?_,λb hb=>h.Gu b hb.1,h.clean,h.low,λi hi b hb x a O ag=>?_,λi hi b hb x a O ag hw=>?_⟩
 ·by_cases e:i=0
  ·subst e;rw [l0];exact⟨λb o K=>(Z b o K).1,λb o K=>(ac b o K).1,hd⟩
  ·exact⟨λb o K=>(by rw [Y i b e] at K;cases K),λb o K=>(by rw [U i b e] at K;cases K),λb hb=>U i b e⟩
 ·by_cases e:b=0
  ·subst e;rw [U a x al] at O;exact absurd V O
  ·exact⟨U b x e,Y b x e⟩
 ·by_cases e:i=0
  ·subst e;rw [l0];constructor
   ·cases O:s'.H b with
    | none=>rfl
    | some o=>rcases(ac b o O).2.1 with q | q;exact absurd hb.1 q;exact absurd q hb.2
   ·cases O:s'.E b with
    | none=>rfl
    | some o=>exact absurd hb.1 (Z b o O).2.1
  ·exact⟨U i b e,Y i b e⟩
 ·by_cases e:i=0
  ·subst e;obtain⟨o,K⟩:=Ii (x:=s'.H b) hb;exact(ac b o K).2.2 x a O ag
  ·rw [U i b e] at hb;exact absurd V hb
 ·by_cases e:i=0
  ·subst e;obtain⟨o,K⟩:=Ii (x:=s'.E b) hb;exact(Z b o K).2.2 x a O ag hw
  ·rw [Y i b e] at hb;exact absurd V hb
section
variable {P:Program}{F:Fam}{B:Base}{gs gs':Array Goroutine}{w w':World}{sl:Option (Nat×Nat)}{t:Trace}{φ:Nat->Nx}{r:Nat->Rk}{bt:Nat->Bool}{S:Nat->St}{Sh:Nat->Prop}{j:Nat}{c:Bool}{v wt' sm v₁ wt₁ sm₁:Nat}{m m₁:M4}{q q₁:Nat}{f f₁:Nat->Value}
theorem Inv.over(h:Inv P F B gs w t φ r bt S Sh j c v wt' sm m q f)(cy:∀k v E E',Le E E'->F.msg k v E->F.msg k v E'){g:Goroutine}(hi:gs[0]? =some g)(a7:φ 0= .ph .Gv){s₀:St}(b0:Ci (S 0) s₀)(am:Stop P F .Gv g s₀)(c0:Mu):
  Iw P F B gs w sl t 0 c0:=by
 classical
 have ag:0<gs.size:=(Array.getElem?_eq_some_iff.1 hi).1;have ec:=h.size;have ed:=h.Cz.pos;obtain rfl:c=true:=by
  obtain⟨p,b1,_,hh⟩:=h.main;rw [a7] at b1;cases b1;rcases hh with⟨_,hm⟩ | ⟨e,_⟩
  ·exact hm.elim
  ·exact e
 have ee:j=F.n:=h.Cz.cj V;have a8:∀i,i≠0->i<gs.size->∃d,φ i= .gone d:=by
  intro i a9 a1;rcases h.EH a1 with e | ⟨_,d,hd,_⟩ | ⟨k,Z,c1,_,_⟩
  ·exact absurd e a9
  ·exact⟨d,hd⟩
  ·have:=h.Cz.Zg rfl (.inr (.inr (.inl (by rw [show B.N0+F.n=gs.size by omega,J6];exact a7)))) k Z;rw [← c1,IW a9 (by omega)] at this;cases U:φ i with
   | gone d=>exact⟨d,rfl⟩
   | ph p=>rw [U] at this;exact this.elim
 obtain⟨g',c2,c3⟩:=am.law.fin V;have b2:=runT_crowd_go (P:=P) (sl:=sl) (i:=0) hi (show stepG P (0==0) g w=_ from c2 w);have b3:Deaf t 0=0:=by rw [h.ES.deaf 0 ag,a7];rfl
 have bb:MemOp.ofEvents 0 g.frame.fn g.frame.place #[Fam.CC (.acquire F.sA)]= #[{g:=0,fn:=g.frame.fn,pos:=g.frame.place,act:= .mark (.acquire F.sA)}]:=by rw [ofEvents_eq];simp [Fam.CC,MemAct.ofEvent]
 generalize hu:MemOp.ofEvents 0 g.frame.fn g.frame.place #[Fam.CC (.acquire F.sA)]=u at b2;have ap:∀op∈u,op.act.touch? =none/\op.g=0/\op.act.low w.heap.size:=by
  intro op aq;rw [← hu,bb] at aq;simp at aq;subst aq;exact⟨V,V,h.Ca.Gu F.wg h.H3⟩
 have a2:(t++u)[t.size]? =some {g:=0,fn:=g.frame.fn,pos:=g.frame.place,act:= .mark (.acquire F.sA)}:=by rw [← hu,bb];simp
 have c4:(t++u).heard t.size:=⟨0,by simp [Trace.g?,a2],by rw [deaf_old (Nat.le_refl _)];exact b3⟩;have c5:(t++u).g? t.size=some 0:=by simp [Trace.g?,a2]
 have c6:∀x,B.t0<=x->(t++u).act? x≠some (.mark (.release F.sA)):=Px h.ES.norel λop aq e=>by rw [← hu,bb] at aq;simp at aq;subst aq;cases e
 have be:∀k,k<F.n->∃ρ,ρ<t.size/\RelBy F.sA t (B.N0+k) ρ/\KE t (S (B.N0+k)).E ρ/\HappensBefore (t++u) ρ t.size:=by
  intro k Z;obtain⟨d,hd⟩:=a8 (B.N0+k) (by omega) (by omega);obtain⟨ρ,a,b,e⟩:=h.ES.rel k (by omega) (by rw [hd];trivial);have a3:ρ<t.size:=lt_of_act? b.act;refine⟨ρ,a3,b,e,.single (.inr ⟨.marked a3 (.inr (by rw [act?_old a3];exact b.act)) (by rw [act?_of a2]) λz Y al=>c6 z (by omega),(heard_old a3).2 b.heard,c4⟩)⟩
 have b4:∀{x ρ},Before t x ρ->HappensBefore (t++u) ρ t.size->Knows (t++u) 0 x:=λY al=>⟨t.size,_,a2,rfl,.inr ((Y.app u).hb al)⟩;have b5:∀{x k},k<F.n->t.g? x=some (B.N0+k)->t.counts x->Knows (t++u) 0 x:=by
  intro x k Z ac hc;obtain⟨ρ,Y,al,_,a0⟩:=be k Z;have hle:x<=ρ:=Nat.le_of_not_lt λaw=>al.after x aw ac hc;refine b4 (ρ:=ρ) ?_ a0;rcases Nat.lt_or_ge x ρ with U | U
  ·exact .inr (.single (.inl ⟨U,_,ac,al.g⟩))
  ·exact .inl (by omega)
 have hold:∀{y a},touchAt (t++u) y=some a->touchAt t y=some a:=by
  intro y a U;obtain⟨op,O,bi⟩:=touch_of U;rcases getElem?_append_cases O with⟨aw,bn⟩ | ⟨_,bo⟩
  ·rw [touchAt_of bn];exact bi
  ·rw [(ap op bo).1] at bi;cases bi
 have av:BV t w gs.size (upd S 0 s₀) Sh:=h.Ca.ghost ag b0;have bv:BV (t++u) w gs.size (upd S 0 s₀) Sh:=av.mute (g:=0) (λop O=>(ap op O).2.1) (λop O=>(ap op O).1) (λop O=>(ap op O).2.2) rfl;let K:Nat->Obj->Prop:=λb o=>s₀.E b=some o∨∃k,k<F.n/\(S (B.N0+k)).E b=some o;have bw:∀b o,K b o->w.heap[b]? =some o:=by
  rintro b o (Y | ⟨k,Z,Y⟩)
  ·exact(av.fits 0 ag).e b o (by rw [upd_same];exact Y)
  ·exact(h.Ca.fits (B.N0+k) (by omega)).e b o Y
 let E':LH:=λb=>if hb:∃o,K b o then some (Classical.choose hb) else none
 have bx:∀b o,E' b=some o->K b o:=by
  intro b o O;simp only [E'] at O;split at O
  ·rename_i hb;have:=Classical.choose_spec hb;rw [Option.some.inj O] at this;exact this
  ·cases O
 have b6:∀b o,K b o->E' b=some o:=by
  intro b o O;have hb:∃o,K b o:=⟨o,O⟩;have c7:E' b=some (Classical.choose hb):=by simp only [E'];rw [dif_pos hb]
  have e2:=bw b _ (Classical.choose_spec hb);rw [bw b o O] at e2;rw [c7,← Option.some.inj e2]
 have ca:Le s₀.E E':=λb o O=>b6 b o (.inl O);have c8:∀k,k<F.n->Le (S (B.N0+k)).E E':=λk Z b o O=>b6 b o (.inr ⟨k,Z,O⟩);have cc:∀b o,K b o->¬Sh b:=by
  rintro b o (Y | ⟨k,Z,Y⟩) hb
  ·have:=(av.sh 0 ag b hb).2;rw [upd_same,Y] at this;cases this
  ·have:=(h.Ca.sh (B.N0+k) (by omega) b hb).2;rw [Y] at this;cases this
 have bz:E' F.fd=none:=by
  cases U:E' F.fd with
  | none=>rfl
  | some o=>exact absurd h.I5 (cc _ _ (bx _ _ U))
 have ce:∀b,E' b≠none->s₀.H b=none:=by
  intro b hb;obtain⟨o,O⟩:=Ii hb;rcases bx b o O with Y | ⟨k,Z,Y⟩
  ·have:=(av.fits 0 ag).d b (by rw [upd_same,Y];simp)
   rwa [upd_same] at this
  ·cases U:s₀.H b with
   | none=>rfl
   | some o'=>
    have:=(av.hh 0 (B.N0+k) ag (by omega) (by omega) b (by rw [upd_same,U];simp)).2;rw [upd_ne _ _ (by omega),Y] at this;cases this
 have c9:∀k,k<F.n->F.msg k (f k) E':=λk Z=>by
  obtain⟨d,hd⟩:=a8 (B.N0+k) (by omega) (by omega);exact cy _ _ _ _ (c8 k Z) (h.IK k (by omega) (by rw [hd];trivial))
 have dd:=c3 E' f ca bz ce c9;have ci:((gs.map (woken P g g' w)).setIfInBounds 0 g').size=gs.size:=by simp
 have dn:BV (t++u) w gs.size (lone ⟨E',F.J1 s₀.H f,false⟩) (λb=>Sh b/\b≠F.fd):=by
  refine bv.final ag (λb o O=>?_) (λb o O=>?_) (λb hb=>?_) bz
  ·have Z:=bx b o O;refine⟨bw b o Z,cc b o Z,λx a U ay hw=>?_⟩;rcases Z with Y | ⟨k,Z,Y⟩
   ·exact bv.kE 0 ag b (by rw [upd_same,Y];simp) x a U ay hw
   ·obtain⟨ρ,_,_,ea,a0⟩:=be k Z;exact b4 (ea b (by rw [Y];simp) x a (hold U) ay hw) a0
  ·simp only [Fam.J1] at O;split at O
   ·rename_i e;subst e;cases O;refine⟨h.Gy,.inr V,λx a U ay=>?_⟩;rcases h.ES.Gy x a (hold U) ay with z | ⟨k,Z,ac,hc,_⟩
    ·exact(z 0 ag (.inl V)).app u
    ·exact b5 (by omega) ac hc
   ·refine⟨(av.fits 0 ag).h b o (by rw [upd_same];exact O),.inl λhb=>?_,λx a U ay=>bv.kH 0 ag b (by rw [upd_same,O];simp) x a U ay⟩;have:=(av.sh 0 ag b hb).1;rw [upd_same,O] at this;cases this
  ·simp only [Fam.J1];rw [if_neg (λe=>by subst e;exact hb bz)];exact ce b hb
 have eb:∀i g,i≠0->gs[i]? =some g->∃q d,φ i= .gone d/\QuitsD P q d g:=by
  intro i g hi ac;obtain⟨d,hd⟩:=a8 i hi (Array.getElem?_eq_some_iff.1 ac).1;have am:=h.K3 i g ac;rw [hd] at am;generalize U:Nx.gone d=x at am;generalize loc x (S i)=s at am;generalize r i=ρ at am;generalize bt i=ef at am;cases am with
  | gone _ a4=>cases U;exact⟨_,_,hd,a4⟩
  | _=>cases U
 have a4:∀i,∃q,∀g,i≠0->gs[i]? =some g->QuitsD P q (Deaf t i) g:=by
  intro i;by_cases hi:i≠0/\i<gs.size
  ·obtain⟨q,d,Y,al⟩:=eb i _ hi.1 (Array.getElem?_eq_getElem hi.2);refine⟨q,λg _ ac=>?_⟩;rw [Array.getElem?_eq_getElem hi.2] at ac;obtain rfl:=Option.some.inj ac;rw [h.ES.deaf i hi.2,Y];exact al
  ·exact⟨0,λg Y al=>absurd ⟨Y,(Array.getElem?_eq_some_iff.1 al).1⟩ hi⟩
 have co:∀i,i≠0->Deaf (t++u) i=Deaf t i:=λi hi=>Deaf_other t (Ne.symm hi) u λop O=>(ap op O).2.1;refine⟨_,_,_,_,b2,.inr ⟨λi=>Classical.choose (a4 i),λb=>Sh b/\b≠F.fd,g',⟨E',F.J1 s₀.H f,false⟩,⟨by simp [ag],⟨λi x a9 U=>?_,λi a1=>?_⟩,by rw [ci];exact dn,λx a5 ac az hc=>?_,?_⟩,dd,?_,h.tape,h.os,h.output⟩⟩
 ·have az:i≠0:=by omega
  rw [Array.getElem?_setIfInBounds_ne (Ne.symm az),Array.getElem?_map] at U;obtain⟨o',bn,rfl⟩:=Option.map_eq_some_iff.1 U;have cp:=Classical.choose_spec (a4 i) o' az bn;rw [woken_quitsD cp,co i az];exact cp
 ·rw [ci] at a1;rw [co i (by omega)];exact h.ES.above i a1
 ·have:=PM h.ES.over (u:=u) (N0:=B.N0) (N:=gs.size) (λop O=> .inl (ap op O).2.1) x a5 ac az hc;rcases this with z | ⟨z1,eg⟩
  ·exact z
  ·have a6:x<t.size:=by
    rcases Nat.lt_or_ge x t.size with z | z
    ·exact z
    ·obtain⟨op,O,ct⟩:=Option.map_eq_some_iff.1 ac;rcases getElem?_append_cases O with⟨aw,_⟩ | ⟨_,bo⟩
     ·exact aw
     ·rw [(ap op bo).2.1] at ct;exact absurd ct.symm az
   obtain⟨ej,z,ek,el,em⟩:=b5 (k:=a5 - B.N0) (by omega) (by rw [← g?_old (u:=u) a6,ac];congr 1;omega) ((counts_old a6).1 hc);refine⟨t.size,c5,?_⟩;obtain⟨ρ,Y,al,_,a0⟩:=be (a5 - B.N0) (by omega);have cw:t.g? x=some (B.N0+(a5 - B.N0)):=by rw [← g?_old (u:=u) a6,ac];congr 1;omega
   have hle:x<=ρ:=Nat.le_of_not_lt λaw=>al.after x aw cw ((counts_old a6).1 hc);have hb:Before t x ρ:=by
    rcases Nat.lt_or_ge x ρ with U | U
    ·exact .inr (.single (.inl ⟨U,_,cw,al.g⟩))
    ·exact .inl (by omega)
   exact(hb.app u).hb a0
 ·have:=Deaf_own t 0 g.frame.fn g.frame.place #[Fam.CC (.acquire F.sA)];rw [hu] at this;rw [this,b3];rfl
 ·exact(h.le.trans λb o O=>b0.ext b o O).trans ca
end
theorem LN.busy{m:M4}{h rn rs v t s d x:Nat}(Z:LN m 0 h rn rs v t s d x)(am:1<=s):1<=h+rn+rs+v+t+d+x:=by
 obtain⟨O,ac,ag⟩:=Z;cases hm:m.s with
 | true=>have:=(ag hm).2.2.2.1;rw [← O] at this;omega
 | false=>
  obtain⟨a1,ap,K,aq,al⟩:=ac hm;cases Y:m.l with
  | true=>rw [Y] at O;simp at O;omega
  | false=>
   cases U:m.k with
   | true=>rw [U] at K;simp at K;omega
   | false=>
    rw [U] at K;simp at K;have:=al Y U (by omega);omega
section
variable {P:Program}{F:Fam}{B:Base}{gs gs':Array Goroutine}{w w':World}{sl:Option (Nat×Nat)}{t:Trace}{φ:Nat->Nx}{r:Nat->Rk}{bt:Nat->Bool}{S:Nat->St}{Sh:Nat->Prop}{j:Nat}{c:Bool}{v wt' sm v₁ wt₁ sm₁:Nat}{m m₁:M4}{q q₁:Nat}{f f₁:Nat->Value}
theorem Xf{N:Nat}{f:Nat->Nat}(h:1<=sumTo N f):∃i,i<N/\1<=f i:=by
 induction N with
 | zero=>simp [sumTo] at h
 | succ N K=>
  simp only [sumTo] at h;by_cases e:1<=f N
  ·exact⟨N,by omega,e⟩
  ·obtain⟨i,hi,O⟩:=K (by omega);exact⟨i,by omega,O⟩
theorem Inv.runs(h:Inv P F B gs w t φ r bt S Sh j c v wt' sm m q f):∃(i:Nat) (g:Goroutine),gs[i]? =some g/\g.status= .running:=by
 have bz:=h.Cz.pos;have b0:=h.size;have aq:0<gs.size:=by omega
 have ag:∀i (hi:i<gs.size) p,φ i= .ph p->bt i=true->∃(i:Nat) (g:Goroutine),gs[i]? =some g/\g.status= .running:=by
  intro i hi p U hb;refine⟨i,_,Array.getElem?_eq_getElem hi,?_⟩;have K:=h.K3 i _ (Array.getElem?_eq_getElem hi);rw [U,hb] at K;generalize loc (Nx.ph p) (S i)=s at K;generalize a6:Nx.ph p=x at K;generalize a7:true=b at K;generalize gs[i]=o at K ⊢;generalize r i=ρ at K;cases K with
  | walk _ _ av=>exact av.running
  | blk _ _ _=>cases a7
  | gone _ _=>cases a6
 obtain⟨p0,ac,a8,hh⟩:=h.main;cases aw:bt 0 with
 | true=>exact ag 0 aq p0 ac aw
 | false=>
  obtain⟨U,b1⟩:φ 0= .ph .FL/\sm=0:=by
   rcases h.blk 0 aq aw with⟨_,a,b⟩ | ⟨⟨k,sv,a⟩,_⟩
   ·exact⟨a,b⟩
   ·rw [ac] at a;cases a;cases a8
  rw [U] at ac;cases ac;obtain⟨rfl⟩:c=true:=by
   rcases hh with⟨_,hm⟩ | ⟨e,_⟩
   ·exact hm.elim
   ·exact e
  have av:j=F.n:=h.Cz.cj V;have ay:=h.Cz.mode;rw [if_pos rfl,show B.N0+F.n=gs.size by omega,J6,U] at ay;obtain⟨a9,_,_⟩:=ay;have al:=h.Cz.cnt;have az:Cw true gs.size φ 0= .ph (.FX [] []):=by simp [Cw];omega
  rw [az] at al;simp only [pend,Nat.add_zero] at al;have hex:∃i,i<gs.size+1/\1<=cU (Cw true gs.size φ i)+cL (Cw true gs.size φ i)+cS (Cw true gs.size φ i):=by
   apply Classical.byContradiction;intro bb;have am:∀i,i<gs.size+1->cU (Cw true gs.size φ i)=0/\cL (Cw true gs.size φ i)=0/\cS (Cw true gs.size φ i)=0:=λi hi=>by
    have:¬1<=cU (Cw true gs.size φ i)+cL (Cw true gs.size φ i)+cS (Cw true gs.size φ i):=λq=>bb ⟨i,hi,q⟩;omega
   have zero:∀f:Nat->Nat,(∀i,i<gs.size+1->f i=0)->sumTo (gs.size+1) f=0:=λf be=>by
    have:=sumTo_le (f:=f) (c:=0) (j:=gs.size+1) (λi hi=>by rw [be i hi];exact Nat.le_refl _);omega
   have z1:=zero (λi=>cU (Cw true gs.size φ i)) λi hi=>(am i hi).1;have b2:=zero (λi=>cL (Cw true gs.size φ i)) λi hi=>(am i hi).2.1;have b3:=zero (λi=>cS (Cw true gs.size φ i)) λi hi=>(am i hi).2.2;simp only [Bool.toNat_true] at a9 al;omega
  obtain⟨i,hi,O⟩:=hex;have a0:i≠0:=by rintro rfl;rw [az] at O;simp [cU,cL,cS] at O
  have bi:i≠gs.size:=by rintro rfl;rw [J6,U] at O;simp [cU,cL,cS] at O
  rw [IW a0 bi] at O;have ap:i<gs.size:=by omega
  cases a1:φ i with
  | gone d=>rw [a1] at O;simp [cU,cL,cS] at O
  | ph pi=>
   cases a2:bt i with
   | true=>exact ag i ap pi a1 a2
   | false=>
    obtain⟨⟨k,sv,bn⟩,bo⟩:(∃k sv,φ i= .ph (.lk k (.Cv sv)))/\q=0:=by
     rcases h.blk i ap a2 with⟨e,_⟩ | e
     ·exact absurd e a0
     ·exact e
    subst bo;have bv:1<=Sg pQ gs.size φ:=by
     have:=le_sumTo (f:=λa=>Dd pQ (φ a)) ap;have e:Dd pQ (φ i)=1:=by rw [bn];rfl
     simp only [e] at this;exact this
    have hb:=h.lock.ln.busy bv;have bw:1<=Sg (λp=>(((((pH p+pN p)+pZ p)+pV p)+pT p)+pD p)+pX p) gs.size φ:=by
     rw [J2,J2,J2,J2,J2,J2];exact hb
    obtain⟨a,a3,Y⟩:=Xf bw;cases Z:φ a with
    | gone d=>rw [Z] at Y;simp [Dd] at Y
    | ph bx=>
     rw [Z] at Y;cases bx <;> (try (simp [Dd] at Y;done))
     rename_i k' l;cases a4:bt a with
     | true=>exact ag a a3 _ Z a4
     | false=>
      rcases h.blk a a3 a4 with⟨e,a5,_⟩ | ⟨⟨b4,b5,e⟩,_⟩
      ·subst e;rw [Z] at a5;cases a5
      ·rw [Z] at e;cases e;simp [Dd,pH,pN,pZ,pV,pT,pD,pX] at Y
theorem Inv.step(h:Inv P F B gs w t φ r bt S Sh j c v wt' sm m q f)(am:∀k v E E',Le E E'->F.msg k v E->F.msg k v E'):
  ∃gs' w' av u,stepT P (crowd gs w sl)=(.next (crowd gs' w' av),u)/\
  ((∃φ' r' a5 S' bn ap bo v' bv sm' m' q' bw,Inv P F B gs' w' (t++u) φ' r' a5 S' bn ap bo v' bv sm' m' q' bw/\Mu.lt (mu F gs'.size φ' m' q' r' a5) (mu F gs.size φ m q r bt))∨Q2 P F B gs' w' (t++u)):=by
 have cp:=h.size;have bx:∀x∈gs,awake x:=by
  intro x K;obtain⟨i,hi,rfl⟩:=Array.mem_iff_getElem.1 K;exact(h.K3 i _ (Array.getElem?_eq_getElem hi)).awake
 obtain⟨i,g,d,av,hi,a6,bz⟩:=crowd_pick (P:=P) (w:=w) (sl:=sl) bx h.runs
 suffices Iw P F B gs (w.at d) av t i (mu F gs.size φ m q r bt) by
  obtain⟨gs',w',b0,u,aw,ay⟩:=this;exact⟨gs',w',b0,u,bz.trans aw,ay⟩
 have O:=h.at_ d;have a7:i<gs.size:=(Array.getElem?_eq_some_iff.1 hi).1;have ac:=h.K3 i g hi;generalize K:φ i=x at ac;generalize a8:r i=ρ at ac;generalize hb:bt i=b at ac;generalize a9:loc x (S i)=s at ac;cases ac with
 | blk _ _ _=>cases a6
 | gone hm bb=>exact O.slip hi a6 K a8 hm bb
 | @walk p _ _ _ hm bb az=>
  have b1:JQ (Stop P F p) g s∨∃f,ρ= .node f/\(∀w,Fits s w->∃g' s' w' es,stepG P (i==0) g w= .go g' w' es/\Jr P (i==0) (JQ (Stop P F p)) (f w) g' s'/\Fits s' w'/\Fr s w s' w'/\(∀e∈es,Ev s w w' e)/\(s= .quiet->s'= .quiet/\w'=w/\es= #[])):=by
   cases ρ with
   | leaf=>exact .inl az
   | node f=>
    rcases az with q | ⟨_,q⟩
    ·exact .inl q
    ·exact .inr ⟨f,V,q⟩
  rcases b1 with⟨s₀,be,U⟩ | ⟨f0,rfl,hgo⟩
  ·subst a9;have Y:Fam.CL p=false->Ci (S i) s₀:=λe=>by simpa [loc,HQ,e] using be
   by_cases c1:∃k l,p= .lk k l
   ·obtain⟨k,l,rfl⟩:=c1;by_cases c2:l= .Fj
    ·subst c2;exact O.store hi K hm (Y V) U
    by_cases c3:(∃sv,l= .Cv sv)/\q=0
    ·obtain⟨⟨sv,rfl⟩,c3⟩:=c3;exact O.block hi K hb hm (Y V) U (.inr ⟨⟨k,sv,V⟩,c3⟩)
    exact O.BX am hi K c2 hm (Y V) U λsv e a0=>c3 ⟨⟨sv,e⟩,a0⟩
   by_cases c2:∃ap,p= .F2 ap
   ·obtain⟨ap,rfl⟩:=c2;have ag:i=0:=by simpa [Fam.Cy] using hm
    subst ag;exact O.spawn hi K (Y V) U
   by_cases c3:p= .Gv
   ·subst c3;have ag:i=0:=by simpa [Fam.Cy] using hm
    subst ag;exact O.over am hi K (Y V) U _
   by_cases c4:p= .FL/\sm=0
   ·obtain⟨rfl,c4⟩:=c4;exact O.block hi K hb hm (Y V) U (.inl ⟨V,c4⟩)
   have b2:∃a1,a1<gs.size+c.toNat/\Cw c gs.size φ a1= .ph p:=by
    by_cases e:i=0
    ·subst e;cases c with
     | false=>exact⟨0,by omega,by rw [Jw];exact K⟩
     | true=>exact⟨gs.size,by simp,by rw [J6];exact K⟩
    ·exact⟨i,by omega,by rw [IW e (by omega)];exact K⟩
   have b3:p= .FL->sm=1:=by
    rintro rfl;have ag:i=0:=by simpa [Fam.Cy] using hm
    subst ag;obtain⟨p0,al,_,hh⟩:=h.main;rw [K] at al;cases al;obtain rfl:c=true:=by
     rcases hh with⟨_,hm⟩ | ⟨e,_⟩
     ·exact hm.elim
     ·exact e
    have az:=h.Cz.cj V;have bi:=h.Cz.mode;rw [if_pos rfl,show B.N0+F.n=gs.size by omega,J6,K] at bi;obtain⟨ct,_⟩:=bi;have:sm≠0:=λq=>c4 ⟨rfl,q⟩;omega
   obtain⟨a1,b4,b5⟩:=b2;have aq:(∀k,p≠ .Hs k)/\p≠ .G7/\(∀a2 vs,p≠ .FX a2 vs)/\p≠ .HR:=by
    by_cases e:i=0
    ·subst e;have a3:=h.mn;rw [K] at a3;obtain⟨p0,al,_,hh⟩:=h.main;rw [K] at al;cases al;refine⟨λk e=>?_,λe=>?_,λa2 vs e=>?_,λe=>?_⟩
     ·subst e;rcases hh with⟨_,Z⟩ | ⟨_,Z⟩ <;> exact Z.elim
     ·subst e;exact a3.1 V
     ·subst e;rcases hh with⟨e,Z⟩ | ⟨_,Z⟩
      ·have:=Z.2;rw [e] at this;cases this
      ·exact Z.elim
     ·subst e;exact a3.2 V
    ·rcases h.EH a7 with a0 | ⟨_,d,hd,_⟩ | ⟨k',cw,cy,_,hw⟩
     ·exact absurd a0 e
     ·rw [K] at hd;cases hd
     ·rw [K] at hw;refine⟨λk e=>?_,λe=>?_,λa2 vs e=>?_,λe=>?_⟩ <;> subst e
      ·exact absurd hw.2 Bool.false_ne_true
      all_goals exact hw.elim
   obtain⟨v',w',sm',es,c0,b6⟩:=h.Cz.enabled b4 b5 aq.1 (λk e=>c2 ⟨k,e⟩) aq.2.1 aq.2.2.1 aq.2.2.2 b3 c3 λk l e=>c1 ⟨k,l,e⟩;exact O.act am hi K hm be U b6
  ·subst a9;have ca:Fits (loc (.ph p) (S i)) (w.at d):=by
    have:=O.Ca.fits i a7;unfold loc;split
    ·exact⟨λb o a4=>(by cases a4),λb o a4=>(by cases a4),λb hb=>V⟩
    ·exact this
   obtain⟨g',s',w',es,aw,ay,cc,ce,ci,co⟩:=hgo (w.at d) ca;exact O.own am hi K hm aw ay cc ce ci co (by rw [a8];exact⟨f0,_,rfl,rfl⟩)
theorem Inv.run(Z:∀k v E E',Le E E'->F.msg k v E->F.msg k v E'):∀(K:Mu) (gs:Array Goroutine) (w:World) (sl:Option (Nat×Nat)) (t:Trace) (φ:Nat->Nx) (r:Nat->Rk) (bt:Nat->Bool) (S:Nat->St) (Sh:Nat->Prop) (j:Nat) (c:Bool) (v wt' sm:Nat) (m:M4) (q:Nat) (f:Nat->Value),
  mu F gs.size φ m q r bt=K->Inv P F B gs w t φ r bt S Sh j c v wt' sm m q f->∃n gs' w' O U,runNT P n (crowd gs w sl) t=(.next (crowd gs' w' O),U)/\Q2 P F B gs' w' U:=by
 intro K
 induction K using Mu.wf.induction with
 | _ K ac=>
  intro gs w sl t φ r bt S Sh j c v wt' sm m q f ag h;obtain⟨gs',w',O,u,Y,hh⟩:=h.step (sl:=sl) Z;rcases hh with⟨φ',r',al,S',am,ap,aq,v',av,sm',m',q',aw,ay,az⟩ | a0
  ·obtain⟨n,a1,a2,a3,a4,a5,a6⟩:=ac _ (ag▸az) gs' w' O (t++u) φ' r' al S' am ap aq v' av sm' m' q' aw V ay;exact⟨n+1,a1,a2,a3,a4,Ng Y a5,a6⟩
  ·exact⟨1,gs',w',O,t++u,Ng Y V,a0⟩
end
def JZ(H:LH)(a b c:Nat):LH:=λx=>if x=c then none else if x=b then none else if x=a then none else H x
theorem YX{P:Program}(F:Fam){Q:GP}{g:Goroutine}{s:St}{f₀:Nat->Value}(aw:1<=F.n)(a5:F.n<134217728)(a6:∀k v E E',Le E E'->F.msg k v E->F.msg k v E')
  (ay:F.mu≠F.wg) (az:F.fd≠F.wg) (a0:F.fd≠F.mu) (ac:s.H F.wg=some (F.H4 0 0)) (ag:s.H F.mu=some (F.H5 0 0)) (am:s.H F.fd=some (F.IJ f₀))
  (a7:Way P true (Stop P F (.Gt 0)) g ⟨s.E,JZ s.H F.wg F.mu F.fd,false⟩) (a8:∀g s,F.fin g s->(G0 P).ok Q g s):(G0 P).ok Q g s:=by
 intro gs w sl t q Sh hC;have Y:0<gs.size:=(Array.getElem?_eq_some_iff.1 hC.main).1;let s1:St:={s with H:=λb=>if b=F.wg then none else s.H b}
 let s2:St:={s with H:=λb=>if b=F.mu then none else s1.H b}
 have a1:lone s 0=s:=V;have c1:BV t w gs.size (upd (lone s) 0 s1) (λb=>Sh b∨b=F.wg):=by
  have:=hC.Ca.share (i:=0) Y (b₀:=F.wg) (o₀:=F.H4 0 0) (by rw [a1];exact ac);exact this
 have c2:BV t w gs.size (upd (upd (lone s) 0 s1) 0 s2) (λb=>(Sh b∨b=F.wg)∨b=F.mu):=by
  have:=c1.share (i:=0) Y (b₀:=F.mu) (o₀:=F.H5 0 0) (by rw [upd_same];simp [s1,ay,ag]);refine this.congr λi hi=>?_;by_cases e:i=0
  ·subst e;simp only [upd_same];exact⟨V,V⟩
  ·have h:∀(f:Nat->St) (x:St),upd f 0 x i=f i:=λf x=>upd_ne f x e;constructor <;> simp only [h]
 have c3:BV t w gs.size (upd (upd (upd (lone s) 0 s1) 0 s2) 0 ⟨s.E,JZ s.H F.wg F.mu F.fd,false⟩) (λb=>((Sh b∨b=F.wg)∨b=F.mu)∨b=F.fd):=by
  have:=c2.share (i:=0) Y (b₀:=F.fd) (o₀:=F.IJ f₀) (by rw [upd_same];simp [s2,s1,az,a0,am]);refine this.congr λi hi=>?_;by_cases e:i=0
  ·subst e;simp only [upd_same];exact⟨V,V⟩
  ·have h:∀(f:Nat->St) (x:St),upd f 0 x i=f i:=λf x=>upd_ne f x e;constructor <;> simp only [h]
 have Z:∀b,s.H b≠none->∀x a,touchAt t x=some a->CM a.loc=some b->Knows t 0 x:=λb hb=>hC.Ca.kH 0 Y b (by rw [a1];exact hb);have ap:=hC.Ca.fits 0 Y;obtain⟨ρ,a9⟩:=a7;let φ:Nat->Nx:=λi=>if i=0 then .ph (.Gt 0) else .gone (Deaf t i)
 have z:∀f:Nx->Nat,(∀d,f (.gone d)=0)->f (.ph (.Gt 0))=0->(sumTo gs.size λi=>f (φ i))=0:=by
  intro f a2 a3;have:=sumTo_le (f:=λi=>f (φ i)) (c:=0) (j:=gs.size) λi _=>by
   show f (φ i)<=0;by_cases e:i=0
   ·simp [φ,e,a3]
   ·simp [φ,e,a2]
  omega
 have O:∀f:LP->Nat,Sg f gs.size φ=0:=λf=>z (Dd f) (λ_=>rfl) rfl;have bb:∀i,(upd (upd (upd (lone s) 0 s1) 0 s2) 0 ⟨s.E,JZ s.H F.wg F.mu F.fd,false⟩) i=if i=0 then⟨s.E,JZ s.H F.wg F.mu F.fd,false⟩ else .quiet:=by
  intro i;by_cases e:i=0
  ·subst e;rw [upd_same];rfl
  ·rw [upd_ne _ _ e,upd_ne _ _ e,upd_ne _ _ e];simp [lone,e]
 have be:F.H4 (Fam.word 0 0) (0:Nat)=F.H4 0 0:=by simp [Fam.word]
 have bi:F.H5 M4.zero.num (0:Nat)=F.H5 0 0:=by simp [M4.num,M4.zero]
 have a4:∀i,i<gs.size->(i=0∨gs.size<=i)->i=0:=λi hi al=>by omega
 have bn:Inv P F ⟨gs.size,t.size,s.E,w⟩ gs w t φ (λi=>if i=0 then ρ else chain (q i)) (λ_=>true) (upd (upd (upd (lone s) 0 s1) 0 s2) 0 ⟨s.E,JZ s.H F.wg F.mu F.fd,false⟩) (λb=>((Sh b∨b=F.wg)∨b=F.mu)∨b=F.fd) 0 false 0 0 0 M4.zero 0 f₀:=by
  refine⟨?_,⟨?_,λi hi=>?_⟩,⟨λi hi=>?_,λi hi=>hC.lv.above i hi,λx a b K hb aq U i hi al=>?_,λx a b K hb aq U=>?_,λx a K hb=> .inl λi hi al=>?_,λx g bo bv hc=> .inl (hC.over x g bo bv hc),λx K e=>?_,Nat.le_refl _,λk U=>by omega⟩,λi g' av=>?_,c3,.inl (.inl (.inr V)),.inl (.inr V),.inr V,ay,az,a0,a5,by simp [φ],?_,?_,ap.h _ _ am,λi hi hb=>(by cases hb),λk U=>(by omega),?_,V,.refl _,V⟩
  ·rw [Jw];refine⟨Y,aw,by omega,by simp,Nat.zero_le _,by simp,⟨.Gt 0,V,V,aw,V⟩,λi a2 a3=>?_,λk U=>by omega,by simp,?_,by simp [φ,pend],?_,λk U=>by omega,.nil,λk U=>by cases U⟩
   ·have:i≠0:=by omega
    simp [φ,this,Oh]
   ·have:=z cU (λ_=>rfl) rfl;simp only [Bool.toNat_false,Nat.add_zero];rw [this];simp [φ,pend]
   ·simp only [Bool.false_eq_true,if_false,Dy];exact⟨z cL (λ_=>V) V,z cS (λ_=>V) V,trivial,trivial,trivial⟩
  ·rw [O,O,O,O,O,O,O,O];simp [LN,M4.zero]
  ·by_cases e:i=0
   ·simp [φ,e,OH]
   ·simp [φ,e,OH]
  ·by_cases e:i=0
   ·subst e;simp [φ,F1];exact hC.hears
   ·simp [φ,e,F1]
  ·obtain rfl:=a4 i hi al;rcases aq with rfl | rfl
   ·exact Z _ (by rw [ac];simp) x a K hb
   ·exact Z _ (by rw [ag];simp) x a K hb
  ·rcases aq with rfl | rfl
   ·exact Z _ (by rw [ac];simp) x a K hb
   ·exact Z _ (by rw [ag];simp) x a K hb
  ·obtain rfl:=a4 i hi al;exact Z _ (by rw [am];simp) x a K hb
  ·have:=lt_of_act? e;have c4:t.size<=x:=K;omega
  ·rw [bb];by_cases e:i=0
   ·subst e;rw [hC.main] at av;obtain rfl:=Option.some.inj av;simp only [if_true,φ];exact .walk V (λh=>by cases h) a9
   ·have hm:(i==0)=false:=by rw [beq_eq_false_iff_ne];exact e
    simp only [e,if_false,φ];exact .gone hm (hC.lv.old i g' (by omega) av)
  ·show w.heap[F.wg]? =_;rw [be];exact ap.h _ _ ac
  ·show w.heap[F.mu]? =_;rw [bi];exact ap.h _ _ ag
  ·rw [upd_same];exact Le.refl _
 obtain⟨n,gs',w',bw,bx,bz,q',b0,g',s',b1,b2,hle,b3,b4,b5⟩:=Inv.run a6 _ _ _ sl _ _ _ _ _ _ _ _ _ _ _ _ _ _ V bn;obtain⟨n2,b6,w2,ca,t2,cc,ce,g2,ci,k1,co,cp,ct,cw,cy,c0⟩:=a8 g' s' b2 gs' w' bw bx q' b0 b1;refine⟨n+n2,b6,w2,ca,t2,cc,ce,g2,ci,?_,co,cp,λb o h=>ct b o (hle b o h),cw.trans b3,b4.trans cy,c0.trans b5⟩;rw [runNT_add,bz];exact k1
end Pal
namespace Pal
open Go Go.Conc
variable {ops:Ao_}{i:Nat}{rest:List Nat}{d:Option Tmp}{f:FuncId}{args:Array Operand}{ats:Array TypeId}{ty:TypeId}{pp:String}{af:Ae_}{g:On_}{vs:Lv_}{p q:Ph}
section
variable {P:Program}{F:Fam}{J:Judge P}{Q:GP}{n:Nat}{L L':Env}{ds:Ld_}{k:Li_}{cs:Lf_}{s s':St}{b:Frame}{main:Bool}
theorem BK(hb:b.roundOf=none)(T:Av_)(todo:Li_):fr b T ds todo=b.at ⟨T,ds⟩ todo:=by simp [fr,Frame.at,hb]
theorem Lm(hb:b.roundOf=none)(T:Av_)(todo:Li_):Eu b T ds todo={b.at ⟨T,ds⟩ todo with mode:= .returning}:=by simp [Eu,Frame.at,hb]
theorem EL(T:Av_)(ds:Ld_)(x:Operand):(⟨T,ds⟩:Act).eval x=Bu T x:=by cases x <;> rfl
theorem El(T:Av_)(ds:Ld_)(d:Option Tmp)(v:Value):(⟨T,ds⟩:Act).put d v=⟨CI T d v,ds⟩:=by cases d <;> rfl
def JO(J:Judge P)(Q:GP)(b:Frame)(n:Nat)(L:Env)(ds:Ld_)(cs:Lf_)(s:St):Prop:=
 ∀T,Has n L T->∀todo,J.ok Q (G (Eu b T ds todo) cs) s
theorem JL.out(K:b.roundOf=none)(h:JO J Q b n L ds cs s):JL J Q b n L ds [] cs s:=λT O=>
 Judge.Dg V (λw=>by simp [G,stepG,stepG.exec,fr,Eu,K]) (h T O [])
theorem Ij(K:b.roundOf=none)(h:JO J Q b n L ds cs s):JL J Q b n L ds (.code .ret::k) cs s:=λT O=>
 Judge.Dg V (λw=>by simp [G,stepG,stepG.exec,fr,Eu,K]) (h T O (.code .ret::k))
theorem JO.leave{c:Frame}{v:Value}(O:b.kind= .normal)(K:Bz P b.fn L n s v)(h:J.ok Q (G (c.finish v) cs) s):JO J Q b n L [] (c::cs) s:=λT U todo=>by
 obtain⟨fn,Y,K⟩:=K
 exact Judge.leave O Y (K T U) h
theorem JO.leaveD{c:Frame}{fn:Func}(O:b.kind= .deferred)(U:P.funcs[b.fn]? =some fn)(K:fn.results= #[])(hc:c.mode= .returning∨c.mode= .panicking [goexitEntry])(h:J.ok Q (G c cs) s):JO J Q b n L [] (c::cs) s:=λT Z todo=>by
 refine Judge.Dg rfl (λw=>?_) h
 have Y:=results_none K T P w
 have e2:=λ(x:Array Event)=>events_results_none (P:=P) (w:=w) K T x
 rcases hc with e | e <;> simp [G,stepG,unwind,Eu,U,Y,e2,doReturn,O,GStep.after,seen_none,e,goexitEntry]
theorem JO.enter{f:FuncId}{fn:Func}{c:Code}{vs:Lv_}(O:b.roundOf=none)(Y:P.funcs[f]? =some fn)(Z:(fn.name== "runtime.NumGoroutine")=false)(hb:fn.body=some c)(am:vs.length<=fn.ntmps)
  (h:∀T,Has n L T->∀todo,JL J Q (baseD f) fn.ntmps (Gr 0 vs) [] [.code c] (Eu b T ds todo::cs) s):JO J Q b n L (dcall f vs.toArray::ds) cs s:=λT ac todo=>by
 refine Judge.Dg rfl (λw=>?_) (h T ac todo (vs.toArray++Array.replicate (fn.ntmps - vs.length) undef) ⟨by simp;omega,λt v ag=>?_⟩)
 ·rw [Lm O,stepG_unwind_enter (a:=⟨T,dcall f vs.toArray::ds⟩) rfl Y Z hb,Lm O]
  rw [BK (b:=baseD f) rfl];simp
 ·obtain⟨_,K⟩:=JM ag;have al:t<vs.length:=by
   rcases Nat.lt_or_ge t vs.length with U | U
   ·exact U
   ·simp at K;have:=(List.getElem?_eq_some_iff.1 K).1;omega
  rw [Array.getD_eq_getD_getElem?,Array.getElem?_append_left (by simpa using al)];simp at K;simp [K]
theorem JL.defer{ops:Ao_}{i:Nat}{rest:List Nat}{d:Option Tmp}{f:FuncId}{args:Array Operand}{ats:Array TypeId}{ty:TypeId}{p:String}{af:Ae_}{g:On_}{vs:Lv_}
  (U:ops[i]? =some ⟨d,.defer ⟨.value (.func f),args,ats⟩,ty,p,af,g⟩) (Y:b.roundOf=none) (hw:AN L ops ⟨d,.defer ⟨.value (.func f),args,ats⟩,ty,p,af,g⟩=some true) (K:((b.kind != .early)&&Bh n d)=true)
  (Z:evs L args.toList=some vs) (h:JL J Q b n (Ax L d undef) (dcall f vs.toArray::ds) (.inRegion ops rest::k) cs s):
  JL J Q b n L ds (.inRegion ops (i::rest)::k) cs s:=λT O=>by
 simp only [Bool.and_eq_true] at K
 have ac:args.map (Bu T)=vs.toArray:=by
  rw [← GD O.Gc Z];apply Array.ext';simp
 refine Judge.oper U (B7 O hw) (by simpa using K.1) (.inl Y) ?_;have hd:execOp (Bu T) ⟨d,.defer ⟨.value (.func f),args,ats⟩,ty,p,af,g⟩= .pure (.defer (dcall f vs.toArray)):=by
  simp only [execOp,resolve,bind,Sem.bind,Deferred.ofValue,Bu,pure,dcall];rw [ac];simp
 rw [hd];exact h _ (O.put K.2 undef)
def Ls:Ph->Bool
 | .Hs _ | .F2 _ | .G7 | .FX _ _ | .HR | .FL | .Gv | .lk _ _=>false
 | _=>true
theorem IS{p:Ph}{g:Goroutine}(K:Ls p=true)(Y:g.status= .running)(Z:g.offers=none)(O:if Fam.CL p=true then s= .quiet else s.q=false)(ac:p= .FA->mayWake P g=true)
  (h:∀v wt sm v' wt' sm' es U,F.act p v wt sm=some ((v',wt',sm'),es,U)->∃g',(∀w,F.WG w v wt sm->stepG P (Fam.Cy p) g w= .go g' (F.put w v' wt' sm') es)/\g'.status= .running/\MJ P (Stop P F) (Fam.Cy p) U g' (Fam.JD p s)):Stop P F p g s:=
 G9.stop {
  run:=Y
  offers:=Z
  quiet:=λe=>by rw [if_pos e] at O;exact O
  live:=λe=>by rw [if_neg (by rw [e];simp)] at O;exact O
  act:=h
  I3:=λe=>by rcases e with e | ⟨k,b,e⟩;exact ac e;subst e;cases K
  Fo:=λe=>by subst e;cases K
  go:=λj e=>by subst e;cases K
  lk:=λk l e=>by subst e;cases K
  Cv:=λk sv e=>by subst e;cases K
  store:=λk e=>by subst e;cases K
  fin:=λe=>by subst e;cases K}
theorem Ll{w:World}{v wt sm:Nat}(h:F.WG w v wt sm):F.put w v wt sm=w:=by
 unfold Fam.put;have:w.heap.setIfInBounds F.wg (F.H4 (Fam.word v wt) sm)=w.heap:=by
  apply Array.ext_getElem?;intro i;by_cases e:F.wg=i
  ·subst e;unfold Fam.WG at h;have O:F.wg<w.heap.size:=by
    rcases Nat.lt_or_ge F.wg w.heap.size with K | K
    ·exact K
    ·simp [Array.getElem?_eq_none K] at h
   rw [Array.getElem?_setIfInBounds_self_of_lt O,h]
  ·rw [Array.getElem?_setIfInBounds_ne e]
 rw [this]
theorem IT{w:World}{v wt sm:Nat}(h:F.WG w v wt sm):w.cell? F.sA=some (.int .u64 (Fam.word v wt))/\w.cell? F.mA=some (.int .u32 sm)/\w.frozen? F.sA=false/\w.frozen? F.mA=false:=by
 unfold Fam.WG Fam.H4 at h;refine⟨?_,?_,?_,?_⟩
 ·simp [World.cell?,Fam.sA,h]
 ·simp [World.cell?,Fam.mA,h]
 ·simp [World.frozen?,Fam.sA,h]
 ·simp [World.frozen?,Fam.mA,h]
theorem Nc{w:World}{v wt sm v' wt':Nat}(h:F.WG w v wt sm):w.setCell F.sA (.int .u64 (Fam.word v' wt'))=F.put w v' wt' sm:=by
 unfold Fam.put World.setCell;congr 1;apply Array.ext_getElem?;intro i;unfold Fam.WG Fam.H4 at h;rw [Array.getElem?_modify];have O:F.wg<w.heap.size:=by
  rcases Nat.lt_or_ge F.wg w.heap.size with K | K
  ·exact K
  ·simp [Array.getElem?_eq_none K] at h
 by_cases e:F.wg=i
 ·subst e;rw [Array.getElem?_setIfInBounds_self_of_lt O,h];simp [Fam.sA,Fam.H4]
 ·rw [Array.getElem?_setIfInBounds_ne e];simp [Fam.sA,e]
theorem RO{w:World}{v wt sm sm':Nat}(h:F.WG w v wt sm):w.setCell F.mA (.int .u32 sm')=F.put w v wt sm':=by
 unfold Fam.put World.setCell;congr 1;apply Array.ext_getElem?;intro i;unfold Fam.WG Fam.H4 at h;rw [Array.getElem?_modify];have O:F.wg<w.heap.size:=by
  rcases Nat.lt_or_ge F.wg w.heap.size with K | K
  ·exact K
  ·simp [Array.getElem?_eq_none K] at h
 by_cases e:F.wg=i
 ·subst e;rw [Array.getElem?_setIfInBounds_self_of_lt O,h];simp [Fam.mA,Fam.H4]
 ·rw [Array.getElem?_setIfInBounds_ne e];simp [Fam.mA,e]
structure B6 (P:Program) (f:FuncId) (e:Av_->Sem Value):Prop where
 h:∃fn,P.funcs[f]? =some fn/\(fn.name== "runtime.NumGoroutine")=false/\fn.body.isNone=true/\Extern.findNext fn=none/\Extern.find fn=some e
theorem Kb{T:Av_}(K:Has n L T)(O:evs L args.toList=some vs):args.map (⟨T,ds⟩:Act).eval=vs.toArray:=by
 have:(⟨T,ds⟩:Act).eval=Bu T:=funext λx=>EL T ds x;rw [this,← GD K.Gc O];apply Array.ext';simp
theorem Mf{m:Mark}(Z:Ls p=true)(ac:if Fam.CL p=true then s= .quiet else s.q=false)(ag:p≠ .FA)(al:∀v wt sm,F.act p v wt sm=some ((v,wt,sm),#[Fam.CC m],.ph q))(am:Fam.JD p s=s)
  (ap:ops[i]? =some ⟨d,.call ⟨.value (.func f),args,ats⟩,ty,pp,af,g⟩) (O:b.roundOf=none) (hw:AN L ops ⟨d,.call ⟨.value (.func f),args,ats⟩,ty,pp,af,g⟩=some true) (K:((b.kind != .early)&&Bh n d)=true)
  (hm:∀x,m≠ .extern x) (he:B6 P f (λ_=>do mark m;pure Extern.Race.none_))
  (h:JL (AW P (Fam.Cy p)) (Stop P F q) b n (Ax L d (.tuple #[])) ds (.inRegion ops rest::k) cs s):
  JL (AW P (Fam.Cy p)) (Stop P F p) b n L ds (.inRegion ops (i::rest)::k) cs s:=λT U=>by
 simp only [Bool.and_eq_true] at K
 obtain⟨fn,aq,av,hb,aw,he⟩:=he.h
 refine(AW P _).stop (IS Z rfl rfl ac (λe=>absurd e ag) λv wt sm v' wt' sm' es az Y=>?_)
 rw [al] at Y;cases Y
 refine⟨_,λw ay=>?_,rfl,by rw [am];exact h _ (U.put K.2 _)⟩
 rw [BK O,BK O,stepG_mark0 (a:=⟨T,ds⟩) m hm ap (B7 U hw) (by simpa using K.1) rfl aq av hb aw he,Ll ay,El]
 rfl
theorem Pn{mk:Addr->Mark}{ad:Addr}(Z:Ls p=true)(ac:if Fam.CL p=true then s= .quiet else s.q=false)(ag:p≠ .FA)(al:∀v wt sm,F.act p v wt sm=some ((v,wt,sm),#[Fam.CC (mk ad)],.ph q))
  (am:ops[i]? =some ⟨d,.call ⟨.value (.func f),args,ats⟩,ty,pp,af,g⟩) (U:b.roundOf=none) (hw:AN L ops ⟨d,.call ⟨.value (.func f),args,ats⟩,ty,pp,af,g⟩=some true) (K:((b.kind != .early)&&Bh n d)=true)
  (hm:∀ad x,mk ad≠ .extern x) (he:B6 P f (Extern.Race.marked mk)) (ap:evs L args.toList=some vs) (aq:vs[0]? =some (.pointer (some ad)))
  (h:JL (AW P (Fam.Cy p)) (Stop P F q) b n (Ax L d (.tuple #[])) ds (.inRegion ops rest::k) cs (Fam.JD p s)):
  JL (AW P (Fam.Cy p)) (Stop P F p) b n L ds (.inRegion ops (i::rest)::k) cs s:=λT O=>by
 simp only [Bool.and_eq_true] at K
 obtain⟨fn,av,aw,hb,ay,he⟩:=he.h
 refine(AW P _).stop (IS Z rfl rfl ac (λe=>absurd e ag) λv wt sm v' wt' sm' es a0 Y=>?_)
 rw [al] at Y;cases Y
 refine⟨_,λw az=>?_,rfl,h _ (O.put K.2 _)⟩
 rw [BK U,BK U,stepG_markAt (a:=⟨T,ds⟩) mk hm am (B7 O hw) (by simpa using K.1) rfl av aw hb ay he (ad:=ad) (by rw [Kb O ap];simpa using aq),Ll az,El]
 rfl
end
variable {E:LH}{S:List Seg}{j l:Nat}{o':Obj}
section
variable {H:LH}{o:Obj}
theorem KF(ap:Aq E H S)(Y:S[j]? =some [(l,o)])(o':Obj):(Aj E H S).upd l o'=Aj E H (S.set j [(l,o')])/\Aq E H (S.set j [(l,o')]):=by
 obtain⟨K,Z⟩:=Hm ap Y;have U:=Nd.iff.1 Z;have ac:E l=none:=(U.2 (l,o) (by simp)).1;have aq:H l=none:=(U.2 (l,o) (by simp)).2;have ag:Nd E H (S.set j []).flatten:=Kz.Nd.left Z;have av:∀q∈(S.set j []).flatten,q.1≠l:=λq O e=>by
  have:=U.1;rw [List.map_append,List.nodup_append] at this;exact this.2.2 q.1 (List.mem_map_of_mem O) l (by simp) e
 have al:Bm (S.set j []).flatten H l=none:=by
  have key:∀(B:List (Nat×Obj)),(∀q∈B,q.1≠l)->Bm B H l=none:=by
   intro B
   induction B with
   | nil=>intro _;exact aq
   | cons q B aw=>
    intro O;obtain⟨c,ay⟩:=q;have am:l≠c:=λe=>O (c,ay) (by simp) e.symm;have K:=aw λq' az=>O q' (List.mem_cons_of_mem _ az);simp only [Bm]
    first
    | rw [if_neg am];exact K
    | rw [if_neg (Ne.symm am)];exact K
  exact key _ av
 have f1:=KD (E:=E) (H:=H) (B:=(S.set j []).flatten) (r:=l) ac al o ag;have f2:=KD (E:=E) (H:=H) (B:=(S.set j []).flatten) (r:=l) ac al o' ag;obtain⟨a0,g2⟩:=Jo (seg:= [(l,o)]) Y f2.1;refine⟨?_,g2⟩;rw [K,← a0,← f1.2,← f2.2];unfold St.upd;congr 1;funext x;by_cases a1:x=l <;> simp [a1]
end
variable {P:Program}{J:Judge P}{Q:Gs_}{L:Env}{ds:Ld_}{k:Li_}{cs:Lf_}
section
variable {b:Frame}{n:Nat}{H:LH}
theorem Judge.Fo{α:Type}{g:Goroutine}{g':α->Goroutine}{s:St}(x:Sem α)(ac:s.q=false)(ag:g.status= .running)
  (al:∀w a w',x.run P w= .ok a w'->∃es,stepG P J.main g w= .go (g' a) w' es/\∀e∈es,e∈x.events P w #[])
  (h:lp P x s (λa s'=>J.ok Q (g' a) s') (λ_ _=>False)):J.ok Q g s:=by
 refine J.step ⟨ag,λw f=>?_,λe=>by subst e;cases ac⟩;obtain⟨s',O,U,Y,K⟩:=Nt _ h f;cases Z:x.run P w with
 | ok a w'=>
  rw [Z] at O U Y K;simp only [KR] at O U Y;obtain⟨es,he,hm⟩:=al w a w' Z;exact⟨g' a,s',w',es,he,K,O,U,λe am=>Y e (hm e am)⟩
 | halt a w'=>rw [Z] at K;exact K.elim
theorem Nh{r:Loop}{s:St}{K:Loop->St->Prop}{X:Halt->St->Prop}(h:s.get l=some (.loop r))(k:K r s):lp P (Instr.getLoop l) s K X:=by
 unfold Instr.getLoop getObj;simp only [bind,Sem.bind,lp];exact⟨_,h,V,k⟩
theorem V4{r:Loop}{T:Av_}(j:Nat)(K:Aq E H S)(O:S[j]? =some [(l,.loop r)])(U:(r.state== .busy)=false)(Y:r.pending=none)
  (h:Aq E H (S.set j [(l,.loop {r with state:= .exhausted})])->J.ok Q (G (fr b T ds k) cs) (Aj E H (S.set j [(l,.loop {r with state:= .exhausted})]))):
  J.ok Q (G (fr b T ds (.endRangeFunc l::k)) cs) (Aj E H S):=by
 obtain⟨Z,ac⟩:=KF K O (.loop {r with state:= .exhausted});have ag:lp P (Instr.endLoop l) (Aj E H S) (λa s'=>a=none/\s'=Aj E H (S.set j [(l,.loop {r with state:= .exhausted})])) (λ_ _=>False):=by
  unfold Instr.endLoop;refine Aw _ _ (Nh (DJ (i:=0) K O V) ?_);rw [if_neg (by rw [U];simp)];have al:(Aj E H S).H l=some (.loop r):=by
   have:=DJ (i:=0) K O V;have am:E l=none:=Oc K O;unfold St.get at this;rw [show(Aj E H S).E l=none from am] at this;exact this
  simp only [bind,Sem.bind,lp,setObj,pure];refine⟨⟨_,al,V⟩,V,Y,?_⟩;exact Z
 refine Judge.Fo (g':=λap=>G (fr b T ds ((ap.map Item.code).toList++k)) cs) (Instr.endLoop l) V V (λw a w' aq=>?_) (Et _ ag (λa s' ⟨av,aw⟩=>by subst av aw;exact h ac) (λ_ _ h=>h));refine⟨seen P b.fn ((Instr.endLoop l).events P w #[])++ #[],?_,λe he=>?_⟩
 ·simp [G,stepG,stepG.exec,fr,aq,GStep.after]
 ·exact mem_seen (by simpa using he)
def U5(l:Nat)(f:FuncId):Frame:={(default:Frame) with fn:=f,kind:= .normal,roundOf:=some l}
theorem Gi.yield{r:Loop}{t:Tmp}{v:Value}{B:Seg}{R:Value->LH->Seg->Prop}{i:Nat}(K:B[i]? =some (l,.loop r))(O:r.params= #[t])
  (h:∀(Q:Gs_) (U:Frame) (cs:Lf_) (H:LH),Aq E H [B]->(∀w E' S' B',Le E E'->S'.flatten=B'->R w E' B'->Aq E' H S'->J.ok Q (G (U.finish w) cs) (Aj E' H S'))->
   J.ok Q (G (fr (U5 l r.fn) (r.tmps.setIfInBounds t v) [] [.code r.assign,.beginRound,.code r.body]) (U::cs)) (Aj E H [B])):
  Gi J (.func (.yield l) #[] #[]) [v] E B R:=λH Y Q c cs Z=>by
 have ac:(mk E H B).get l=some (.loop r):=Pe Y K
 simp only [Deferred.ofValue,bind,Sem.bind,pure,invoke]
 unfold Instr.yield
 refine Aw _ _ (Nh ac ?_)
 have ag:¬((#[]:Av_)++ [v].toArray).size≠r.params.size:=by rw [O];simp
 rw [if_neg ag];have e2:((r.params.zip ((#[]:Av_)++ [v].toArray)).foldl (λtmps (t,a)=>tmps.setIfInBounds t a) r.tmps)=r.tmps.setIfInBounds t v:=by rw [O];simp [Array.zip,Array.zipWith,Array.zipWithMAux]
 simp only [lp,pure];have al:mk E H B=Aj E H [B]:=by unfold Aj;simp
 rw [e2,al];exact h Q c cs H (by unfold Aq;simpa using Y) λw E' S' B' hle K am ap=>by
  subst K;exact Z w _ ⟨E',S'.flatten,hle,am,ap,rfl⟩
theorem JL.beginRound{r:Loop}(j:Nat)(U:b.roundOf=some l)(Y:b.kind= .normal)(K:Aq E H S)(O:S[j]? =some [(l,.loop r)])(Z:r.state= .ready)
  (h:Aq E H (S.set j [(l,.loop {r with state:= .busy})])->JL J Q b n L ds k cs (Aj E H (S.set j [(l,.loop {r with state:= .busy})]))):
  JL J Q b n L ds (.beginRound::k) cs (Aj E H S):=λT ac=>by
 obtain⟨ag,al⟩:=KF K O (.loop {r with state:= .busy})
 have am:lp P (Instr.beginRound l) (Aj E H S) (λ_ s'=>s'=Aj E H (S.set j [(l,.loop {r with state:= .busy})])) (λ_ _=>False):=by
  unfold Instr.beginRound;refine Aw _ _ (Nh (DJ (i:=0) K O rfl) ?_);have ap:(Aj E H S).H l=some (.loop r):=by
   have:=DJ (i:=0) K O rfl;have aq:E l=none:=Oc K O;unfold St.get at this;rw [show(Aj E H S).E l=none from aq] at this;exact this
  simp only [bind,Sem.bind,lp,setObj,pure,Z];exact⟨⟨_,ap,rfl⟩,rfl,ag⟩
 refine Judge.Fo (g':=λ_=>G (fr b T ds k) cs) (Instr.beginRound l) rfl rfl (λw a w' av=>?_) (Et _ am (λa s' aw=>by subst aw;exact h al T ac) (λ_ _ h=>h));refine⟨seen P b.fn ((Instr.beginRound l).events P w #[])++ #[],?_,λe he=>?_⟩
 ·simp [G,stepG,stepG.exec,fr,stepG.apply,U,Y,av,GStep.after,Frame.finish]
 ·exact mem_seen (by simpa using he)
theorem J8{o:Obj}{seg:Seg}(K:Aq E H S)(O:S[j]? =some ((l,o)::seg)):(Aj E H S).H l=some o:=by
 have:=DJ (i:=0) K O V;have U:E l=none:=Oc K O;unfold St.get at this;rw [show(Aj E H S).E l=none from U] at this;exact this
theorem JL.endRound{r:Loop}{c:Frame}(j:Nat)(U:b.roundOf=some l)(Y:b.kind= .normal)(K:Aq E H S)(O:S[j]? =some [(l,.loop r)])
  (h:Aq E H (S.set j [(l,.loop {r with state:= .ready,pending:=none})])->J.ok Q (G (c.finish (.bool true)) cs) (Aj E H (S.set j [(l,.loop {r with state:= .ready,pending:=none})]))):
  JL J Q b n L [] [] (c::cs) (Aj E H S):=λT aq=>by
 obtain⟨Z,ac⟩:=KF K O (.loop {r with state:= .ready,pending:=none})
 have ag:lp P (Instr.endRound l none) (Aj E H S) (λa s'=>a= .bool true/\s'=Aj E H (S.set j [(l,.loop {r with state:= .ready,pending:=none})])) (λ_ _=>False):=by
  unfold Instr.endRound;refine Aw _ _ (Nh (DJ (i:=0) K O rfl) ?_);simp only [bind,Sem.bind,lp,setObj,pure];exact⟨⟨_,J8 K O,rfl⟩,rfl,rfl,Z⟩
 refine Judge.Fo (g':=λv=>G (c.finish v) cs) (Instr.endRound l none) rfl rfl (λw a w' al=>?_) (Et _ ag (λa s' ⟨am,ap⟩=>by subst am ap;exact h ac) (λ_ _ h=>h));refine⟨seen P b.fn ((Instr.endRound l none).events P w #[])++ #[],?_,λe he=>?_⟩
 ·simp [G,stepG,stepG.exec,fr,U,Y,al,GStep.after,doReturn]
 ·exact mem_seen (by simpa using he)
theorem JL.rangeFunc{x:Operand}{params:Array Tmp}{as O:Code}{f:FuncId}{caps:Lv_}(aq:b.roundOf=none)(av:b.kind≠ .early)(ag:ev L x=some (.func (.func f) #[] caps.toArray))(hb:DX P f=true)(aw:Aq E H S)
  (h:∀K l T,Has n L T->Aq E H (S++ [[(K,.deferred (some []))]]++ [[(l,.loop ⟨.ready,none,b.fn,T,params,as,O,K⟩)]])->
   J.ok Q (G (Frame.enter P f (.func (.yield l) #[] #[]::caps).toArray .normal) (fr b T (⟨.collected K,#[]⟩::ds) (.inRangeFunc l::k)::cs)) (Aj E H (S++ [[(K,.deferred (some []))]]++ [[(l,.loop ⟨.ready,none,b.fn,T,params,as,O,K⟩)]]))):
  JL J Q b n L ds (.code (.rangeFunc x params as O)::k) cs (Aj E H S):=λT al=>by
 have ay:lp P (Instr.enterLoop b.fn T params as O b.roundOf) (Aj E H S) (λq s'=>∃K,q.2= [⟨.collected K,#[]⟩]/\Aq E H (S++ [[(K,.deferred (some []))]]++ [[(q.1,.loop ⟨.ready,none,b.fn,T,params,as,O,K⟩)]])/\s'=Aj E H (S++ [[(K,.deferred (some []))]]++ [[(q.1,.loop ⟨.ready,none,b.fn,T,params,as,O,K⟩)]])) (λ_ _=>False):=by
  unfold Instr.enterLoop;rw [aq];simp only [newObj,bind,Sem.bind,lp,pure];refine⟨rfl,λK Y Z=>?_⟩;obtain⟨ac,az⟩:=KD Y Z (.deferred (some [])) aw;obtain⟨a0,p2⟩:=FV ac;have a1:(Aj E H S).upd K (.deferred (some []))=Aj E H (S++ [[(K,.deferred (some []))]]):=by rw [← a0,← az];rfl
  rw [a1];refine⟨rfl,λl a2 a3=>?_⟩;obtain⟨a4,a5⟩:=KD a2 a3 (.loop ⟨.ready,none,b.fn,T,params,as,O,K⟩) p2;obtain⟨p3,p4⟩:=FV a4;exact⟨K,rfl,p4,by rw [← p3,← a5];rfl⟩
 refine Judge.Fo (g':=λq=>G (Frame.enter P f (.func (.yield q.1) #[] #[]::caps).toArray .normal) (fr b T (q.2++ds) (.inRangeFunc q.1::k)::cs)) (Instr.enterLoop b.fn T params as O b.roundOf) rfl rfl (λw a w' a6=>?_) (Et _ ay (λa s' ⟨K,Y,Z,ac⟩=>by subst ac;simp only [Y];exact h K a.1 T al Z) (λ_ _ h=>h));obtain⟨l,mk⟩:=a;have a7:Bu T x= .func (.func f) #[] caps.toArray:=al.ev ag;obtain⟨fn,U,a8,am⟩:∃fn,P.funcs[f]? =some fn/\(fn.name== "runtime.NumGoroutine")=false/\fn.body.isNone=false:=by
  unfold DX at hb;cases U:P.funcs[f]? with
  | none=>rw [U] at hb;cases hb
  | some fn=>
   rw [U] at hb;simp only [Bool.and_eq_true,Bool.not_eq_true'] at hb;exact⟨fn,rfl,hb.1,by cases ag:fn.body <;> simp_all⟩
 refine⟨seen P b.fn ((Instr.enterLoop b.fn T params as O b.roundOf).events P w #[])++ #[],?_,λe he=>?_⟩
 ·have ap:=SQ (b:=b) (ds:=mk++ds) T (.inRangeFunc l::k);simp only [fr] at ap;have a9:¬fn.name= "runtime.NumGoroutine" :=by simpa using a8
  have bb:¬fn.body=none:=by intro e;rw [e] at am;cases am
  have be:Bu T (.const (.func (.yield l) #[] #[]))= .func (.yield l) #[] #[]:=rfl;simp [G,stepG,stepG.exec,fr,a6,GStep.after,stepG.apply,resolve,ap,a7,Deferred.ofValue,invoke,callFunc,U,a9,bb,av,be,seen_none]
 ·exact mem_seen (by simpa using he)
theorem JO.collected{K:Nat}(j:Nat)(aq:b.roundOf=none)(O:Aq E H S)(U:S[j]? =some [(K,.deferred (some []))])
  (h:Aq E H (S.set j [(K,.deferred none)])->JO J Q b n L ds cs (Aj E H (S.set j [(K,.deferred none)]))):JO J Q b n L (⟨.collected K,#[]⟩::ds) cs (Aj E H S):=λT Y todo=>by
 obtain⟨Z,ac⟩:=KF O U (.deferred none)
 have ag:lp P (Instr.takeDeferred K) (Aj E H S) (λa s'=>a= []/\s'=Aj E H (S.set j [(K,.deferred none)])) (λ_ _=>False):=by
  unfold Instr.takeDeferred getObj;simp only [bind,Sem.bind,lp,setObj,pure];exact⟨_,DJ (i:=0) O U rfl,rfl,⟨_,J8 O U,rfl⟩,rfl,rfl,Z⟩
 refine Judge.Fo (g':=λl=>G (Eu b T (l++ds) todo) cs) (Instr.takeDeferred K) rfl rfl (λw a w' al=>?_) (Et _ ag (λa s' ⟨am,ap⟩=>by subst am ap;exact h ac T Y todo) (λ_ _ h=>h));refine⟨seen P b.fn ((Instr.takeDeferred K).events P w #[])++ #[],?_,λe he=>?_⟩
 ·simp [G,stepG,unwind,Eu,al,GStep.after]
 ·exact mem_seen (by simpa using he)
def KV(f:FuncId)(args caps:Av_):Deferred:={target:= .fn (.func f) caps,args:=args}
theorem JO.Qh{f:FuncId}{fn:Func}{c:Code}{vs caps:Lv_}(ap:b.roundOf=none)(O:P.funcs[f]? =some fn)(Y:(fn.name== "runtime.NumGoroutine")=false)(hb:fn.body=some c)(Z:(vs++caps).length<=fn.ntmps){s:St}
  (h:∀T,Has n L T->∀todo,JL J Q (baseD f) fn.ntmps (Gr 0 (vs++caps)) [] [.code c] (Eu b T ds todo::cs) s):JO J Q b n L (KV f vs.toArray caps.toArray::ds) cs s:=λT ac todo=>by
 have ag:¬fn.name= "runtime.NumGoroutine" :=by simpa using Y
 refine Judge.Dg rfl (λw=>?_) (h T ac todo ((vs++caps).toArray++Array.replicate (fn.ntmps - (vs++caps).length) undef) ⟨by simp;simp at Z;omega,λt v al=>?_⟩)
 ·rw [BK (b:=baseD f) rfl];have:=enter_atD (P:=P) (vs++caps).toArray O hb;simp only [List.size_toArray] at this;rw [← this];simp [G,stepG,unwind,callDeferred,Eu,KV,invoke,callFunc,O,ag,hb,GStep.after,seen_none]
 ·obtain⟨_,K⟩:=JM al;have am:t<(vs++caps).length:=by
   rcases Nat.lt_or_ge t (vs++caps).length with U | U
   ·exact U
   ·simp only [Nat.sub_zero] at K;have:=(List.getElem?_eq_some_iff.1 K).1;omega
  rw [Array.getD_eq_getD_getElem?,Array.getElem?_append_left (by simpa using am)];simp only [Nat.sub_zero] at K;rw [List.getElem?_toArray,K];rfl
theorem W7{ops:Ao_}{i:Nat}{rest:List Nat}{d:Option Tmp}{x:Operand}{f:FuncId}{caps:Lv_}{args:Array Operand}{ats:Array TypeId}{ty:TypeId}{p:String}{af:Ae_}{g:On_}{vs:Lv_}{s:St}
  (U:ops[i]? =some ⟨d,.defer ⟨.value x,args,ats⟩,ty,p,af,g⟩) (Y:b.roundOf=none) (hw:AN L ops ⟨d,.defer ⟨.value x,args,ats⟩,ty,p,af,g⟩=some true) (O:((b.kind != .early)&&Bh n d)=true)
  (Z:ev L x=some (.func (.func f) #[] caps.toArray)) (ac:evs L args.toList=some vs) (h:JL J Q b n (Ax L d undef) (KV f vs.toArray caps.toArray::ds) (.inRegion ops rest::k) cs s):
  JL J Q b n L ds (.inRegion ops (i::rest)::k) cs s:=λT K=>by
 simp only [Bool.and_eq_true] at O
 have ag:args.map (Bu T)=vs.toArray:=by
  rw [← GD K.Gc ac];apply Array.ext';simp
 refine Judge.oper U (B7 K hw) (by simpa using O.1) (.inl Y) ?_;have hd:execOp (Bu T) ⟨d,.defer ⟨.value x,args,ats⟩,ty,p,af,g⟩= .pure (.defer (KV f vs.toArray caps.toArray)):=by
  simp only [execOp,resolve,bind,Sem.bind,Deferred.ofValue,K.ev Z,pure,KV];rw [ag];simp
 rw [hd];exact h _ (K.put O.2 undef)
end
variable {s:St}{ρ:Operand->Value}{x y z:Operand}{t u e:TypeId}{a:Option Addr}{c:Nat}
section
variable {p:String}
theorem Nk(K:P.underlying t=some (.slice e))(O:ρ x= .slice a l c)(U:ρ (.const (.slice none 0 0))= .slice none 0 0):Yl P ⟨d,.binOp .eql t x (.const (.slice none 0 0)) u,ty,p,af,g⟩ ρ s (.bool a.isNone):=by
 refine FT (sm:=do eqGuard .eql t x (.const (.slice none 0 0)) (ρ x) (ρ (.const (.slice none 0 0)));binOp .eql t (ρ x) (ρ (.const (.slice none 0 0)))) V ?_
 rw [O,U];have Y:lp P (eqGuard .eql t x (.const (.slice none 0 0)) (.slice a l c) (.slice none 0 0)) s (λ_ s'=>s'=s) (λ_ _=>False):=by
  simp [eqGuard,lp,pure]
 refine Aw _ _ (Et _ Y ?_ (λ_ _ h=>h));rintro _ _ rfl;have hb:binOp .eql t (.slice a l c) (.slice none 0 0)=(do pure (.bool (← Op.equal t (.slice a l c) (.slice none 0 0)))):=V
 rw [hb];refine Aw (x:=Op.equal t (.slice a l c) (.slice none 0 0)) _ ?_;unfold Op.equal Op.maxDepth Op.equalIn;refine Aw _ _ (Cn K ?_);cases a <;> exact⟨rfl,rfl⟩
end
section
variable {b:Frame}{n:Nat}
end
variable {listed:Array Bool}
variable {v:Value}
section
variable {b:Frame}{n:Nat}{m fuel:Nat}{H:LH}
variable {p:String}
end
def I1(P:Program)(d:Nat):GP:=λg _=>∃q,QuitsD P q d g
def LD(P:Program):Frame:={(default:Frame) with fn:=P.funcs.size,defers:= [],mode:= .panicking [goexitEntry]}
section
variable {P:Program}{F:Fam}{J:Judge P}{Q:GP}{n:Nat}{L L':Env}{ds:Ld_}{k:Li_}{cs:Lf_}{s s':St}{b:Frame}{main:Bool}
theorem Lv.quits{d:Nat}:∀{m:Nat} {g:Goroutine},Lv P (I1 P d) m g->∃q,QuitsD P q d g
 | 0,_,h=>h
 | m+1,_,h=>by
  rcases h with h | ⟨K,g',O,h⟩
  ·exact h
  ·obtain⟨q,U⟩:=h.quits;exact⟨q+1,.ctl K O U⟩
theorem O8{d:Nat}{g:Goroutine}(h:(Im P).ok (I1 P d) g .quiet):∃q,QuitsD P q d g:=by
 obtain⟨m,hm⟩:=h V;exact hm.quits
theorem Ww:(Im P).ok (I1 P 0) (G (LD P) []) .quiet:=by
 refine Judge.Dg (g':={frame:=LD P,callers:= [],status:= .finished,dying:=none}) V (λw=>?_) ((Im P).stop ⟨0,V,V⟩);have K:(default:Frame).todo= []:=V;have O:∀(m:FrameMode),Frame.catches P {fn:=P.funcs.size,tmps:=(default:Frame).tmps,todo:= [],defers:= [],mode:=m,kind:=(default:Frame).kind,roundOf:=(default:Frame).roundOf}=false:=λm=>by simp [Frame.catches]
 simp [G,stepG,unwind,LD,goexitEntry,K,O]
theorem SD{ops:Ao_}{i:Nat}{rest:List Nat}{d:Option Tmp}{f:FuncId}{args:Array Operand}{ats:Array TypeId}{ty:TypeId}{pp:String}{af:Ae_}{g:On_}{T:Av_}{e:Av_->Sem Value}
  (K:ops[i]? =some ⟨d,.call ⟨.value (.func f),args,ats⟩,ty,pp,af,g⟩) (he:B6 P f e):mayWake P (G (fr b T ds (.inRegion ops (i::rest)::k)) cs)=true:=by
 obtain⟨fn,O,_,hb,_⟩:=he.h;have U:fn.body.isSome=false:=by cases h:fn.body <;> simp_all
 simp [mayWake,G,fr,K,Frame.eval,O,U]
theorem Ym{v wt:Nat}(K:1<=v)(O:v<2147483648)(U:wt<=1):IntKind.u64.wrap (Fam.word v wt+18446744069414584320)=Fam.word (v - 1) wt:=by
 simp only [Fam.word,Fam.KK,IntKind.wrap,IntKind.bits,IntKind.signed];simp;omega
theorem X4{v:Nat}(h:v<2147483647):IntKind.u64.wrap (Fam.word v 0+4294967296)=Fam.word (v+1) 0:=by
 simp only [Fam.word,Fam.KK,IntKind.wrap,IntKind.bits,IntKind.signed];simp;omega
theorem word_inj{v v' wt:Nat}(h:Fam.word v wt=Fam.word v' wt):v=v':=by
 simp only [Fam.word,Fam.KK] at h;omega
theorem ZS(ac:ops[i]? =some ⟨d,.call ⟨.value (.func f),#[x,y],ats⟩,ty,pp,af,g⟩)(Y:b.roundOf=none)(hw:AN L ops ⟨d,.call ⟨.value (.func f),#[x,y],ats⟩,ty,pp,af,g⟩=some true)(O:((b.kind != .early)&&Bh n d)=true)
  (he:B6 P f (Extern.Atomic.update (Op.intArith .add) .u64 true)) (ag:ev L x=some (.pointer (some F.sA))) (al:ev L y=some (.int .u64 18446744069414584320))
  (am:JL (AW P false) (Stop P F .G5) b n (Ax L d (.int .u64 (Fam.word 0 1))) ds (.inRegion ops rest::k) cs .quiet)
  (ap:∀v wt:Nat,v<2147483647->wt<=1->¬(v=0/\wt=1)->JL (Im P) (I1 P 1) b n (Ax L d (.int .u64 (Fam.word v wt))) ds (.inRegion ops rest::k) cs .quiet):
  JL (AW P false) (Stop P F .Hu) b n L ds (.inRegion ops (i::rest)::k) cs .quiet:=λT K=>by
 simp only [Bool.and_eq_true] at O
 obtain⟨fn,aq,av,hb,aw,he⟩:=he.h
 refine(AW P _).stop (IS rfl rfl rfl rfl (by simp) λv wt sm v' wt' sm' es ay U=>?_)
 simp only [Fam.act] at U
 split at U
 ·rename_i hc
  cases U;refine⟨G (fr b (CI T d (.int .u64 (Fam.word (v - 1) wt))) ds (.inRegion ops rest::k)) cs,λw Z=>?_,rfl,?_⟩
  ·obtain⟨c1,_,c3,_⟩:=IT Z;rw [BK Y,BK Y];show stepG P false _ w=_;rw [stepG_add_atomic (a:=⟨T,ds⟩) ac (B7 K hw) (by simpa using O.1) rfl aq av hb aw .u64 he (by rw [EL];exact K.ev ag) (by rw [EL];exact K.ev al) c1 c3,Ym hc.1 hc.2.1 hc.2.2,Nc Z,El]
   rfl
  ·split
   ·rename_i e;obtain⟨rfl,rfl⟩:=e;exact am _ (K.put O.2 _)
   ·rename_i e;exact O8 (ap (v - 1) wt (by omega) hc.2.2 (by omega) _ (K.put O.2 _))
 ·cases U
theorem ZO{j:Nat}(ac:s.q=false)(ag:ops[i]? =some ⟨d,.call ⟨.value (.func f),#[x,y],ats⟩,ty,pp,af,g⟩)(Y:b.roundOf=none)(hw:AN L ops ⟨d,.call ⟨.value (.func f),#[x,y],ats⟩,ty,pp,af,g⟩=some true)(O:((b.kind != .early)&&Bh n d)=true)
  (he:B6 P f (Extern.Atomic.update (Op.intArith .add) .u64 true)) (al:ev L x=some (.pointer (some F.sA))) (am:ev L y=some (.int .u64 4294967296))
  (ap:JL (AW P true) (Stop P F (.IH j)) b n (Ax L d (.int .u64 (Fam.word 1 0))) ds (.inRegion ops rest::k) cs s)
  (aq:∀v:Nat,1<=v->v<2147483647->JL (AW P true) (Stop P F (.Hd j)) b n (Ax L d (.int .u64 (Fam.word (v+1) 0))) ds (.inRegion ops rest::k) cs s):
  JL (AW P true) (Stop P F (.IF j)) b n L ds (.inRegion ops (i::rest)::k) cs s:=λT K=>by
 simp only [Bool.and_eq_true] at O
 obtain⟨fn,av,aw,hb,ay,he⟩:=he.h
 refine(AW P _).stop (IS rfl rfl rfl ac (by simp) λv wt sm v' wt' sm' es az U=>?_)
 simp only [Fam.act] at U
 split at U
 ·rename_i hc
  obtain⟨hc,rfl⟩:=hc;cases U;refine⟨G (fr b (CI T d (.int .u64 (Fam.word (v+1) 0))) ds (.inRegion ops rest::k)) cs,λw Z=>?_,rfl,?_⟩
  ·obtain⟨c1,_,c3,_⟩:=IT Z;rw [BK Y,BK Y];show stepG P true _ w=_;rw [stepG_add_atomic (a:=⟨T,ds⟩) ag (B7 K hw) (by simpa using O.1) rfl av aw hb ay .u64 he (by rw [EL];exact K.ev al) (by rw [EL];exact K.ev am) c1 c3,X4 hc,Nc Z,El]
   rfl
  ·split
   ·rename_i e;subst e;exact ap _ (K.put O.2 _)
   ·rename_i e;exact aq v (by omega) hc _ (K.put O.2 _)
 ·cases U
theorem aa(al:Ls p=true)(am:if Fam.CL p=true then s= .quiet else s.q=false)(ap:p≠ .FA)(aq:Fam.JD p s=s)(av:∀v wt sm r,F.act p v wt sm=some r->r.1=(v,wt,sm)/\r.2.1= #[Fam.Cc F.sA])
  (aw:ops[i]? =some ⟨d,.call ⟨.value (.func f),#[x],ats⟩,ty,pp,af,g⟩) (U:b.roundOf=none) (hw:AN L ops ⟨d,.call ⟨.value (.func f),#[x],ats⟩,ty,pp,af,g⟩=some true) (K:((b.kind != .early)&&Bh n d)=true)
  (he:B6 P f (Extern.Atomic.loadT (.int .u64))) (ay:ev L x=some (.pointer (some F.sA)))
  (h:∀v wt sm r,F.act p v wt sm=some r->∃q,r.2.2= .ph q/\JL (AW P (Fam.Cy p)) (Stop P F q) b n (Ax L d (.int .u64 (Fam.word v wt))) ds (.inRegion ops rest::k) cs s):
  JL (AW P (Fam.Cy p)) (Stop P F p) b n L ds (.inRegion ops (i::rest)::k) cs s:=λT O=>by
 simp only [Bool.and_eq_true] at K
 obtain⟨fn,az,a0,hb,a1,he⟩:=he.h
 refine(AW P _).stop (IS al rfl rfl am (λe=>absurd e ap) λv wt sm v' wt' sm' es a3 Y=>?_)
 obtain⟨Z,e2⟩:=av _ _ _ _ Y
 obtain⟨q,ac,a2⟩:=h _ _ _ _ Y
 simp only at Z e2 ac
 cases Z
 subst e2 ac
 refine⟨_,λw ag=>?_,rfl,by rw [aq];exact a2 _ (O.put K.2 _)⟩
 obtain⟨c1,_,_,_⟩:=IT ag
 rw [BK U,BK U,stepG_load_atomic (a:=⟨T,ds⟩) aw (B7 O hw) (by simpa using K.1) rfl az a0 hb a1 .u64 he (by rw [EL];exact O.ev ay) c1,Ll ag,El]
 rfl
theorem aA(ac:ops[i]? =some ⟨d,.call ⟨.value (.func f),#[x,y],ats⟩,ty,pp,af,g⟩)(Y:b.roundOf=none)(hw:AN L ops ⟨d,.call ⟨.value (.func f),#[x,y],ats⟩,ty,pp,af,g⟩=some true)(U:((b.kind != .early)&&Bh n d)=true)
  (he:B6 P f Extern.Atomic.storeT) (ag:ev L x=some (.pointer (some F.sA))) (al:ev L y=some (.int .u64 0))
  (h:JL (AW P false) (Stop P F .FA) b n (Ax L d (.tuple #[])) ds (.inRegion ops rest::k) cs .quiet):
  JL (AW P false) (Stop P F .Hp) b n L ds (.inRegion ops (i::rest)::k) cs .quiet:=λT K=>by
 simp only [Bool.and_eq_true] at U
 obtain⟨fn,am,ap,hb,aq,he⟩:=he.h
 refine(AW P _).stop (IS rfl rfl rfl rfl (by simp) λv wt sm v' wt' sm' es aw O=>?_)
 simp only [Fam.act] at O
 split at O
 ·rename_i hc
  obtain⟨rfl,rfl⟩:=hc;cases O;refine⟨_,λw Z=>?_,rfl,h _ (K.put U.2 _)⟩;obtain⟨c1,_,c3,_⟩:=IT Z;have av:(.int .u64 0:Value)= .int .u64 (Fam.word 0 0):=by simp [Fam.word]
  rw [BK Y,BK Y];show stepG P false _ w=_;rw [stepG_store_atomic (a:=⟨T,ds⟩) ac (B7 K hw) (by simpa using U.1) rfl am ap hb aq he (by rw [EL];exact K.ev ag) (by rw [EL];exact K.ev al) c1 c3,av,Nc Z,El]
  rfl
 ·cases O
theorem bm{m:Nat}(aw:s.q=false)(ac:ops[i]? =some ⟨d,.call ⟨.value (.func f),#[x,y,z],ats⟩,ty,pp,af,g⟩)(Z:b.roundOf=none)(hw:AN L ops ⟨d,.call ⟨.value (.func f),#[x,y,z],ats⟩,ty,pp,af,g⟩=some true)(U:((b.kind != .early)&&Bh n d)=true)
  (he:B6 P f (Extern.Atomic.casT (.int .u64))) (ag:ev L x=some (.pointer (some F.sA))) (al:ev L y=some (.int .u64 (Fam.word m 0))) (am:ev L z=some (.int .u64 (Fam.word m 1)))
  (ay:JL (AW P true) (Stop P F .II) b n (Ax L d (.bool true)) ds (.inRegion ops rest::k) cs s)
  (az:JL (AW P true) (Stop P F (.Ge (m - 1))) b n (Ax L d (.bool false)) ds (.inRegion ops rest::k) cs s):
  JL (AW P true) (Stop P F (.Hx m)) b n L ds (.inRegion ops (i::rest)::k) cs s:=λT K=>by
 simp only [Bool.and_eq_true] at U
 obtain⟨fn,ap,aq,hb,av,he⟩:=he.h
 refine(AW P _).stop (IS rfl rfl rfl aw (by simp) λv wt sm v' wt' sm' es a0 O=>?_)
 simp only [Fam.act] at O
 split at O
 ·rename_i hc
  obtain⟨_,_,rfl⟩:=hc;split at O
  ·rename_i e;subst e;cases O;refine⟨_,λw Y=>?_,rfl,ay _ (K.put U.2 _)⟩;obtain⟨c1,_,c3,_⟩:=IT Y;rw [BK Z,BK Z];show stepG P true _ w=_;rw [stepG_cas_hit (a:=⟨T,ds⟩) ac (B7 K hw) (by simpa using U.1) rfl ap aq hb av .u64 he (by rw [EL];exact K.ev ag) (by rw [EL];exact K.ev al) (by rw [EL];exact K.ev am) c1 c3,Nc Y,El]
   rfl
  ·rename_i e;cases O;refine⟨_,λw Y=>?_,rfl,az _ (K.put U.2 _)⟩;obtain⟨c1,_,c3,_⟩:=IT Y;rw [BK Z,BK Z];show stepG P true _ w=_;rw [stepG_cas_miss (a:=⟨T,ds⟩) ac (B7 K hw) (by simpa using U.1) rfl ap aq hb av .u64 he (by rw [EL];exact K.ev ag) (by rw [EL];exact K.ev al) (by rw [EL];exact K.ev am) c1 c3 (λq=>e (word_inj q)),Ll Y,El]
   rfl
 ·cases O
theorem XV{args:Array Operand}{vs:Lv_}(Y:ops[i]? =some ⟨d,.call ⟨.value (.func f),args,ats⟩,ty,pp,af,g⟩)(Z:b.roundOf=none)(hw:AN L ops ⟨d,.call ⟨.value (.func f),args,ats⟩,ty,pp,af,g⟩=some true)(O:((b.kind != .early)&&Bh n d)=true)
  (he:B6 P f Extern.Sync.semrelease) (ag:evs L args.toList=some vs) (al:vs[0]? =some (.pointer (some F.mA)))
  (h:JL (Im P) (I1 P 1) b n (Ax L d (.tuple #[])) ds (.inRegion ops rest::k) cs .quiet):
  JL (AW P false) (Stop P F .FA) b n L ds (.inRegion ops (i::rest)::k) cs .quiet:=λT U=>by
 simp only [Bool.and_eq_true] at O
 have am:=SD (P:=P) (b:=b) (ds:=ds) (k:=k) (cs:=cs) (rest:=rest) (T:=T) Y he
 obtain⟨fn,ap,aq,hb,av,he⟩:=he.h
 refine(AW P _).stop (IS rfl rfl rfl rfl (λ_=>am) λv wt sm v' wt' sm' es ay K=>?_)
 simp only [Fam.act] at K
 split at K
 ·rename_i hc
  subst hc;cases K;refine⟨_,λw ac=>?_,rfl,O8 (h _ (U.put O.2 _))⟩;obtain⟨_,c2,_,c4⟩:=IT ac;rw [BK Z,BK Z];show stepG P false _ w=_;rw [stepG_semrelease (a:=⟨T,ds⟩) Y (B7 U hw) (by simpa using O.1) rfl ap aq hb av he (ad:=F.mA) (by rw [Kb U ag];simpa using al) c2 c4,El];have aw:IntKind.u32.wrap (((0:Nat):Int)+1)=((1:Nat):Int):=by decide
  rw [aw,RO ac]
 ·cases K
theorem Wl{args:Array Operand}{vs:Lv_}(aq:s.q=false)(ac:ops[i]? =some ⟨d,.call ⟨.value (.func f),args,ats⟩,ty,pp,af,g⟩)(Y:b.roundOf=none)(hw:AN L ops ⟨d,.call ⟨.value (.func f),args,ats⟩,ty,pp,af,g⟩=some true)(Z:((b.kind != .early)&&Bh n d)=true)
  (he:B6 P f Extern.Sync.semacquire) (av:evs L args.toList=some vs) (aw:vs[0]? =some (.pointer (some F.mA)))
  (h:JL (AW P true) (Stop P F .Hq) b n (Ax L d (.tuple #[])) ds (.inRegion ops rest::k) cs s):
  JL (AW P true) (Stop P F .FL) b n L ds (.inRegion ops (i::rest)::k) cs s:=λT K=>by
 simp only [Bool.and_eq_true] at Z
 obtain⟨fn,ag,al,hb,am,he⟩:=he.h
 have ap:(args.map (⟨T,ds⟩:Act).eval)[0]? =some (.pointer (some F.mA)):=by rw [Kb K av];simpa using aw
 refine(AW P _).stop (G9.stop {
  run:=rfl,offers:=rfl,quiet:=(by simp [Fam.CL]),live:=λ_=>aq,act:=?_,I3:=(by simp),Fo:=?_,go:=(by simp),lk:=(by simp),Cv:=(by simp),store:=(by simp),fin:=(by simp)})
 ·intro v wt sm v' wt' sm' es az O;simp only [Fam.act] at O;split at O
  ·rename_i hc;subst hc;cases O;refine⟨_,λw U=>?_,rfl,h _ (K.put Z.2 _)⟩;obtain⟨_,c2,_,c4⟩:=IT U;rw [BK Y,BK Y];show stepG P true _ w=_;rw [stepG_semacquire (a:=⟨T,ds⟩) ac (B7 K hw) (by simpa using Z.1) rfl ag al hb am he (ad:=F.mA) ap c2 (by decide) c4,El];have ay:(((1:Nat):Int) - 1)=((0:Nat):Int):=by decide
   rw [ay,RO U]
  ·cases O
 ·intro _ w v wt U;obtain⟨_,c2,_,c4⟩:=IT U;rw [BK Y];exact stepG_semacquire_wait (a:=⟨T,ds⟩) ac (B7 K hw) rfl ag al hb am he (ad:=F.mA) ap c2
theorem S9{args:Array Operand}{vs:Lv_}(Y:s.q=false)(Z:ops[i]? =some ⟨d,.call ⟨.value (.func f),args,ats⟩,ty,pp,af,g⟩)(U:b.roundOf=none)(hw:AN L ops ⟨d,.call ⟨.value (.func f),args,ats⟩,ty,pp,af,g⟩=some true)(K:((b.kind != .early)&&Bh n d)=true)
  (he:B6 P f (Extern.Race.marked .acquire)) (ac:evs L args.toList=some vs) (ag:vs[0]? =some (.pointer (some F.sA)))
  (h:∀E' f,Le s.E E'->E' F.fd=none->(∀b,E' b≠none->s.H b=none)->(∀k,k<F.n->F.msg k (f k) E')->∀T,Has n (Ax L d (.tuple #[])) T->F.fin (G (fr b T ds (.inRegion ops rest::k)) cs) ⟨E',F.J1 s.H f,false⟩):
  JL (AW P true) (Stop P F .Gv) b n L ds (.inRegion ops (i::rest)::k) cs s:=λT O=>by
 simp only [Bool.and_eq_true] at K
 obtain⟨fn,al,am,hb,ap,he⟩:=he.h
 refine(AW P _).stop (G9.stop {
  run:=rfl,offers:=rfl,quiet:=(by simp [Fam.CL]),live:=λ_=>Y,act:=(by simp [Fam.act]),I3:=(by simp),Fo:=(by simp),go:=(by simp),lk:=(by simp),Cv:=(by simp),store:=(by simp),fin:=λ_=>?_})
 refine⟨_,λw=>?_,λE' f a1 aq av aw=>h E' f a1 aq av aw _ (O.put K.2 _)⟩
 rw [BK U,BK U,stepG_markAt (a:=⟨T,ds⟩) .acquire (by simp) Z (B7 O hw) (by simpa using K.1) rfl al am hb ap he (ad:=F.sA) (by rw [Kb O ac];simpa using ag),El]
 rfl
end
section
variable {P:Program}{F:Fam}{J:Judge P}{Q:GP}{n:Nat}{L L':Env}{ds:Ld_}{k:Li_}{cs:Lf_}{s s':St}{b:Frame}{main:Bool}
theorem Lh(T:Av_)(ds:Ld_):(⟨T,ds⟩:Act).eval=Bu T:=funext λx=>EL T ds x
theorem XX{X:GP}{fn:Func}{c:Code}{vs:Lv_}{caps:Av_}{args:Av_}(O:P.funcs[f]? =some fn)(Z:(fn.name== "runtime.NumGoroutine")=false)(hb:fn.body=some c)(ac:args++caps=vs.toArray)(ap:vs.length<=fn.ntmps)
  (h:JL (AW P false) X (baseD f) fn.ntmps (Gr 0 vs) [] [.code c] [LD P] s):Way P false X (born P {target:= .fn (.func f) caps,args:=args}) s:=by
 have ag:¬fn.name= "runtime.NumGoroutine" :=by simpa using Z
 refine Judge.Dg (J:=AW P false) V (λw=>?_) (h (vs.toArray++Array.replicate (fn.ntmps - vs.length) undef) ⟨by simp;omega,λt v al=>?_⟩)
 ·show stepG P false _ w=_;have U:=enter_atD (P:=P) vs.toArray O hb;rw [BK (b:=baseD f) rfl];simp only [List.size_toArray] at U;simp [G,born,stepG,unwind,callDeferred,invoke,callFunc,O,ag,hb,GStep.after,seen_none,ac,LD,U]
 ·obtain⟨_,K⟩:=JM al;have am:t<vs.length:=by
   rcases Nat.lt_or_ge t vs.length with Y | Y
   ·exact Y
   ·simp at K;have:=(List.getElem?_eq_some_iff.1 K).1;omega
  rw [Array.getD_eq_getD_getElem?,Array.getElem?_append_left (by simpa using am)];simp at K;simp [K]
theorem bE{T:Av_}{args:Array Operand}{K:Go.Fn}{fi O:Av_}{as:Lv_}(U:Has n L T)(Y:ev L x=some (.func K fi O))(Z:evs L args.toList=some as):
  execOp (Bu T) ⟨d,.go ⟨.value x,args,ats⟩,ty,pp,af,g⟩= .pure (.spawn {target:= .fn K O,args:=fi++as.toArray}):=by
 have ac:args.map (Bu T)=as.toArray:=by
  rw [← GD U.Gc Z];apply Array.ext';simp
 simp only [execOp,resolve,bind,Sem.bind,Deferred.ofValue,U.ev Y,pure,ac]
theorem ZV{j:Nat}{args:Array Operand}{fi U:Av_}{as:Lv_}{Y:FuncId}(ag:s.q=false)(al:ops[i]? =some ⟨d,.go ⟨.value x,args,ats⟩,ty,pp,af,g⟩)(Z:b.roundOf=none)(hw:AN L ops ⟨d,.go ⟨.value x,args,ats⟩,ty,pp,af,g⟩=some true)(K:((b.kind != .early)&&Bh n d)=true)
  (am:ev L x=some (.func (.func Y) fi U)) (ap:evs L args.toList=some as)
  (aq:Way P false (Stop P F (F.start j)) (born P {target:= .fn (.func Y) U,args:=fi++as.toArray}) ⟨s.E,λ_=>none,false⟩)
  (av:JL (AW P true) (Stop P F (F.EG j)) b n (Ax L d undef) ds (.inRegion ops rest::k) cs s):
  JL (AW P true) (Stop P F (.F2 j)) b n L ds (.inRegion ops (i::rest)::k) cs s:=λT O=>by
 simp only [Bool.and_eq_true] at K
 have ac:=bE (d:=d) (ats:=ats) (ty:=ty) (pp:=pp) (af:=af) (g:=g) O am ap
 refine(AW P _).stop (G9.stop {
  run:=rfl,offers:=rfl,quiet:=(by simp [Fam.CL]),live:=λ_=>ag,act:=(by simp [Fam.act]),I3:=(by simp),Fo:=(by simp),go:=λaw e=>?_,lk:=(by simp),Cv:=(by simp),store:=(by simp),fin:=(by simp)})
 cases e
 refine⟨G (fr b (CI T d undef) ds (.inRegion ops rest::k)) cs,_,rfl,rfl,λw=>?_,aq,av _ (O.put K.2 _)⟩
 rw [BK Z,BK Z,stepG_spawn (a:=⟨T,ds⟩) (w':=w) al (B7 O hw) (by simpa using K.1) (by rw [Lh,ac];rfl) rfl,listed_none (by rw [Lh,ac];simp [Sem.events_pure']),El]
theorem JO.S6{j:Nat}(Y:s.q=false)(K:b.roundOf=none)(he:B6 P f (λ_=>do mark .enable;pure Extern.Race.none_))
  (h:JO (AW P true) (Stop P F (.F2 j)) b n L ds cs s):JO (AW P true) (Stop P F (.Hd j)) b n L (dcall f #[]::ds) cs s:=λT Z todo=>by
 obtain⟨fn,ac,ag,hb,al,he⟩:=he.h
 refine(AW P _).stop (IS rfl rfl rfl Y (by simp) λv wt sm v' wt' sm' es ap O=>?_)
 simp only [Fam.act] at O
 cases O
 refine⟨G (Eu b T ds todo) cs,λw am=>?_,rfl,h T Z todo⟩
 rw [Lm K,Lm K,Ll am]
 exact stepG_unwind_entry (a:=⟨T,dcall f #[]::ds⟩) (v:= .tuple #[]) (evs:= #[Fam.CC .enable]) rfl ac ag hb al he (by simp [Extern.Race.none_]) (by simp;rfl) (by
  intro x U
  simp at U
  subst U
  exact⟨rfl,λg h=>by cases h⟩)
theorem JO.NR(K:b.roundOf=none)(he:B6 P f (λ_=>do mark .enable;pure Extern.Race.none_))
  (h:JO (Im P) (I1 P 0) b n L ds cs .quiet):JO (Im P) (I1 P 1) b n L (dcall f #[]::ds) cs .quiet:=λT U todo=>by
 obtain⟨fn,Y,Z,hb,ac,he⟩:=he.h
 refine(Im P).stop ?_
 obtain⟨q,O⟩:=O8 (h T U todo)
 rw [Lm K] at O
 rw [Lm K]
 exact⟨q+1,QuitsD.unwind_mark (a:=⟨T,dcall f #[]::ds⟩) .enable rfl (by simp) rfl Y Z hb ac he O⟩
end
def Vf:BinOp->Int->Int->Option Bool
 | .lss,m,m'=>some (decide (m<m'))
 | .leq,m,m'=>some (decide (m<=m'))
 | .gtr,m,m'=>some (decide (m'<m))
 | .geq,m,m'=>some (decide (m'<=m))
 | .eql,m,m'=>some (decide (m=m'))
 | .neq,m,m'=>some (decide (m≠m'))
 | _,_,_=>none
def KW(L:Env):Op->Option Value
 | .move x=>ev L x
 | .assign x=>ev L x
 | .pick z x y=>match ev L z with
  | some (.bool true)=>ev L x
  | some (.bool false)=>ev L y
  | _=>none
 | .extract x i=>match ev L x with
  | some (.tuple vs)=>vs[i]?
  | _=>none
 | .nilCheck x=>match ev L x with
  | some (.pointer (some a))=>some (.pointer (some a))
  | _=>none
 | .binOp op _ x y _=>match ev L x with
  | some (.int kd m)=>match ev L y with
   | some (.int kd' m')=>if kd=kd' then(match Vf op m m' with | some t=>some (.bool t) | none=>none) else none
   | _=>none
  | _=>none
 | _=>none
theorem Zk{P:Program}{s:St}{ρ:Operand->Value}{d:Option Tmp}{x y:Operand}{t u ty:TypeId}{p:String}{af:Ae_}{g:On_}{kd:IntKind}{m m':Int}(K:ρ x= .int kd m)(O:ρ y= .int kd m'):Yl P ⟨d,.binOp .neq t x y u,ty,p,af,g⟩ ρ s (.bool (decide (m≠m'))):=by
 have h:=Yl.neq (P:=P) (s:=s) (d:=d) (t:=t) (u:=u) (ty:=ty) (p:=p) (af:=af) (g:=g) K O;simpa using h
theorem Nz{P:Program}{L:Env}{ρ:Operand->Value}{s:St}{o:Oper}{v:Value}(K:EO L ρ)(h:KW L o.op=some v):Yl P o ρ s v:=by
 obtain⟨d,op,ty,p,af,g⟩:=o;simp only at h;unfold KW at h;split at h
 ·exact Yl.move (K _ _ h)
 ·exact Yl.assign (K _ _ h)
 ·split at h
  ·rename_i e;exact Ma (K _ _ e) (K _ _ h)
  ·rename_i e;exact Xh (K _ _ e) (K _ _ h)
  ·cases h
 ·split at h
  ·rename_i e;exact Yl.extract (K _ _ e) h
  ·cases h
 ·split at h
  ·rename_i e;cases h;exact Yl.nilCheck (K _ _ e)
  ·cases h
 ·split at h
  ·rename_i O;split at h
   ·rename_i U;split at h
    ·rename_i e;subst e;split at h
     ·rename_i e;cases h;unfold Vf at e;split at e
      ·cases e;exact Yl.lss (K _ _ O) (K _ _ U)
      ·cases e;exact Yl.leq (K _ _ O) (K _ _ U)
      ·cases e;exact Yl.gtr (K _ _ O) (K _ _ U)
      ·cases e;exact Yl.geq (K _ _ O) (K _ _ U)
      ·cases e;exact Yl.eql (K _ _ O) (K _ _ U)
      ·cases e;exact Zk (K _ _ O) (K _ _ U)
      ·cases e
     ·cases h
    ·cases h
   ·cases h
  ·cases h
 ·cases h
def Jz:List Oper->Nat->Option Oper
 | [],_=>none
 | o::_,0=>some o
 | _::os,i+1=>Jz os i
theorem Lu:∀(os:List Oper) (i:Nat),Jz os i=os[i]?
 | [],i=>by simp [Jz]
 | _::_,0=>rfl
 | _::os,i+1=>by simp [Jz,Lu os i]
def QK(b:Frame)(n:Nat)(L:Env):Li_->Option (Li_×Env)
 | .code (.seq x y)::k=>some (.code x:: .code y::k,L)
 | .code (.block i c)::k=>some (.code c:: .inBlock i::k,L)
 | .code (.scope c)::k=>some (.code c:: .inScope c::k,L)
 | .code .skip::k=>some (k,L)
 | .code (.exit i)::k=>match exitTo i k with
  | some k'=>some (k',L)
  | none=>none
 | .code (.cond c x y)::k=>match ev L c with
  | some (.bool true)=>some (.code x::k,L)
  | some (.bool false)=>some (.code y::k,L)
  | _=>none
 | .code (.region _ ops false)::k=>some (.inRegion ops (List.range ops.size)::k,L)
 | .inBlock _::k=>some (k,L)
 | .inScope _::k=>some (k,L)
 | .inRegion _ []::k=>some (k,L)
 | .inRegion ops (i::rest)::k=>match Jz ops.toList i with
  | some ⟨d,op,ty,p,af,g⟩=>match AN L ops ⟨d,op,ty,p,af,g⟩ with
   | some true=>match BM b n ⟨d,op,ty,p,af,g⟩ with
    | true=>match KW L op with
     | some v=>match d with
      | some d=>some (.inRegion ops rest::k,(d,v)::L)
      | none=>some (.inRegion ops rest::k,L)
     | none=>none
    | false=>none
   | some false=>match Bh n d with
    | true=>match d with
     | some d=>some (.inRegion ops rest::k,(d,undef)::L)
     | none=>some (.inRegion ops rest::k,L)
    | false=>none
   | none=>none
  | none=>none
 | _=>none
def Od(b:Frame)(n:Nat):Nat->Li_->Env->Option (Li_×Env)
 | 0,k,L=>some (k,L)
 | m+1,k,L=>match QK b n L k with
  | some (k',L')=>Od b n m k' L'
  | none=>none
variable {L':Env}{k':Li_}
section
variable {b:Frame}{n:Nat}
theorem bL(h:QK b n L k=some (k',L'))(K:JL J Q b n L' ds k' cs s):JL J Q b n L ds k cs s:=by
 unfold QK at h;split at h
 ·cases h;exact JL.seq K
 ·cases h;exact JL.block K
 ·cases h;exact JL.scope K
 ·cases h;exact JL.skip K
 ·split at h
  ·rename_i e;cases h;exact JL.exit e K
  ·cases h
 ·split at h
  ·rename_i e;cases h;exact Xn e K
  ·rename_i e;cases h;exact Wy e K
  ·cases h
 ·cases h;exact JL.region K
 ·cases h;exact M9 K
 ·cases h;exact VU K
 ·cases h;exact JL.done K
 ·split at h
  ·rename_i d op ty p af g O;rw [Lu,Array.getElem?_toList] at O;split at h
   ·rename_i hw;split at h
    ·rename_i U;split at h
     ·rename_i v Z;cases d with
      | none=>cases h;exact A2 O hw U (λρ Y=>Nz Y Z) K
      | some d=>cases h;exact A2 O hw U (λρ Y=>Nz Y Z) K
     ·cases h
    ·cases h
   ·rename_i hw;split at h
    ·rename_i U;cases d with
     | none=>cases h;exact Iz O hw U K
     | some d=>cases h;exact Iz O hw U K
    ·cases h
   ·cases h
  ·cases h
 ·cases h
theorem JL.go(m:Nat)(h:Od b n m k L=some (k',L'))(K:JL J Q b n L' ds k' cs s):JL J Q b n L ds k cs s:=by
 induction m generalizing k L with
 | zero=>cases h;exact K
 | succ m O=>
  unfold Od at h;split at h
  ·rename_i e;exact bL e (O h)
  ·cases h
end
abbrev Ak(a o:Nat):Value:= .pointer (some ⟨a,o,none⟩)
abbrev sV{α:Type}(a:Option Addr)(l:List α)(c:Nat):Value:= .slice a l.length c
abbrev fV(n:Nat):Value:= .func (.func n) #[] #[]
abbrev nS:Value:= .slice none 0 0
abbrev AM(r:Nat):Option Addr:=some ⟨r,0,none⟩
open Go.Conc.Lib Go.ConcR.Gen
theorem Gk{P:Program}{t:TypeId}{n:Nat}(h:∀w,Sem.run P (Go.sizeOf t) w= .ok n w):Bp P t=some n:=by
 have K:=h default;unfold Bp;simp only [Go.sizeOf,typeInfo,bind,Sem.bind,program,Sem.run] at K;cases hi:P.info? t with
 | none=>rw [hi] at K;simp [stuck,Sem.run,Sem.bind] at K
 | some i=>
  rw [hi] at K;simp [pure,Sem.bind,Sem.run] at K;simp [K]
section
variable {L:WgLink}(H:WgLib P L)
include H
theorem Na:B6 P L.disable (λ_=>do mark .disable;pure Extern.Race.none_):=⟨⟨_,H.f_disable,x_disable_n L,x_disable_b L,x_disable_x L,x_disable_f L⟩⟩
theorem Jb:B6 P L.enable (λ_=>do mark .enable;pure Extern.Race.none_):=⟨⟨_,H.f_enable,x_enable_n L,x_enable_b L,x_enable_x L,x_enable_f L⟩⟩
theorem Ro:B6 P L.relMerge (Extern.Race.marked .releaseMerge):=⟨⟨_,H.f_relMerge,x_relMerge_n L,x_relMerge_b L,x_relMerge_x L,x_relMerge_f L⟩⟩
theorem O6:B6 P L.acquire (Extern.Race.marked .acquire):=⟨⟨_,H.f_acquire,x_acquire_n L,x_acquire_b L,x_acquire_x L,x_acquire_f L⟩⟩
theorem YG:B6 P L.raceRead (Extern.Race.marked .read):=⟨⟨_,H.f_raceRead,x_raceRead_n L,x_raceRead_b L,x_raceRead_x L,x_raceRead_f L⟩⟩
theorem Xv:B6 P L.raceWrite (Extern.Race.marked .write):=⟨⟨_,H.f_raceWrite,x_raceWrite_n L,x_raceWrite_b L,x_raceWrite_x L,x_raceWrite_f L⟩⟩
theorem TA:B6 P L.addU64 (Extern.Atomic.update (Op.intArith .add) .u64 true):=⟨⟨_,H.f_addU64,x_addU64_n L,x_addU64_b L,x_addU64_x L,x_addU64_f L⟩⟩
theorem Yg:B6 P L.loadU64 (Extern.Atomic.loadT (.int .u64)):=⟨⟨_,H.f_loadU64,x_loadU64_n L,x_loadU64_b L,x_loadU64_x L,x_loadU64_f L⟩⟩
theorem WS:B6 P L.storeU64 Extern.Atomic.storeT:=⟨⟨_,H.f_storeU64,x_storeU64_n L,x_storeU64_b L,x_storeU64_x L,x_storeU64_f L⟩⟩
theorem YN:B6 P L.casU64 (Extern.Atomic.casT (.int .u64)):=⟨⟨_,H.f_casU64,x_casU64_n L,x_casU64_b L,x_casU64_x L,x_casU64_f L⟩⟩
theorem WV:B6 P L.semrelease Extern.Sync.semrelease:=⟨⟨_,H.f_semrelease,x_semrelease_n L,x_semrelease_b L,x_semrelease_x L,x_semrelease_f L⟩⟩
theorem VT:B6 P L.semacquire Extern.Sync.semacquire:=⟨⟨_,H.f_semacquire,x_semacquire_n L,x_semacquire_b L,x_semacquire_x L,x_semacquire_f L⟩⟩
theorem RF:B6 P L.inBubble (λ_=>pure (.bool false)):=⟨⟨_,H.f_inBubble,x_inBubble_n L,x_inBubble_b L,x_inBubble_x L,x_inBubble_f L⟩⟩
end
variable {tw:TypeId}
section
variable {P:Program}{F:Fam}{J:Judge P}{Q:GP}{n:Nat}{L L':Env}{ds:Ld_}{k:Li_}{cs:Lf_}{s s':St}{b:Frame}{main:Bool}
theorem Yl.to{o:Oper}{ρ:Operand->Value}{v v':Value}(h:Yl P o ρ s v)(e:v=v'):Yl P o ρ s v':=e▸h
theorem Ml{ad:Addr}(aq:Ls p=true)(av:if Fam.CL p=true then s= .quiet else s.q=false)(aw:p≠ .FA)(ay:∀v wt sm,F.act p v wt sm=some ((v,wt,sm),#[],.ph q))(az:Fam.JD p s=s)
  (a0:ops[i]? =some ⟨d,.convert t u x,ty,pp,af,g⟩) (U:b.roundOf=none) (hw:AN L ops ⟨d,.convert t u x,ty,pp,af,g⟩=some true) (K:((b.kind != .early)&&Bh n d)=true)
  (Y:P.underlying t=some (.pointer tw)) (hu:P.underlying u=some .unsafePointer) (Z:(P.info? tw).map (λi=>decide (i.size=0))=some false) (a1:ev L x=some (.pointer (some ad))) (hb:ad=F.sA∨ad=F.mA)
  (h:JL (AW P (Fam.Cy p)) (Stop P F q) b n (Ax L d (.pointer (some ad))) ds (.inRegion ops rest::k) cs s):
  JL (AW P (Fam.Cy p)) (Stop P F p) b n L ds (.inRegion ops (i::rest)::k) cs s:=λT O=>by
 simp only [Bool.and_eq_true] at K
 refine(AW P _).stop (IS aq rfl rfl av (λe=>absurd e aw) λv wt sm v' wt' sm' es a3 ac=>?_)
 rw [ay] at ac;cases ac
 refine⟨_,λw ag=>?_,rfl,by rw [az];exact h _ (O.put K.2 _)⟩
 obtain⟨al,hc⟩:∃al,w.cell? ad=some al:=by
  obtain⟨c1,c2,_,_⟩:=IT ag;rcases hb with e | e <;> rw [e]
  ·exact⟨_,c1⟩
  ·exact⟨_,c2⟩
 have am:=run_convert_to_unsafe (P:=P) (w:=w) Y hu Z hc;have a2:=events_convert_to_unsafe (P:=P) (w:=w) Y hu Z hc;have ap:execOp (⟨T,ds⟩:Act).eval ⟨d,.convert t u x,ty,pp,af,g⟩=(do pure (Next.value (← Go.convert t u (.pointer (some ad))))):=by
  rw [Lh];simp only [execOp,O.ev a1]
 rw [BK U,BK U,stepG_value (a:=⟨T,ds⟩) (v:= .pointer (some ad)) (w':=w) a0 (B7 O hw) (by simpa using K.1) (by rw [ap];simp [am,Result.andThen]),Ll ag,El];have e2:listed P b.fn ⟨T,ds⟩ ⟨d,.convert t u x,ty,pp,af,g⟩ w= #[]:=by
  unfold listed;rw [ap];simp [am,a2,Result.evThen,seen_none]
 rw [e2]
end
section
variable {P:Program}{F:Fam}{J:Judge P}{Q:GP}{n:Nat}{L L':Env}{ds:Ld_}{k:Li_}{cs:Lf_}{s s':St}{b:Frame}{main:Bool}
def dL(P:Program)(b:Frame)(n:Nat)(L:Env)(d:Option Tmp)(ds:Ld_)(todo:Li_)(cs:Lf_)(U:Frame):Prop:=
 ∀(K:Judge P) (O:GP) (v:Value) (s':St),JL K O b n (Ax L d v) ds todo cs s'->K.ok O (G (U.finish v) cs) s'
theorem Hl{fn:Func}{c:Code}(Y:ops[i]? =some ⟨d,.call ⟨.value (.func f),args,ats⟩,ty,pp,af,g⟩)(hw:AN L ops ⟨d,.call ⟨.value (.func f),args,ats⟩,ty,pp,af,g⟩=some true)(O:((b.kind != .early)&&Bh n d)=true)
  (Z:P.funcs[f]? =some fn) (al:(fn.name== "runtime.NumGoroutine")=false) (hb:fn.body=some c) (am:evs L args.toList=some vs) (az:vs.length<=fn.ntmps)
  (h:∀ac:Frame,dL P b n L d ds (.inRegion ops rest::k) cs ac->JL J Q (base f) fn.ntmps (Gr 0 vs) [] [.code c] (ac::cs) s):
  JL J Q b n L ds (.inRegion ops (i::rest)::k) cs s:=λT U=>by
 simp only [Bool.and_eq_true] at O
 have ap:args.map (Bu T)=vs.toArray:=by
  rw [← GD U.Gc am];apply Array.ext';simp
 refine Judge.oper Y (B7 U hw) (by simpa using O.1) (.inr λc hc=>by cases hc) ?_;have aq:DX P f=true:=by unfold DX;rw [Z];simp [al,hb]
 have hd:lp P (execOp (Bu T) ⟨d,.call ⟨.value (.func f),args,ats⟩,ty,pp,af,g⟩) s (upon J Q b T ds ops i rest k cs d) (LA J Q b T ds ops i rest k cs):=by
  simp only [execOp,resolve,bind,Sem.bind,Deferred.ofValue,Bu,pure,invoke];have e: #[]++args.map (Bu T)++ #[]=vs.toArray:=by rw [ap];simp
  rw [e];refine Ja aq ?_;have he:Frame.enter P f vs.toArray .normal=fr (base f) (vs.toArray++Array.replicate (fn.ntmps - vs.length) undef) [] [.code c]:=by
   simp [Frame.enter,fr,Z,hb,base];rfl
  show J.ok Q (G (Frame.enter P f vs.toArray .normal) _) s;rw [he];refine h _ (λa0 a1 v s' av=>?_) _ ⟨by simp;omega,λt v aw=>?_⟩
  ·rw [GF (o:=⟨d,.call ⟨.value (.func f),args,ats⟩,ty,pp,af,g⟩) _ _ _ _ _ Y];exact av _ (U.put O.2 v)
  ·obtain⟨_,K⟩:=JM aw;have ay:t<vs.length:=by
    rcases Nat.lt_or_ge t vs.length with ag | ag
    ·exact ag
    ·simp at K;have:=(List.getElem?_eq_some_iff.1 K).1;omega
   rw [Array.getD_eq_getD_getElem?,Array.getElem?_append_left (by simpa using ay)];simp at K;simp [K]
 exact hd
theorem Yl.ext{e:Av_->Sem Value}{v:Value}{ρ:Operand->Value}(he:B6 P f e)(O:args.map ρ=vs.toArray)(h:e vs.toArray= .pure v):Yl P ⟨d,.call ⟨.value (.func f),args,ats⟩,ty,pp,af,g⟩ ρ s v∨ρ (.func f)≠ .func (.func f) #[] #[]:=by
 by_cases K:ρ (.func f)= .func (.func f) #[] #[]
 ·left;obtain⟨fn,U,Y,Z,ac,ag⟩:=he.h;unfold Yl;simp only [execOp,resolve,bind,Sem.bind,Deferred.ofValue,K,pure,invoke];have al: #[]++args.map ρ++ #[]=vs.toArray:=by rw [O];simp
  rw [al];have am:fn.body=none:=by simpa using Z
  simp only [callFunc,bind,Sem.bind,program,lp,U,Y,am,Option.isNone_none,Bool.false_eq_true,if_false,if_true,mark,ac,ag,h,pure];exact⟨.inr ⟨f,V⟩,trivial,trivial⟩
 ·exact .inr K
theorem JL.ext{e:Av_->Sem Value}{v:Value}(O:ops[i]? =some ⟨d,.call ⟨.value (.func f),args,ats⟩,ty,pp,af,g⟩)(hw:AN L ops ⟨d,.call ⟨.value (.func f),args,ats⟩,ty,pp,af,g⟩=some true)(U:BM b n ⟨d,.call ⟨.value (.func f),args,ats⟩,ty,pp,af,g⟩=true)
  (he:B6 P f e) (Y:evs L args.toList=some vs) (Z:e vs.toArray= .pure v) (h:JL J Q b n (Ax L d v) ds (.inRegion ops rest::k) cs s):JL J Q b n L ds (.inRegion ops (i::rest)::k) cs s:=
 A2 O hw U (λρ K=>by
  have ac:args.map ρ=vs.toArray:=by
   rw [← GD K Y]
   apply Array.ext';simp
  rcases Yl.ext (s:=s) (d:=d) (ats:=ats) (ty:=ty) (pp:=pp) (af:=af) (g:=g) he ac Z with q | q
  ·exact q
  ·exact absurd (K (.func f) _ rfl) q) h
end
section
variable {P:Program}{L:WgLink}(H:WgLib P L){F:Fam}{n:Nat}{M:Env}{ds:Ld_}{k:Li_}{cs:Lf_}{s:St}{b:Frame}
include H
theorem Yt(K:ops[i]? =some ⟨d,.call ⟨.value (.func L.uAdd),#[x,y],ats⟩,ty,pp,af,g⟩)(hw:AN M ops ⟨d,.call ⟨.value (.func L.uAdd),#[x,y],ats⟩,ty,pp,af,g⟩=some true)(O:((b.kind != .early)&&Bh n d)=true)
  (U:ev M x=some (.pointer (some F.sA))) (Y:ev M y=some (.int .u64 18446744069414584320))
  (Z:JL (AW P false) (Stop P F .G5) b n (Ax M d (.int .u64 (Fam.word 0 1))) ds (.inRegion ops rest::k) cs .quiet)
  (ac:∀v wt:Nat,v<2147483647->wt<=1->¬(v=0/\wt=1)->JL (Im P) (I1 P 1) b n (Ax M d (.int .u64 (Fam.word v wt))) ds (.inRegion ops rest::k) cs .quiet):
  JL (AW P false) (Stop P F .Hu) b n M ds (.inRegion ops (i::rest)::k) cs .quiet:=by
 refine Hl (vs:= [.pointer (some F.sA),.int .u64 18446744069414584320]) K hw O H.f_uAdd (nm_uAdd L) V (by simp [evs,U,Y]) (Nat.le_of_ble_eq_true V) λap back=>JL.go 8 V (A2 V V V (λρ h=>Yl.fieldAddr H.underlying_tAU V (Gk H.sizeOf_tU64) (h _ _ V)) ?_);refine JL.go 1 V (ZS V V V V (TA H) V V ?_ λv wt ag al am=>?_)
 ·refine A2 V V V (λρ h=>Yl.assign (h _ _ V)) (JL.done ?_);exact JL.ret V V (Bz.one H.f_uAdd V V) (back _ _ _ _ Z)
 ·refine A2 V V V (λρ h=>Yl.assign (h _ _ V)) (JL.done ?_);exact JL.ret V V (Bz.one H.f_uAdd V V) (back _ _ _ _ (ac v wt ag al am))
theorem Yb{j:Nat}(K:s.q=false)(O:ops[i]? =some ⟨d,.call ⟨.value (.func L.uAdd),#[x,y],ats⟩,ty,pp,af,g⟩)(hw:AN M ops ⟨d,.call ⟨.value (.func L.uAdd),#[x,y],ats⟩,ty,pp,af,g⟩=some true)(U:((b.kind != .early)&&Bh n d)=true)
  (Y:ev M x=some (.pointer (some F.sA))) (Z:ev M y=some (.int .u64 4294967296))
  (ac:JL (AW P true) (Stop P F (.IH j)) b n (Ax M d (.int .u64 (Fam.word 1 0))) ds (.inRegion ops rest::k) cs s)
  (ag:∀v:Nat,1<=v->v<2147483647->JL (AW P true) (Stop P F (.Hd j)) b n (Ax M d (.int .u64 (Fam.word (v+1) 0))) ds (.inRegion ops rest::k) cs s):
  JL (AW P true) (Stop P F (.IF j)) b n M ds (.inRegion ops (i::rest)::k) cs s:=by
 refine Hl (vs:= [.pointer (some F.sA),.int .u64 4294967296]) O hw U H.f_uAdd (nm_uAdd L) V (by simp [evs,Y,Z]) (Nat.le_of_ble_eq_true V) λap back=>JL.go 8 V (A2 V V V (λρ h=>Yl.fieldAddr H.underlying_tAU V (Gk H.sizeOf_tU64) (h _ _ V)) ?_);refine JL.go 1 V (ZO K V V V V (TA H) V V ?_ λv al am=>?_)
 ·refine A2 V V V (λρ h=>Yl.assign (h _ _ V)) (JL.done ?_);exact JL.ret V V (Bz.one H.f_uAdd V V) (back _ _ _ _ ac)
 ·refine A2 V V V (λρ h=>Yl.assign (h _ _ V)) (JL.done ?_);exact JL.ret V V (Bz.one H.f_uAdd V V) (back _ _ _ _ (ag v al am))
theorem JL.uLoad(K:Ls p=true)(O:if Fam.CL p=true then s= .quiet else s.q=false)(U:p≠ .FA)(Y:Fam.JD p s=s)(Z:∀v wt sm r,F.act p v wt sm=some r->r.1=(v,wt,sm)/\r.2.1= #[Fam.Cc F.sA])(ac:ops[i]? =some ⟨d,.call ⟨.value (.func L.uLoad),#[x],ats⟩,ty,pp,af,g⟩)(hw:AN M ops ⟨d,.call ⟨.value (.func L.uLoad),#[x],ats⟩,ty,pp,af,g⟩=some true)(ag:((b.kind != .early)&&Bh n d)=true)
  (al:ev M x=some (.pointer (some F.sA)))
  (h:∀v wt sm r,F.act p v wt sm=some r->∃q,r.2.2= .ph q/\JL (AW P (Fam.Cy p)) (Stop P F q) b n (Ax M d (.int .u64 (Fam.word v wt))) ds (.inRegion ops rest::k) cs s):
  JL (AW P (Fam.Cy p)) (Stop P F p) b n M ds (.inRegion ops (i::rest)::k) cs s:=by
 refine Hl (vs:= [.pointer (some F.sA)]) ac hw ag H.f_uLoad (nm_uLoad L) V (by simp [evs,al]) (Nat.le_of_ble_eq_true V) λav back=>JL.go 8 V (A2 V V V (λρ h=>Yl.fieldAddr H.underlying_tAU V (Gk H.sizeOf_tU64) (h _ _ V)) ?_);refine aa K O U Y Z V V V V (Yg H) V λv wt sm r am=>?_;obtain⟨q,ap,aq⟩:=h v wt sm r am;refine⟨q,ap,?_⟩
 ·refine A2 V V V (λρ h=>Yl.assign (h _ _ V)) (JL.done ?_);exact JL.ret V V (Bz.one H.f_uLoad V V) (back _ _ _ _ aq)
theorem JL.uStore(K:ops[i]? =some ⟨d,.call ⟨.value (.func L.uStore),#[x,y],ats⟩,ty,pp,af,g⟩)(hw:AN M ops ⟨d,.call ⟨.value (.func L.uStore),#[x,y],ats⟩,ty,pp,af,g⟩=some true)(O:((b.kind != .early)&&Bh n d)=true)
  (U:ev M x=some (.pointer (some F.sA))) (Y:ev M y=some (.int .u64 0))
  (h:JL (AW P false) (Stop P F .FA) b n (Ax M d (.tuple #[])) ds (.inRegion ops rest::k) cs .quiet):
  JL (AW P false) (Stop P F .Hp) b n M ds (.inRegion ops (i::rest)::k) cs .quiet:=by
 refine Hl (vs:= [.pointer (some F.sA),.int .u64 0]) K hw O H.f_uStore (nm_uStore L) V (by simp [evs,U,Y]) (Nat.le_of_ble_eq_true V) λZ back=>JL.go 3 V (A2 V V V (λρ h=>Yl.fieldAddr H.underlying_tAU V (Gk H.sizeOf_tU64) (h _ _ V)) ?_);refine JL.go 1 V (aA V V V V (WS H) V V ?_);exact JL.done (JL.fin V V (Bz.none H.f_uStore V) (back _ _ _ _ h))
theorem JL.uCas{m:Nat}(K:s.q=false)(O:ops[i]? =some ⟨d,.call ⟨.value (.func L.uCas),#[x,y,z],ats⟩,ty,pp,af,g⟩)(hw:AN M ops ⟨d,.call ⟨.value (.func L.uCas),#[x,y,z],ats⟩,ty,pp,af,g⟩=some true)(U:((b.kind != .early)&&Bh n d)=true)
  (Y:ev M x=some (.pointer (some F.sA))) (Z:ev M y=some (.int .u64 (Fam.word m 0))) (ac:ev M z=some (.int .u64 (Fam.word m 1)))
  (ag:JL (AW P true) (Stop P F .II) b n (Ax M d (.bool true)) ds (.inRegion ops rest::k) cs s)
  (al:JL (AW P true) (Stop P F (.Ge (m - 1))) b n (Ax M d (.bool false)) ds (.inRegion ops rest::k) cs s):
  JL (AW P true) (Stop P F (.Hx m)) b n M ds (.inRegion ops (i::rest)::k) cs s:=by
 refine Hl (vs:= [.pointer (some F.sA),.int .u64 (Fam.word m 0),.int .u64 (Fam.word m 1)]) O hw U H.f_uCas (nm_uCas L) V (by simp [evs,Y,Z,ac]) (Nat.le_of_ble_eq_true V) λam back=>JL.go 8 V (A2 V V V (λρ h=>Yl.fieldAddr H.underlying_tAU V (Gk H.sizeOf_tU64) (h _ _ V)) ?_);refine JL.go 2 V (bm (m:=m) K V V V V (YN H) V V V ?_ ?_)
 ·refine A2 V V V (λρ h=>Yl.assign (h _ _ V)) (JL.done ?_);exact JL.ret V V (Bz.one H.f_uCas V V) (back _ _ _ _ ag)
 ·refine A2 V V V (λρ h=>Yl.assign (h _ _ V)) (JL.done ?_);exact JL.ret V V (Bz.one H.f_uCas V V) (back _ _ _ _ al)
end
theorem Lz{v wt:Nat}(K:v<2147483648)(O:wt<=1):IntKind.u64.wrap (BitVec.ofInt IntKind.u64.bits (Fam.word v wt)&&& BitVec.ofInt IntKind.u64.bits 2147483648).toNat=0:=by
 have:=Go.ConcN.st_flag v wt K O;simpa [bits,Fam.word,Fam.KK] using this
theorem LG{v wt:Nat}(K:v<2147483648)(O:wt<=1):IntKind.u64.wrap (BitVec.ofInt IntKind.u64.bits (Fam.word v wt)&&& BitVec.ofInt IntKind.u64.bits 2147483647).toNat=(wt:Int):=by
 have:=Go.ConcN.st_waiters v wt K O;simpa [bits,Fam.word,Fam.KK] using this
theorem Lk{v wt:Nat}(K:wt<=1):(Fam.word v wt).fdiv (2 ^ (min (32:Int).toNat IntKind.u64.bits))=(v:Int):=by
 have e:(2:Int) ^ (min (32:Int).toNat IntKind.u64.bits)=4294967296:=by decide
 rw [e,Int.fdiv_eq_ediv_of_nonneg _ (by decide)];simp only [Fam.word,Fam.KK];omega
theorem wrap_i32{v:Nat}(K:v<2147483648):IntKind.i32.wrap (v:Int)=v:=by
 simp only [IntKind.wrap,IntKind.bits,IntKind.signed];simp;split <;> omega
theorem wrap_u32{v:Nat}(K:v<=1):IntKind.u32.wrap (v:Int)=v:=by
 simp only [IntKind.wrap,IntKind.bits,IntKind.signed];simp;omega
theorem WH{F:Fam}:∀v wt sm r,F.act .G5 v wt sm=some r->r.1=(v,wt,sm)/\r.2.1= #[Fam.Cc F.sA]:=by
 intro v wt sm r h;simp only [Fam.act] at h;split at h
 ·rename_i hc;obtain⟨rfl,rfl⟩:=hc;cases h;exact⟨V,V⟩
 ·cases h
theorem Yv{F:Fam}{v wt sm:Nat}{r}(h:F.act .G5 v wt sm=some r):v=0/\wt=1/\r.2.2= .ph .Hp:=by
 simp only [Fam.act] at h;split at h
 ·rename_i hc;cases h;exact⟨hc.1,hc.2,V⟩
 ·cases h
section
variable {P:Program}{L:WgLink}(H:WgLib P L){F:Fam}{n:Nat}{M:Env}{ds:Ld_}{k:Li_}{cs:Lf_}{s:St}{b:Frame}
include H
theorem Xm(U:s.q=false)(Y:ops[i]? =some ⟨d,.call ⟨.value (.func L.add),#[x,y],ats⟩,ty,pp,af,g⟩)(hw:AN M ops ⟨d,.call ⟨.value (.func L.add),#[x,y],ats⟩,ty,pp,af,g⟩=some true)(Z:((b.kind != .early)&&Bh n d)=true)
  (ac:ev M x=some (.pointer (some F.sA))) (ag:ev M y=some (.int .i64 (-1)))
  (h:JL (Im P) (I1 P 0) b n (Ax M d (.tuple #[])) ds (.inRegion ops rest::k) cs .quiet):
  JL (AW P false) (Stop P F .H7) b n M ds (.inRegion ops (i::rest)::k) cs s:=by
 refine Hl (vs:= [.pointer (some F.sA),.int .i64 (-1)]) Y hw Z H.f_add (nm_add L) V (by simp [evs,ac,ag]) (Nat.le_of_ble_eq_true V) λam back=>JL.go 11 V (Ml (p:= .H7) (q:= .GJ) (ad:=F.sA) V U (by simp) (λ_ _ _=>V) V V V V V H.underlying_tWgP H.underlying_tUP H.room_tWg V (.inl V) ?_)
 refine Pn (p:= .GJ) (q:= .I2) (mk:= .releaseMerge) (ad:=F.sA) (vs:= [.pointer (some F.sA)]) V U (by simp) (λ_ _ _=>V) V V V V (by simp) (Ro H) V V (JL.go 3 V ?_);refine Mf (p:= .I2) (q:= .Hu) V V (by simp) (λ_ _ _=>V) V V V V V (by simp) (Na H) (JL.go 2 V ?_);refine JL.defer (vs:= []) V V V V V (JL.go 8 V ?_);refine JL.ext (vs:= []) V V V (RF H) V V (JL.go 7 V ?_);refine A2 V V V (λρ h=>Yl.fieldAddr H.underlying_tWg V (Gk H.sizeOf_tAU) (h _ _ V)) (JL.go 1 V ?_);refine A2 V V V (λρ h=>Fw H.underlying_t3 H.underlying_tU64 (h _ _ V)) ?_
 refine A2 (v:= .int .u64 18446744069414584320) V V V (λρ h=>(Yl.shl (h _ _ V) (h _ _ V) (by decide)).to (congrArg _ (by decide))) (Yt H V V V V V ?_ λv wt ap K aq=>?_)
 ·refine A2 V V V (λρ h=>Yl.assign (h _ _ V)) (JL.go 5 V ?_);refine A2 (v:= .int .u64 0) V V V (λρ h=>(Yl.and (h _ _ V) (h _ _ V)).to (congrArg _ (Lz (v:=0) (wt:=1) (by decide) (by decide)))) (A2 V V V (λρ h=>Yl.neq (h _ _ V) (h _ _ V)) ?_);refine JL.go 10 V (A2 (v:= .int .u64 (0:Nat)) V V V (λρ h=>(Yl.shr (h _ _ V) (h _ _ V) (by decide)).to (congrArg _ (Lk (v:=0) (wt:=1) (by decide)))) ?_);refine A2 (v:= .int .i32 (0:Nat)) V V V (λρ h=>(Fw H.underlying_tU64 H.underlying_t21 (h _ _ V)).to (congrArg _ (wrap_i32 (by decide)))) ?_
  refine JL.go 5 V (A2 (v:= .int .u64 (1:Nat)) V V V (λρ h=>(Yl.and (h _ _ V) (h _ _ V)).to (congrArg _ (LG (v:=0) (wt:=1) (by decide) (by decide)))) ?_);refine A2 (v:= .int .u32 (1:Nat)) V V V (λρ h=>(Fw H.underlying_tU64 H.underlying_tU32 (h _ _ V)).to (congrArg _ (wrap_u32 (by decide)))) ?_
  refine JL.go 30 V (A2 V V V (λρ h=>Yl.neq (h _ _ V) (h _ _ V)) ?_);refine JL.go 30 V (A2 V V V (λρ h=>Yl.fieldAddr H.underlying_tWg V (Gk H.sizeOf_tAU) (h _ _ V)) ?_);refine JL.uLoad H (p:= .G5) V V (by simp) V WH V V V V λv wt sm r al=>?_;obtain⟨rfl,rfl,e⟩:=Yv al;refine⟨.Hp,e,?_⟩;refine JL.go 1 V (A2 (v:= .bool false) V V V (λρ h=>(Yl.neq (h _ _ V) (h _ _ V)).to (by simp)) ?_);refine JL.go 7 V (A2 V V V (λρ h=>Yl.fieldAddr H.underlying_tWg V (Gk H.sizeOf_tAU) (h _ _ V)) ?_);refine JL.uStore H V V V V V (JL.go 9 V ?_);refine IQ (JL.go 4 V ?_);refine A2 V V V (λρ h=>Yl.neq (h _ _ V) (h _ _ V)) (JL.go 8 V ?_);refine A2 V V V (λρ h=>Yl.fieldAddr H.underlying_tWg V (Gk H.sizeOf_tU32) (h _ _ V)) (XV (vs:= [.pointer (some F.mA),.bool false,.int .i64 0]) V V V V (WV H) V V ?_);refine JL.go 4 V (A2 (v:= .int .u32 ((0:Nat):Int)) V V V (λρ h=>(Yl.sub (h _ _ V) (h _ _ V)).to (congrArg _ (by decide))) ?_);refine JL.go 2 V (JL.again ?_);refine JL.go 4 V (A2 V V V (λρ h=>Yl.neq (h _ _ V) (h _ _ V)) ?_);refine JL.go 3 V (JL.out V (JO.NR V (Jb H) (JO.leave V (Bz.none H.f_add V) (back _ _ _ _ h))))
 ·refine A2 V V V (λρ h=>Yl.assign (h _ _ V)) (JL.go 5 V ?_);refine A2 (v:= .int .u64 0) V V V (λρ h=>(Yl.and (h _ _ V) (h _ _ V)).to (congrArg _ (Lz (v:=v) (wt:=wt) (by omega) K))) (A2 V V V (λρ h=>Yl.neq (h _ _ V) (h _ _ V)) ?_);refine JL.go 10 V (A2 (v:= .int .u64 (v:Nat)) V V V (λρ h=>(Yl.shr (h _ _ V) (h _ _ V) (by decide)).to (congrArg _ (Lk (v:=v) (wt:=wt) K))) ?_);refine A2 (v:= .int .i32 (v:Nat)) V V V (λρ h=>(Fw H.underlying_tU64 H.underlying_t21 (h _ _ V)).to (congrArg _ (wrap_i32 (by omega)))) ?_
  refine JL.go 5 V (A2 (v:= .int .u64 (wt:Nat)) V V V (λρ h=>(Yl.and (h _ _ V) (h _ _ V)).to (congrArg _ (LG (v:=v) (wt:=wt) (by omega) K))) ?_);refine A2 (v:= .int .u32 (wt:Nat)) V V V (λρ h=>(Fw H.underlying_tU64 H.underlying_tU32 (h _ _ V)).to (congrArg _ (wrap_u32 K))) ?_
  refine JL.go 22 V (A2 (v:= .bool false) V V V (λρ h=>(Yl.lss (h _ _ V) (h _ _ V)).to (by simp)) ?_);refine JL.go 6 V ?_;by_cases O:wt=0
  ·refine A2 V V V (λρ h=>Yl.move (h _ _ V)) (A2 (v:= .bool false) V V V (λρ h=>(Yl.neq (h _ _ V) (h _ _ V)).to (by simp [O])) ?_);refine JL.go 16 V ?_;by_cases av:0<v
   ·refine A2 V V V (λρ h=>Yl.move (h _ _ V)) (A2 (v:= .bool true) V V V (λρ h=>(Yl.gtr (h _ _ V) (h _ _ V)).to (by simp <;> omega)) ?_);refine JL.go 6 V (Ij V (JO.NR V (Jb H) (JO.leave V (Bz.none H.f_add V) (back _ _ _ _ h))))
   ·refine A2 V V V (λρ h=>Yl.move (h _ _ V)) (A2 (v:= .bool false) V V V (λρ h=>(Yl.gtr (h _ _ V) (h _ _ V)).to (by simp <;> omega)) ?_);refine JL.go 2 V (A2 (v:= .bool true) V V V (λρ h=>(Yl.eql (h _ _ V) (h _ _ V)).to (by simp [O])) ?_);refine JL.go 3 V (Ij V (JO.NR V (Jb H) (JO.leave V (Bz.none H.f_add V) (back _ _ _ _ h))))
  ·refine A2 V V V (λρ h=>Yl.move (h _ _ V)) (A2 (v:= .bool true) V V V (λρ h=>(Yl.neq (h _ _ V) (h _ _ V)).to (by simp [O])) ?_);refine JL.go 17 V (A2 (v:= .bool true) V V V (λρ h=>(Yl.gtr (h _ _ V) (h _ _ V)).to (by simp <;> omega)) ?_);refine JL.go 6 V (Ij V (JO.NR V (Jb H) (JO.leave V (Bz.none H.f_add V) (back _ _ _ _ h))))
theorem WW{j:Nat}(K:s.q=false)(O:ops[i]? =some ⟨d,.call ⟨.value (.func L.add),#[x,y],ats⟩,ty,pp,af,g⟩)(hw:AN M ops ⟨d,.call ⟨.value (.func L.add),#[x,y],ats⟩,ty,pp,af,g⟩=some true)(U:((b.kind != .early)&&Bh n d)=true)
  (Y:ev M x=some (.pointer (some F.sA))) (Z:ev M y=some (.int .i64 1))
  (h:JL (AW P true) (Stop P F (.F2 j)) b n (Ax M d (.tuple #[])) ds (.inRegion ops rest::k) cs s):
  JL (AW P true) (Stop P F (.Gt j)) b n M ds (.inRegion ops (i::rest)::k) cs s:=by
 refine Hl (vs:= [.pointer (some F.sA),.int .i64 1]) O hw U H.f_add (nm_add L) V (by simp [evs,Y,Z]) (Nat.le_of_ble_eq_true V) λac back=>JL.go 12 V (Mf (p:= .Gt j) (q:= .IF j) V K (by simp) (λ_ _ _=>V) V V V V V (by simp) (Na H) ?_);refine JL.go 2 V (JL.defer (vs:= []) V V V V V ?_);refine JL.go 8 V (JL.ext (vs:= []) V V V (RF H) V V ?_);refine JL.go 7 V (A2 V V V (λρ h=>Yl.fieldAddr H.underlying_tWg V (Gk H.sizeOf_tAU) (h _ _ V)) ?_);refine JL.go 1 V (A2 V V V (λρ h=>Fw H.underlying_t3 H.underlying_tU64 (h _ _ V)) ?_)
 refine A2 (v:= .int .u64 4294967296) V V V (λρ h=>(Yl.shl (h _ _ V) (h _ _ V) (by decide)).to (congrArg _ (by decide))) (Yb H K V V V V V ?_ λv ag al=>?_)
 ·refine A2 V V V (λρ h=>Yl.assign (h _ _ V)) (JL.go 5 V ?_);refine A2 (v:= .int .u64 0) V V V (λρ h=>(Yl.and (h _ _ V) (h _ _ V)).to (congrArg _ (Lz (v:=1) (wt:=0) (by decide) (by decide)))) (A2 V V V (λρ h=>Yl.neq (h _ _ V) (h _ _ V)) ?_);refine JL.go 10 V (A2 (v:= .int .u64 (1:Nat)) V V V (λρ h=>(Yl.shr (h _ _ V) (h _ _ V) (by decide)).to (congrArg _ (Lk (v:=1) (wt:=0) (by decide)))) ?_);refine A2 (v:= .int .i32 (1:Nat)) V V V (λρ h=>(Fw H.underlying_tU64 H.underlying_t21 (h _ _ V)).to (congrArg _ (wrap_i32 (by decide)))) ?_
  refine JL.go 5 V (A2 (v:= .int .u64 (0:Nat)) V V V (λρ h=>(Yl.and (h _ _ V) (h _ _ V)).to (congrArg _ (LG (v:=1) (wt:=0) (by decide) (by decide)))) ?_);refine A2 (v:= .int .u32 (0:Nat)) V V V (λρ h=>(Fw H.underlying_tU64 H.underlying_tU32 (h _ _ V)).to (congrArg _ (wrap_u32 (by decide)))) ?_
  refine JL.go 12 V (A2 (v:= .int .i32 1) V V V (λρ h=>(Fw H.underlying_t3 H.underlying_t21 (h _ _ V)).to (congrArg _ (by decide))) ?_)
  refine A2 (v:= .bool true) V V V (λρ h=>(Yl.eql (h _ _ V) (h _ _ V)).to (by simp)) (JL.go 6 V ?_);refine A2 V V V (λρ h=>Yl.fieldAddr H.underlying_tWg V (Gk H.sizeOf_tU32) (h _ _ V)) (Ml (p:= .IH j) (q:= .HU j) (ad:=F.mA) V K (by simp) (λ_ _ _=>V) V V V V V H.underlying_tPU32 H.underlying_tUP H.room_tU32 V (.inr V) ?_)
  refine Pn (p:= .HU j) (q:= .Hd j) (mk:= .read) (ad:=F.mA) (vs:= [.pointer (some F.mA)]) V K (by simp) (λ_ _ _=>V) V V V V (by simp) (YG H) V V (JL.go 5 V ?_);refine A2 (v:= .bool false) V V V (λρ h=>(Yl.lss (h _ _ V) (h _ _ V)).to (by simp)) (JL.go 7 V ?_);refine A2 (v:= .bool false) V V V (λρ h=>(Yl.neq (h _ _ V) (h _ _ V)).to (by simp)) (JL.go 17 V ?_);refine A2 (v:= .bool true) V V V (λρ h=>(Yl.gtr (h _ _ V) (h _ _ V)).to (by simp)) (JL.go 6 V ?_);exact Ij V (JO.S6 K V (Jb H) (JO.leave V (Bz.none H.f_add V) (back _ _ _ _ h)))
 ·refine A2 V V V (λρ h=>Yl.assign (h _ _ V)) (JL.go 5 V ?_);refine A2 (v:= .int .u64 0) V V V (λρ h=>(Yl.and (h _ _ V) (h _ _ V)).to (congrArg _ (Lz (v:=(v+1)) (wt:=0) (by omega) (by decide)))) (A2 V V V (λρ h=>Yl.neq (h _ _ V) (h _ _ V)) ?_);refine JL.go 10 V (A2 (v:= .int .u64 ((v+1):Nat)) V V V (λρ h=>(Yl.shr (h _ _ V) (h _ _ V) (by decide)).to (congrArg _ (Lk (v:=(v+1)) (wt:=0) (by decide)))) ?_);refine A2 (v:= .int .i32 ((v+1):Nat)) V V V (λρ h=>(Fw H.underlying_tU64 H.underlying_t21 (h _ _ V)).to (congrArg _ (wrap_i32 (by omega)))) ?_
  refine JL.go 5 V (A2 (v:= .int .u64 (0:Nat)) V V V (λρ h=>(Yl.and (h _ _ V) (h _ _ V)).to (congrArg _ (LG (v:=(v+1)) (wt:=0) (by omega) (by decide)))) ?_);refine A2 (v:= .int .u32 (0:Nat)) V V V (λρ h=>(Fw H.underlying_tU64 H.underlying_tU32 (h _ _ V)).to (congrArg _ (wrap_u32 (by decide)))) ?_
  refine JL.go 12 V (A2 (v:= .int .i32 1) V V V (λρ h=>(Fw H.underlying_t3 H.underlying_t21 (h _ _ V)).to (congrArg _ (by decide))) ?_)
  refine A2 (v:= .bool false) V V V (λρ h=>(Yl.eql (h _ _ V) (h _ _ V)).to (by simp <;> omega)) (JL.go 8 V ?_);refine A2 (v:= .bool false) V V V (λρ h=>(Yl.lss (h _ _ V) (h _ _ V)).to (by simp <;> omega)) (JL.go 7 V ?_);refine A2 (v:= .bool false) V V V (λρ h=>(Yl.neq (h _ _ V) (h _ _ V)).to (by simp)) (JL.go 17 V ?_);refine A2 (v:= .bool true) V V V (λρ h=>(Yl.gtr (h _ _ V) (h _ _ V)).to (by simp <;> omega)) (JL.go 6 V ?_);exact Ij V (JO.S6 K V (Jb H) (JO.leave V (Bz.none H.f_add V) (back _ _ _ _ h)))
omit H in
theorem WY{m:Nat}:∀v wt sm r,F.act (.Ge m) v wt sm=some r->r.1=(v,wt,sm)/\r.2.1= #[Fam.Cc F.sA]:=by
 intro v wt sm r h;simp only [Fam.act] at h;split at h
 ·rename_i hc;obtain⟨_,rfl⟩:=hc;cases h;exact⟨V,V⟩
 ·cases h
omit H in
theorem Ys{m v wt sm:Nat}{r}(h:F.act (.Ge m) v wt sm=some r):v<=m/\wt=0/\r.2.2=if v=0 then .ph .Gh else .ph (.Hx v):=by
 simp only [Fam.act] at h;split at h
 ·rename_i hc;cases h;exact⟨hc.1,hc.2,V⟩
 ·cases h
omit H in
theorem Wn:∀v wt sm r,F.act .Hq v wt sm=some r->r.1=(v,wt,sm)/\r.2.1= #[Fam.Cc F.sA]:=by
 intro v wt sm r h;simp only [Fam.act] at h;split at h
 ·rename_i hc;obtain⟨rfl,rfl⟩:=hc;cases h;exact⟨V,V⟩
 ·cases h
omit H in
theorem W8{v wt sm:Nat}{r}(h:F.act .Hq v wt sm=some r):v=0/\wt=0/\r.2.2= .ph .Gh:=by
 simp only [Fam.act] at h;split at h
 ·rename_i hc;cases h;exact⟨hc.1,hc.2,V⟩
 ·cases h
omit H in
theorem Xe{v:Nat}(K:v<2147483648):IntKind.u64.wrap (Fam.word v 0+1)=Fam.word v 1:=by
 simp only [Fam.word,Fam.KK,IntKind.wrap,IntKind.bits,IntKind.signed];simp;omega
theorem JL.wait(ap:F.n<2147483648)(K:s.q=false)(aq:ops[i]? =some ⟨d,.call ⟨.value (.func L.wait),#[x],ats⟩,ty,pp,af,g⟩)(hw:AN M ops ⟨d,.call ⟨.value (.func L.wait),#[x],ats⟩,ty,pp,af,g⟩=some true)(av:((b.kind != .early)&&Bh n d)=true)
  (aw:ev M x=some (.pointer (some F.sA)))
  {Q:GP} (al:∀g s,(G0 P).ok Q g s->F.fin g s)
  (h:∀E' f,Le s.E E'->E' F.fd=none->(∀b,E' b≠none->s.H b=none)->(∀k,k<F.n->F.msg k (f k) E')->JL (G0 P) Q b n (Ax M d (.tuple #[])) ds (.inRegion ops rest::k) cs ⟨E',F.J1 s.H f,false⟩):
  JL (AW P true) (Stop P F .Dl) b n M ds (.inRegion ops (i::rest)::k) cs s:=by
 refine Hl (vs:= [.pointer (some F.sA)]) aq hw av H.f_wait (nm_wait L) V (by simp [evs,aw]) (Nat.le_of_ble_eq_true V) λa0 back=>JL.go 3 V (Mf (p:= .Dl) (q:= .Ge F.n) V K (by simp) (λ_ _ _=>V) V V V V V (by simp) (Na H) ?_);refine JL.go 2 V (IQ ?_);refine Ff (L':= [(0,.pointer (some F.sA))]) ⟨V,trivial⟩ ?_;generalize F.n=m at ap ⊢
 induction m using Nat.strongRecOn with
 | _ m ay=>?_
 refine JL.go 5 V (A2 V V V (λρ h=>Yl.fieldAddr H.underlying_tWg V (Gk H.sizeOf_tAU) (h _ _ V)) ?_);refine JL.uLoad H (p:= .Ge m) V K (by simp) V WY V V V V λv wt sm r U=>?_;obtain⟨a1,rfl,e⟩:=Ys U;have O:v<2147483648:=by omega
 by_cases am:v=0
 ·subst am;refine⟨.Gh,e,?_⟩;refine JL.go 5 V (A2 (v:= .int .u64 (0:Nat)) V V V (λρ h=>(Yl.shr (h _ _ V) (h _ _ V) (by decide)).to (congrArg _ (Lk (v:=0) (wt:=0) (by decide)))) ?_);refine A2 (v:= .int .i32 (0:Nat)) V V V (λρ h=>(Fw H.underlying_tU64 H.underlying_t21 (h _ _ V)).to (congrArg _ (wrap_i32 (by decide)))) ?_
  refine JL.go 5 V (A2 (v:= .int .u64 ((0:Nat):Int)) V V V (λρ h=>(Yl.and (h _ _ V) (h _ _ V)).to (congrArg _ (LG (v:=0) (wt:=0) (by decide) (by decide)))) ?_);refine A2 (v:= .int .u32 ((0:Nat):Int)) V V V (λρ h=>(Fw H.underlying_tU64 H.underlying_tU32 (h _ _ V)).to (congrArg _ (wrap_u32 (by decide)))) ?_
  refine JL.go 6 V (A2 (v:= .bool true) V V V (λρ h=>(Yl.eql (h _ _ V) (h _ _ V)).to (by simp)) ?_);refine JL.go 6 V (Mf (p:= .Gh) (q:= .IC) V K (by simp) (λ_ _ _=>V) V V V V V (by simp) (Jb H) ?_);refine JL.go 3 V (Ml (p:= .IC) (q:= .Gv) (ad:=F.sA) V K (by simp) (λ_ _ _=>V) V V V V V H.underlying_tWgP H.underlying_tUP H.room_tWg V (.inl V) ?_)
  refine S9 (vs:= [.pointer (some F.sA)]) K V V V V (O6 H) V V λE' Y z1 Z ac ag T az=>al _ _ ?_;revert T;refine(?_:JL (G0 P) Q _ _ _ _ _ _ _);refine JL.go 5 V (A2 (v:= .bool true) V V V (λρ h=>(Yl.eql (h _ _ V) (h _ _ V)).to (by simp)) ?_);refine JL.go 2 V (A2 (v:= .int .u64 0) V V V (λρ h=>(Yl.and (h _ _ V) (h _ _ V)).to (congrArg _ (Lz (v:=0) (wt:=0) (by decide) (by decide)))) ?_);refine A2 (v:= .bool false) V V V (λρ h=>(Yl.neq (h _ _ V) (h _ _ V)).to (by simp)) (JL.go 8 V ?_);exact JL.ret V V (Bz.none H.f_wait V) (back _ _ _ _ (h E' Y z1 Z ac ag))
 ·refine⟨.Hx v,by rw [e,if_neg am],?_⟩;refine JL.go 5 V (A2 (v:= .int .u64 (v:Nat)) V V V (λρ h=>(Yl.shr (h _ _ V) (h _ _ V) (by decide)).to (congrArg _ (Lk (v:=v) (wt:=0) (by decide)))) ?_);refine A2 (v:= .int .i32 (v:Nat)) V V V (λρ h=>(Fw H.underlying_tU64 H.underlying_t21 (h _ _ V)).to (congrArg _ (wrap_i32 O))) ?_
  refine JL.go 5 V (A2 (v:= .int .u64 ((0:Nat):Int)) V V V (λρ h=>(Yl.and (h _ _ V) (h _ _ V)).to (congrArg _ (LG (v:=v) (wt:=0) O (by decide)))) ?_);refine A2 (v:= .int .u32 ((0:Nat):Int)) V V V (λρ h=>(Fw H.underlying_tU64 H.underlying_tU32 (h _ _ V)).to (congrArg _ (wrap_u32 (by decide)))) ?_
  refine JL.go 6 V (A2 (v:= .bool false) V V V (λρ h=>(Yl.eql (h _ _ V) (h _ _ V)).to (by simp <;> omega)) ?_);refine JL.go 7 V (A2 V V V (λρ h=>Yl.fieldAddr H.underlying_tWg V (Gk H.sizeOf_tAU) (h _ _ V)) ?_);refine JL.go 2 V (A2 (v:= .int .u64 (Fam.word v 1)) V V V (λρ h=>(Yl.add (h _ _ V) (h _ _ V)).to (congrArg _ (Xe O))) ?_);refine JL.uCas H (m:=v) K V V V V V V ?_ ?_
  ·refine JL.done (JL.go 6 V ?_);refine A2 (v:= .bool true) V V V (λρ h=>(Yl.eql (h _ _ V) (h _ _ V)).to (by simp)) (JL.go 6 V ?_);refine A2 V V V (λρ h=>Yl.fieldAddr H.underlying_tWg V (Gk H.sizeOf_tU32) (h _ _ V)) (Ml (p:= .II) (q:= .H6) (ad:=F.mA) V K (by simp) (λ_ _ _=>V) V V V V V H.underlying_tPU32 H.underlying_tUP H.room_tU32 V (.inr V) ?_)
   refine Pn (p:= .H6) (q:= .FL) (mk:= .write) (ad:=F.mA) (vs:= [.pointer (some F.mA)]) V K (by simp) (λ_ _ _=>V) V V V V (by simp) (Xv H) V V (JL.go 9 V ?_);refine A2 (v:= .int .u64 0) V V V (λρ h=>(Yl.and (h _ _ V) (h _ _ V)).to (congrArg _ (Lz (v:=v) (wt:=0) O (by decide)))) (A2 (v:= .bool false) V V V (λρ h=>(Yl.neq (h _ _ V) (h _ _ V)).to (by simp)) ?_);refine JL.go 10 V (A2 V V V (λρ h=>Yl.fieldAddr H.underlying_tWg V (Gk H.sizeOf_tU32) (h _ _ V)) ?_);refine JL.go 1 V (Wl (vs:= [.pointer (some F.mA),.bool false]) K V V V V (VT H) V V ?_);refine JL.go 5 V (A2 V V V (λρ h=>Yl.fieldAddr H.underlying_tWg V (Gk H.sizeOf_tAU) (h _ _ V)) ?_);refine JL.uLoad H (p:= .Hq) V K (by simp) V Wn V V V V λv wt sm r U=>?_;obtain⟨rfl,rfl,e⟩:=W8 U;refine⟨.Gh,e,?_⟩;refine A2 (v:= .bool false) V V V (λρ h=>(Yl.neq (h _ _ V) (h _ _ V)).to (by simp [Fam.word])) (JL.go 6 V ?_);refine Mf (p:= .Gh) (q:= .IC) V K (by simp) (λ_ _ _=>V) V V V V V (by simp) (Jb H) (JL.go 3 V ?_);refine Ml (p:= .IC) (q:= .Gv) (ad:=F.sA) V K (by simp) (λ_ _ _=>V) V V V V V H.underlying_tWgP H.underlying_tUP H.room_tWg V (.inl V) ?_
   refine S9 (vs:= [.pointer (some F.sA)]) K V V V V (O6 H) V V λE' Y z1 Z ac ag T az=>al _ _ ?_;revert T;refine(?_:JL (G0 P) Q _ _ _ _ _ _ _);exact JL.go 8 V (JL.ret V V (Bz.none H.f_wait V) (back _ _ _ _ (h E' Y z1 Z ac ag)))
  ·refine JL.done (JL.go 3 V ?_);refine JL.again (Ff (L':= [(0,.pointer (some F.sA))]) ⟨V,trivial⟩ ?_);exact ay (v - 1) (by omega) (by omega)
theorem JO.df(K:b.roundOf=none)(O:s.q=false)(h:JO (Im P) (I1 P 0) b n M ds cs .quiet):
  JO (AW P false) (Stop P F .H7) b n M (dcall L.done #[.pointer (some F.sA)]::ds) cs s:=by
 refine JO.enter (vs:= [.pointer (some F.sA)]) K H.f_done (nm_done L) V (Nat.le_of_ble_eq_true V) λT U todo=>JL.go 2 V (Xm H O V V V V V ?_);exact JL.done (JL.out V (JO.leaveD V H.f_done V (.inl V) (h T U todo)))
end
end Pal
namespace Pal
open Go Go.Conc
variable {P:Program}{J:Judge P}{Q:Gs_}{g:Goroutine}{cs:Lf_}{c:Frame}{E:LH}{S S':List Seg}
section
variable {H:LH}
theorem NQ(K:S.flatten.Perm S'.flatten)(O:Aq E H S)(h:Aq E H S'->J.ok Q g (Aj E H S')):J.ok Q g (Aj E H S):=by
 have U:Aj E H S=Aj E H S':=Fv O K;rw [U];exact h (Nd.perm O K)
theorem P3(K:S'.flatten=S.flatten)(O:Aq E H S)(h:Aq E H S'->J.ok Q g (Aj E H S')):J.ok Q g (Aj E H S):=NQ (by rw [K]) O h
theorem XB{f:FuncId}{vs:Lv_}{seg:Seg}{R:Value->LH->Seg->Prop}(j:Nat)(al:AP J f vs E seg R)(K:Aq E H S)(O:S[j]? =some seg)
  (am:∀v E' seg',Le E E'->R v E' seg'->Aq E' H (S.set j seg')->J.ok Q (G (c.finish v) cs) (Aj E' H (S.set j seg'))):
  J.ok Q (G (Frame.enter P f vs.toArray .normal) (c::cs)) (Aj E H S):=by
 have U:S.flatten.Perm (seg++(S.set j []).flatten):=(Es (seg':=seg) O).1.trans List.perm_append_comm;have Y:Nd E H (seg++(S.set j []).flatten):=Nd.perm K U;have ap:Aj E H S=mk E (Bm (S.set j []).flatten H) seg:=by
  rw [show Aj E H S=mk E H S.flatten from rfl,Fv K U];unfold mk;rw [Ga]
 have Z:=EU.LJ (al (Bm (S.set j []).flatten H) (Nd.front Y)) (by rintro v s' ⟨E',B',_,_,_,rfl⟩;rfl);rw [← ap] at Z;refine Z Q c cs ?_;rintro v a4 ⟨⟨E',B',hle,aq,av,rfl⟩,w,aw⟩;have e2:mk E' (Bm (S.set j []).flatten H) B'=mk E' H (B'++(S.set j []).flatten):=by unfold mk;rw [Ga]
 have ay:Nd E H (S.set j []).flatten:=by
  have:=Y;rw [Nd.iff] at this ⊢;rw [List.map_append,List.nodup_append] at this;exact⟨this.1.2.1,λq az=>this.2 q (List.mem_append_right _ az)⟩
 have a0:Nd E' H (S.set j []).flatten:=ay.grow λx a1=>by
  have a2:=aw.d x a1;have a3:Bm B' (Bm (S.set j []).flatten H) x=none:=a2;exact(Ie a3).1
 have ac:Nd E' H (B'++(S.set j []).flatten):=Nd.glue av a0;rw [e2];have ag:(B'++(S.set j []).flatten).Perm (S.set j B').flatten:=List.perm_append_comm.trans (Es O).2.symm;rw [Fv ac ag];exact am v E' B' hle aq (Nd.perm ac ag)
end
variable {L:Env}{ds:Ld_}{k:Li_}{ops:Ao_}{i:Nat}{rest:List Nat}{d:Option Tmp}{t ty e:TypeId}{p:String}{af:Ae_}
section
variable {b:Frame}{n:Nat}{H:LH}{g:On_}
end
theorem V6{E H:LH}{a b c:Nat}{K O U:Obj}(ac:Aq E H [[(a,K)],[(b,O)],[(c,U)]]):(⟨E,JZ (Aj E H [[(a,K)],[(b,O)],[(c,U)]]).H b a c,false⟩:St)=Aj E H []:=by
 have h:=Nd.iff.1 ac;have ag:H a=none:=(h.2 (a,K) (by simp)).2;have al:H b=none:=(h.2 (b,O) (by simp)).2;have am:H c=none:=(h.2 (c,U) (by simp)).2;unfold Aj mk;congr 1;funext x;simp only [JZ,Aj,mk,List.flatten_cons,List.flatten_nil,List.append_nil,List.cons_append,List.nil_append,Bm];by_cases Y:x=a
 ·subst Y;simp [ag]
 ·by_cases e2:x=b
  ·subst e2;simp [al]
  ·by_cases Z:x=c
   ·subst Z;simp [am]
   ·simp [Y,e2,Z]
theorem GZ{P:Program}{J:Judge P}{Q:Gs_}{b:Frame}{n:Nat}{L:Env}{ds:Ld_}{cs:Lf_}{E H:LH}{S:List Seg}{todo:Li_}{A B:Seg}(j K:Nat)(O:S[j]? =some A)(Z:(S.set j [])[K]? =some B)(ac:Aq E H S)
  (h:Aq E H (((S.set j []).set K []).set j (A++B))->JL J Q b n L ds todo cs (Aj E H (((S.set j []).set K []).set j (A++B)))):JL J Q b n L ds todo cs (Aj E H S):=by
 refine JS.perm ?_ ac h;have U:j<S.length:=(List.getElem?_eq_some_iff.1 O).1;have ag:=(Es (seg':=A) O).1;have al:=(Es (seg':=B) Z).1;have am:((S.set j []).set K [])[j]? =some []:=by
  by_cases e:K=j
  ·subst e;rw [List.getElem?_set_self (by simpa using U)]
  ·rw [List.getElem?_set_ne e,List.getElem?_set_self U]
 have Y:=(Es (seg':=A++B) am).2;have ap:(((S.set j []).set K []).set j [])=(S.set j []).set K []:=by
  by_cases e:K=j
  ·subst e;simp
  ·rw [List.set_comm _ _ e];simp
 rw [ap] at Y;refine ag.trans (List.Perm.trans ?_ Y.symm);refine(List.Perm.append_right A al).trans ?_;rw [List.append_assoc];exact List.Perm.append_left _ List.perm_append_comm
def WL{α:Type}(e:TypeId)(pp:Rp α)(E:LH)(bk c n:Nat)(f:Av_)(xs:List α):Prop:=
 OL e pp E (some ⟨bk,0,none⟩) c [(bk,.cells f e (0,0))] xs/\xs.length=n
theorem WL.Ah{α:Type}{e:TypeId}{pp:Rp α}{E E':LH}{bk c n:Nat}{f:Av_}{xs:List α}(h:WL e pp E bk c n f xs)(hle:Le E E'):WL e pp E' bk c n f xs:=⟨h.1.Ah hle,h.2⟩
theorem WL.at{α:Type}{e:TypeId}{pp:Rp α}{E:LH}{bk c n:Nat}{f:Av_}{xs:List α}{m:Int}{x:α}(h:WL e pp E bk c n f xs)(hm:ix xs m=some x):
  ∃ws,pp.r E ws x/\(∀j w,ws[j]? =some w->f[m.toNat*pp.n+j]? =some w):=by
 obtain⟨ws,K,O,_,_⟩:=OL.again h.1 hm V;exact⟨ws,K,O⟩
theorem WL.put{α:Type}{e:TypeId}{pp:Rp α}{E:LH}{bk c n:Nat}{f:Av_}{xs K:List α}{m:Int}{x0 x':α}{ws':Lv_}(h:WL e pp E bk c n f xs)(O:K.length=n)(hm:ix K m=some x0)(U:pp.r E ws' x'):
  WL e pp E bk c n (Bc f (m.toNat*pp.n) ws') (xs.set m.toNat x')/\m.toNat*pp.n+pp.n<=f.size:=by
 obtain⟨mm,rfl,Y⟩:=Gn hm;have Z:mm<xs.length:=by rw [h.2,← O];exact(List.getElem?_eq_some_iff.1 Y).1
 have ac:ix xs (mm:Int)=some xs[mm]:=by simp [ix,Z]
 obtain⟨ws,am,ap,ag,al⟩:=OL.again h.1 ac V;exact⟨⟨al x' ws' U,by rw [List.length_set];exact h.2⟩,ag⟩
theorem OL.cases{α:Type}{e:TypeId}{pp:Rp α}{E:LH}{a:Option Addr}{c:Nat}{seg:Seg}{xs:List α}(h:OL e pp E a c seg xs):
  (a=none/\c=0/\seg= []/\xs= [])∨∃bk f,a=some ⟨bk,0,none⟩/\seg= [(bk,.cells f e (0,0))]/\WL e pp E bk c xs.length f xs:=by
 have Y:=h;obtain⟨wss,Z,ag,al⟩:=h;rcases Z with⟨K,O,U,ac,am⟩ | ⟨bk,f,K,O,U⟩
 ·exact .inl ⟨K,U,ac,List.length_eq_zero_iff.1 O⟩
 ·subst K O;exact .inr ⟨bk,f,V,V,Y,V⟩
theorem WL.of{α:Type}{e:TypeId}{pp:Rp α}{E:LH}{a:Option Addr}{c:Nat}{seg:Seg}{xs:List α}{m:Int}{x:α}(h:OL e pp E a c seg xs)(hm:ix xs m=some x):
  ∃bk f,(a=some ⟨bk,0,none⟩/\seg= [(bk,.cells f e (0,0))])/\WL e pp E bk c xs.length f xs:=by
 rcases OL.cases h with⟨_,_,_,rfl⟩ | ⟨bk,f,K,O,U⟩
 ·obtain⟨k,_,h⟩:=Gn hm;simp at h
 ·exact⟨bk,f,⟨K,O⟩,U⟩
theorem FG{P:Program}{s:St}{ρ:Operand->Value}{x y:Operand}{d:Option Tmp}{t ty e:TypeId}{p:String}{af:Ae_}{g:On_}{kd:IntKind}{α:Type}{xs:List α}{xv:α}{m:Int}{bk c K n:Nat}(O:xs.length=n)(hm:ix xs m=some xv)(U:P.underlying t=some (.slice e))(Y:Bp P e=some K)(Z:ρ x= .slice (some ⟨bk,0,none⟩) n c)(ac:ρ y= .int kd m):
  Yl P ⟨d,.indexAddr t x y,ty,p,af,g⟩ ρ s (.pointer (some ⟨bk,m.toNat*K,none⟩)):=by
 subst O;exact XJ hm U Y Z ac
theorem PN{P:Program}{s:St}{ρ:Operand->Value}{x:Operand}{d:Option Tmp}{t ty e:TypeId}{p:String}{af:Ae_}{g:On_}{α:Type}{xs:List α}{a:Option Addr}{n c:Nat}{ats:Array TypeId}(K:xs.length=n)(O:ats[0]? =some t)(U:P.underlying t=some (.slice e))(Y:ρ x= .slice a n c):
  Yl P ⟨d,.call ⟨.builtin .len,#[x],ats⟩,ty,p,af,g⟩ ρ s (.int .i64 (xs.length:Int)):=by
 subst K;exact Yl.len O U Y
variable {D:Nat->Bool}{listed:Array Bool}{s:St}{E':LH}
variable {x y:Operand}{u:TypeId}{v:Value}{kd:IntKind}
section
variable {b:Frame}{n:Nat}{m fuel:Nat}{H:LH}
variable {g:On_}
theorem W5{f:FuncId}{args:Array Operand}{ats:Array TypeId}{vs:Lv_}{R:Value->St->Prop}(U:s.q=false)(Y:Region.ready .any ops listed= [i])
  (Z:ops[i]? =some ⟨d,.call ⟨.value x,args,ats⟩,ty,p,af,g⟩) (ac:ev L x=some (.func (.func f) #[] #[])) (ag:Bh n d=true) (hw:AN L ops ⟨d,.call ⟨.value x,args,ats⟩,ty,p,af,g⟩=some true) (hb:DX P f=true) (al:evs L args.toList=some vs)
  (am:EU J f vs.toArray s R) (h:∀v K,R v K->K.q=false/\(∀x o,(Bo D s).E x=some o->(Bo D K).E x=some o)/\AQ J Q b n ds ops k cs m D fuel (A5 listed i) (Ax L d v) K):
  AQ J Q b n ds ops k cs m D (fuel+1) listed L s:=by
 refine AQ.one U Y Z (by simp [Em,ag]) hw λρ O=>?_;have ap:args.map ρ=vs.toArray:=by
  rw [← GD O al];apply Array.ext';simp
 have aq:ρ x= .func (.func f) #[] #[]:=O _ _ ac;simp only [execOp,resolve,bind,Sem.bind,Deferred.ofValue,aq,pure,invoke];have e: #[]++args.map ρ++ #[]=vs.toArray:=by rw [ap];simp
 rw [e];refine Ja hb ?_;rw [Lb];exact⟨R,am,h⟩
theorem JR{bks:List Nat}{f:FuncId}{args:Array Operand}{ats:Array TypeId}{vs:Lv_}{R:Value->LH->Seg->Prop}(am:HS S bks)(ap:AP J f vs E [] R)(aq:Region.ready .any ops listed= [i])
  (av:ops[i]? =some ⟨d,.call ⟨.value x,args,ats⟩,ty,p,af,g⟩) (K:ev L x=some (.func (.func f) #[] #[])) (aw:Bh n d=true) (hw:AN L ops ⟨d,.call ⟨.value x,args,ats⟩,ty,p,af,g⟩=some true) (hb:DX P f=true) (ay:evs L args.toList=some vs) (Z:Aq E H S)
  (az:∀v E' seg',Le E E'->R v E' seg'->Aq E' H (S++ [seg'])->AQ J Q b n ds ops k cs m (AD bks) fuel (A5 listed i) (Ax L d v) (Aj E' H (S++ [seg']))):
  AQ J Q b n ds ops k cs m (AD bks) (fuel+1) listed L (Aj E H S):=by
 have a0:=EU.LJ (ap (Bm S.flatten H) trivial) (by rintro v s' ⟨E',B',_,_,_,rfl⟩;rfl);refine W5 V aq av K aw hw hb ay a0 ?_;rintro v a8 ⟨⟨E',B',hle,a1,a2,rfl⟩,w,a3⟩;have e2:mk E' (Bm S.flatten H) B'=mk E' H (B'++S.flatten):=by unfold mk;rw [Ga]
 have a4:Nd E' H S.flatten:=Nd.grow Z λx K=>by
  have a5:=a3.d x K;have U:Bm B' (Bm S.flatten H) x=none:=a5;exact(Ie U).1
 have ac:Nd E' H (B'++S.flatten):=Nd.glue a2 a4;have ag:(B'++S.flatten).Perm (S++ [B']).flatten:=by rw [Hj];exact List.perm_append_comm
 have al:Aq E' H (S++ [B']):=Nd.perm ac ag;rw [e2,Fv ac ag];refine⟨V,λx o K=>?_,az v E' B' hle a1 al⟩;by_cases hd:AD bks x=true
 ·obtain⟨j,o',Y⟩:=am.mem x (by simpa [AD] using hd);have U:(Aj E H S).get x=some o':=DJ (i:=0) Z Y V;have a6:j<S.length:=(List.getElem?_eq_some_iff.1 Y).1;have a7:(Aj E' H (S++ [B'])).get x=some o':=DJ (i:=0) al (by rw [List.getElem?_append_left a6];exact Y) rfl;have O:(if AD bks x then(Aj E H S).get x else E x)=some o:=K
  show(if AD bks x then(Aj E' H (S++ [B'])).get x else E' x)=some o
  rw [if_pos hd] at O ⊢;rw [a7,← U];exact O
 ·have O:(if AD bks x then(Aj E H S).get x else E x)=some o:=K
  show(if AD bks x then(Aj E' H (S++ [B'])).get x else E' x)=some o
  rw [if_neg hd] at O ⊢;exact hle _ _ O
end
section
variable {b:Frame}{n:Nat}{H:LH}
variable {g:On_}
theorem Lo{f:FuncId}{args:Array Operand}{ats:Array TypeId}{vs:Lv_}{R:Value->LH->Seg->Prop}
  (O:AP J f vs E [] R) (U:ops[i]? =some ⟨d,.call ⟨.value x,args,ats⟩,ty,p,af,g⟩) (Y:ev L x=some (.func (.func f) #[] ([]:Lv_).toArray)) (hw:AN L ops ⟨d,.call ⟨.value x,args,ats⟩,ty,p,af,g⟩=some true) (Z:((b.kind != .early)&&Bh n d)=true) (hb:DX P f=true)
  (ac:evs L args.toList=some vs) (ag:Aq E H S) (al:∀v E' seg',Le E E'->R v E' seg'->Aq E' H (S++ [seg'])->JL J Q b n (Ax L d v) ds (.inRegion ops rest::k) cs (Aj E' H (S++ [seg']))):
  JL J Q b n L ds (.inRegion ops (i::rest)::k) cs (Aj E H S):=by
 have am:Gi J (.func (.func f) #[] ([]:Lv_).toArray) vs E [] R:=Gi.ofFn hb (by rw [List.append_nil];exact O);have ap:Aq E H (S++ [[]]):=by unfold Aq at*;rw [Hj,List.append_nil];exact ag
 have aq:Aj E H S=Aj E H (S++ [[]]):=by unfold Aj;rw [Hj,List.append_nil]
 rw [aq];refine Lj (seg:= []) S.length am U hw Z Y ac ap (by simp) λv E' seg' hle av K=>?_;have aw:(S++ [([]:Seg)]).set S.length seg'=S++ [seg']:=Jk _ _ _ _;rw [aw] at K ⊢;exact al v E' seg' hle av K
end
def LS(a b:Int):Option Int:=if b=0 then none else Ar (a.tdiv b)
def Q0(l:List Nat)(i:Int):Option Nat:=if 0<=i then l[i.toNat]? else none
variable {ρ:Operand->Value}{z:Operand}{kd':IntKind}{m':Int}{a:Nat}
section
variable {g:On_}{m:Int}{b:Nat}
theorem ND{r:Int}(K:ρ x=iV m)(O:ρ y=iV m')(h:LS m m'=some r):Yl P ⟨d,.binOp .quo t x y u,ty,p,af,g⟩ ρ s (iV r):=by
 unfold LS at h;split at h
 ·cases h
 ·rename_i U;obtain⟨rfl,hb⟩:=Lf h;have:=Yl.quo (P:=P) (s:=s) (d:=d) (t:=t) (u:=u) (ty:=ty) (p:=p) (af:=af) (g:=g) K O U
  rwa [JN hb] at this
theorem dZ{a:Nat}:IntKind.u8.wrap (a:Int)=((a % 256:Nat):Int):=by
 simp only [IntKind.wrap,IntKind.bits,IntKind.signed];simp
theorem YT(K:P.underlying t=some (.int .u64))(hu:P.underlying u=some (.int .u8))(O:ρ x= .int .u64 (a:Int)):Yl P ⟨d,.convert t u x,ty,p,af,g⟩ ρ s (.int .u8 ((a % 256:Nat):Int)):=by
 have h:=Fw (P:=P) (s:=s) (d:=d) (ty:=ty) (p:=p) (af:=af) (g:=g) K hu O
 rw [dZ] at h;exact h
theorem Y3{r:Int}(K:P.underlying t=some (.int .u8))(hu:P.underlying u=some (.int .i64))(O:ρ x= .int .u8 (a:Int))(h:Ar ((a:Nat):Int)=some r):Yl P ⟨d,.convert t u x,ty,p,af,g⟩ ρ s (iV r):=by
 obtain⟨rfl,hb⟩:=Lf h;have h:=Fw (P:=P) (s:=s) (d:=d) (ty:=ty) (p:=p) (af:=af) (g:=g) K hu O
 rwa [JN hb] at h
theorem WC{l:List Nat}{bs:ByteArray}{r:Nat}(O:(bs.data.toList.map UInt8.toNat==l)=true)(U:P.underlying t=some .string)(Y:ρ y= .int kd m)(Z:ρ (.const (.string bs))= .string bs)(h:Q0 l m=some r):Yl P ⟨d,.index t (.const (.string bs)) y,ty,p,af,g⟩ ρ s (.int .u8 (r:Int)):=by
 unfold Q0 at h;split at h
 ·rename_i ac;have ag:=eq_of_beq O;rw [← ag,List.getElem?_map] at h;obtain⟨K,hb,rfl⟩:=Option.map_eq_some_iff.1 h;have al:bs[m.toNat]? =some K:=by
   have am:bs.data[m.toNat]? =some K:=by rw [← Array.getElem?_toList];exact hb
   obtain⟨ap,aq⟩:=Array.getElem?_eq_some_iff.1 am;rw [getElem?_pos bs m.toNat ap];exact congrArg some aq
  simp [Yl,execOp,lp,pure,bind,Sem.bind,Z,Y,Instr.index,underlying,program,U,ac,al,asIntOf]
 ·cases h
end
section
variable (J:Judge P)(Q:Gs_)(b:Frame)(ds:Ld_)(ops:Ao_)(k:Li_)(cs:Lf_)(X D D0:Nat->Bool)
def JB:Nat->Array Bool->Av_->St->Prop
 | 0,listed,T,s=>Region.ready .any ops listed= []/\J.ok Q (G (fr b T ds (.inRegion ops []::k)) cs) s
 | fuel+1,listed,T,s=>
  Region.ready .any ops listed≠ []/\s.q=false/\∀i∈Region.ready .any ops listed,∀o,ops[i]? =some o->(∀c,o.op≠ .defer c)/\
   (Region.wanted o (yielded ops T)=false->JB fuel (A5 listed i) (CI T o.dst undef) s)/\
   (Region.wanted o (yielded ops T)=true->X i=true->lp P (execOp (Bu T) o) s (λK s'=>(∀x u,D0 x=true->s.get x=some u->s'.get x=some u)/\match K with
    | .value v=>JB fuel (A5 listed i) (CI T o.dst v) s'
    | .skip=>JB fuel (A5 listed i) (CI T o.dst undef) s'
    | _=>False) (λ_ _=>False))/\
   (Region.wanted o (yielded ops T)=true->X i=false->lp P (execOp (Bu T) o) (Bo D s) (λK s'=>match K with
    | .value v=>JB fuel (A5 listed i) (CI T o.dst v) (Co D s s')
    | .skip=>JB fuel (A5 listed i) (CI T o.dst undef) (Co D s s')
    | _=>False) (λ_ _=>False))
variable {J Q b ds ops k cs X D D0}
theorem X7(Z:b.kind≠ .early):∀(fuel t:Nat) (listed:Array Bool) (T:Av_) (s:St),JB J Q b ds ops k cs X D D0 fuel listed T s->
  J.ok Q (G (fr b T ds (.inRegion ops (Region.linearise.go .any ops fuel t listed [])::k)) cs) s:=by
 intro fuel
 induction fuel with
 | zero=>intro t listed T s h;simpa [Region.linearise.go] using h.2
 | succ fuel O=>
  intro t listed T s h;obtain⟨al,am,h⟩:=h;obtain⟨i,hi⟩:∃i,(Region.ready .any ops listed)[t % (Region.ready .any ops listed).length]? =some i:=by
   have:0<(Region.ready .any ops listed).length:=List.length_pos_iff.2 al;exact⟨_,List.getElem?_eq_getElem (Nat.mod_lt _ this)⟩
  have ac:=List.mem_of_getElem? hi;have hgo:Region.linearise.go .any ops (fuel+1) t listed []=i::Region.linearise.go .any ops fuel (t / (Region.ready .any ops listed).length) (A5 listed i) []:=by
   simp only [Region.linearise.go];change (match(Region.ready .any ops listed)[t % (Region.ready .any ops listed).length]? with
    | some i=>Region.linearise.go .any ops fuel (t / (Region.ready .any ops listed).length) (listed.setIfInBounds i true) [i]
    | none=> [].reverse)=_
   rw [hi];simp only;rw [linearise_go_acc];rfl
  rw [hgo];obtain⟨_,o,U,_⟩:=mem_ready.1 ac;obtain⟨hd,ap,aq,av⟩:=h i ac o U;cases hw:Region.wanted o (yielded ops T) with
  | false=>exact Judge.unwanted U hw (O _ _ _ _ (ap hw))
  | true=>
   cases ag:X i with
   | true=>
    refine Judge.oper U hw Z (.inr hd) (Et _ (aq hw ag) ?_ (λ_ _ h=>h.elim));rintro Y s' ⟨_,K⟩;cases Y with
    | value v=>exact O _ _ _ _ K
    | skip=>exact O _ _ _ _ K
    | _=>exact K.elim
   | false=>
    refine Judge.Tj D U hw Z hd am (Et _ (av hw ag) ?_ (λ_ _ h=>h));intro Y s' K;cases Y with
    | value v=>exact O _ _ _ _ K
    | skip=>exact O _ _ _ _ K
    | _=>exact K.elim
def waitAll(ops:Ao_)(X:Nat->Bool)(i:Nat):Bool:=(List.range ops.size).all λj=> !X j || waits ops ops.size j i
theorem Y4{D:Nat->Bool}{s s':St}(K:s'.E=(Bo D s).E){x:Nat}{o:Obj}(h:s.E x=some o):(Co D s s').E x=some o:=by
 by_cases hd:D x
 ·simp [Co,hd,h]
 ·have:=congrFun K x;simp [Bo,hd] at this;simp [Co,hd,this,h]
theorem YV{D0 D:Nat->Bool}{s:St}(h:∀x,D0 x=true->D x=true):∀x o,(Bo D0 s).E x=some o->(Bo D s).E x=some o:=λx o K=>by
 simp only [Bo] at K ⊢
 split
 ·split at K
  ·exact K
  ·unfold St.get;rw [K]
 ·rename_i hd;rw [if_neg (λe=>hd (h x e))] at K;exact K
theorem cD{D0:Nat->Bool}{s s':St}(h:∀x o,(Bo D0 s).E x=some o->s'.E x=some o):∀x o,s.E x=some o->s'.E x=some o:=λx o K=>h x o (by
 simp only [Bo];split
 ·unfold St.get;rw [K]
 ·exact K)
theorem X2{D0:Nat->Bool}{s s':St}(h:∀x u,D0 x=true->s.get x=some u->s'.get x=some u)(O:s'.E=s.E):∀x o,(Bo D0 s).E x=some o->(Bo D0 s').E x=some o:=λx o K=>by
 simp only [Bo] at K ⊢
 split
 ·rename_i hd;rw [if_pos hd] at K;exact h x o hd K
 ·rename_i hd;rw [if_neg hd] at K;rw [O];exact K
theorem Re{D0 D:Nat->Bool}{s s':St}(h:∀x,D0 x=true->D x=true)(O:s'.E=(Bo D s).E):∀x o,(Bo D0 s).E x=some o->(Bo D0 (Co D s s')).E x=some o:=λx o K=>by
 simp only [Bo] at K ⊢
 split
 ·rename_i hd;rw [if_pos hd] at K
  unfold St.get Co;simp only [h x hd,if_true];exact K
 ·rename_i hd;rw [if_neg hd] at K;exact Y4 O K
theorem SC{i:Nat}{oi:Oper}{w pure:Bool}{v:Value}(bz:∀x,D0 x=true->D x=true)(hi:ops[i]? =some oi)(c4:X i=false)(ce:(pure || waitAll ops X i)=true)(c5:Region.noSelect ops=true)(c6:∀c,oi.op≠ .defer c):
  ∀(fuel:Nat) (listed:Array Bool) (T:Av_) (s:St),IV ops listed i oi=true->HO ops listed=true->listed.size=ops.size->i∈Region.ready .any ops listed->s.q=false->Region.wanted oi (yielded ops T)=w->
   (w=true->∀s',s'.q=false->(∀x o,(Bo D0 s).E x=some o->s'.E x=some o)->(pure=false->∀x o,(Bo D s).E x=some o->s'.E x=some o)->Yl P oi (Bu T) s' v)->
   JB J Q b ds ops k cs X D D0 fuel (A5 listed i) (CI T oi.dst (if w then v else undef)) s->JB J Q b ds ops k cs X D D0 (fuel+1) listed T s:=by
 have av:∀(j:Nat) (al:Oper),ops[j]? =some al->∀cs b,al.op≠Op.select cs b:=λj al h cs b=>Region.noSelect_spec c5 j al cs b h;intro fuel
 induction fuel with
 | zero=>?_
 | succ fuel a2=>?_
 all_goals
  intro listed T s ci co a3 bv a4 hw aw h;refine⟨λe=>(by rw [e] at bv;cases bv),a4,λj cp al U=>?_⟩;by_cases a5:j=i
  ·subst a5;obtain rfl:al=oi:=by rw [hi] at U;exact(Option.some.inj U).symm
   refine⟨c6,λO=>?_,λay K=>?_,λay K=>?_⟩
   ·rw [O] at hw;subst hw;exact h
   ·rw [c4] at K;cases K
   ·rw [ay] at hw;subst hw;refine Et _ (aw V (Bo D s) a4 (YV bz) λ_ _ _ h=>h).out ?_ (λ_ _ h=>h);rintro bw s' ⟨rfl,rfl⟩;rw [Lb];exact h
  ·
   have ct:j∈Region.ready .any ops (A5 listed i):=ready_mono cp a5;obtain⟨az,Y,cw,b0⟩:=mem_ready.1 cp;obtain rfl:Y=al:=by rw [U] at cw;exact(Option.some.inj cw).symm
   have b1:=(mem_ready.1 bv).1;have c7:(Y.after.any λe=>Region.binds .any e&&e.on==i)=false:=by
    rw [Array.any_eq_false];intro e he K;simp only [Bool.and_eq_true,beq_iff_eq] at K;have:=b0 _ (Array.getElem_mem he) K.1;rw [K.2] at this;have a0:listed.getD i true=listed.getD i false∨listed.size<=i:=by
     rcases Nat.lt_or_ge i listed.size with q | q
     ·left;simp [Array.getD_eq_getD_getElem?,q]
     ·exact .inr q
    rcases a0 with a0 | a0
    ·rw [b1,this] at a0;cases a0
    ·rw [Array.getD_eq_getD_getElem?,Array.getElem?_eq_none a0] at this;simp at this
   have c8:oi.apart ops Y=true:=by
    have b2:j<ops.size:=(Array.getElem?_eq_some_iff.1 U).1;have:=List.all_eq_true.1 ci j (List.mem_range.2 b2);simp only [Bool.or_eq_true,beq_iff_eq] at this;rcases this with(q | q) | q
    ·exact absurd q a5
    ·rw [az] at q;cases q
    ·rw [U] at q;simp only [Bool.or_eq_true] at q;rw [c7] at q;exact q.resolve_left (by simp)
   obtain⟨a1,a6,a7⟩:=Oper.apart_spec c8;obtain⟨cy,p2⟩:=Ik (ops:=ops) (T:=T) (v:=if w then v else undef) (av j Y U) a1
   first
    | exact absurd ct (by rw [h.1];simp)
    | (
     obtain⟨eg,_,h⟩:=h
     obtain⟨hd,O,c9,dd⟩:=h j ct Y U
     have a8:A5 (A5 listed i) j=A5 (A5 listed j) i:=by
      unfold A5;exact Array.setIfInBounds_comm _ _ (Ne.symm a5)
     have a9:i∈Region.ready .any ops (A5 listed j):=ready_mono bv (Ne.symm a5)
     have bb:IV ops (A5 listed j) i oi=true:=by
      refine List.all_eq_true.2 λx K=>?_
      have:=List.all_eq_true.1 ci x K
      simp only [Bool.or_eq_true,beq_iff_eq] at this ⊢
      rcases this with(q | q) | q
      ·exact .inl (.inl q)
      ·left;right
       by_cases e:j=x
       ·subst e;rw [az] at q;cases q
       ·rw [A5,getD_set_ne true e];exact q
      ·exact .inr q
     have be:(A5 listed j).size=ops.size:=by unfold A5;simpa using a3
     have bi:HO ops (A5 listed j)=true:=by
      refine List.all_eq_true.2 λx K=>?_
      cases b3:ops[x]? with
      | none=>simp
      | some dn=>
       simp only [Bool.or_eq_true,Bool.not_eq_true']
       by_cases e:j=x
       ·subst e
        obtain rfl:dn=Y:=by rw [U] at b3;exact(Option.some.inj b3).symm
        right
        refine Array.all_eq_true'.2 λe he=>?_
        cases hb:Region.binds .any e with
        | false=>simp
        | true=>
         have:=b0 e he hb
         by_cases e2:j=e.on
         ·rw [← e2] at this
          have b4:j<listed.size:=by rw [a3];exact(Array.getElem?_eq_some_iff.1 U).1
          simp [Array.getD_eq_getD_getElem?,b4] at this az
          rw [az] at this;cases this
         ·rw [A5,getD_set_ne false e2];simpa using this
       ·cases c0:(A5 listed j).getD x false with
        | false=>exact .inl rfl
        | true=>
         right
         have ea:listed.getD x false=true:=by rw [A5,getD_set_ne false e] at c0;exact c0
         refine Array.all_eq_true'.2 λb5 he=>?_
         cases hb:Region.binds .any b5 with
         | false=>simp
         | true=>
          have:=O5 co b3 ea b5 he hb
          by_cases e2:j=b5.on
          ·rw [← e2] at this
           have b4:j<listed.size:=by rw [a3];exact(Array.getElem?_eq_some_iff.1 U).1
           simp [Array.getD_eq_getD_getElem?,b4] at this az
           rw [az] at this;cases this
          ·rw [A5,getD_set_ne false e2];simpa using this
     refine⟨hd,λeb=>?_,λb6 bx=>?_,λb6 bx=>?_⟩
     ·have:=O (by rw [p2];exact eb)
      rw [a8,Jd a6] at this
      obtain⟨Z,ac⟩:=Ik (ops:=ops) (T:=T) (d:=Y.dst) (v:=undef) (o:=oi) (av i oi hi) a7
      exact a2 _ _ _ bb bi be a9 a4 (by rw [ac];exact hw) (λag s' ec O am=>by unfold Yl;rw [Z];exact(aw ag s' ec O am).out) this
     ·
      have ed:pure=true:=by
       cases ee:pure with
       | true=>rfl
       | false=>
        exfalso
        rw [ee,Bool.false_or] at ce
        have b2:j<ops.size:=(Array.getElem?_eq_some_iff.1 U).1
        have ay:=List.all_eq_true.1 ce j (List.mem_range.2 b2)
        rw [bx] at ay
        simp only [Bool.not_true,Bool.false_or] at ay
        rcases Rs co _ j Y U (λe he hb=>b0 e he hb) ay with q | ⟨x,Z,ac⟩
        ·have ef:i<listed.size:=by rw [a3];exact(Array.getElem?_eq_some_iff.1 hi).1
         simp [Array.getD_eq_getD_getElem?,ef] at q b1
         rw [b1] at q;cases q
        ·have:¬x<listed.size:=by rw [a3];intro K;simp [K] at Z
         simp [Array.getD_eq_getD_getElem?,this] at ac
      have bn:=OF _ (c9 (by rw [p2];exact b6) bx)
      rw [cy] at bn
      refine Et _ bn ?_ (λ_ _ h=>h)
      rintro bw s' ⟨⟨ca,K⟩,am,cc⟩
      have c1:=X2 ca am
      have bo:s'.q=false:=cc.trans a4
      have c2:pure=false->∀{α:Prop},α:=λe=>by rw [ed] at e;cases e
      cases bw with
      | value u=>
       simp only at K ⊢
       rw [a8,Jd a6] at K
       obtain⟨Z,ac⟩:=Ik (ops:=ops) (T:=T) (d:=Y.dst) (v:=u) (o:=oi) (av i oi hi) a7
       exact⟨ca,a2 _ _ _ bb bi be a9 bo (by rw [ac];exact hw) (λag s2 ap O aq=>by unfold Yl;rw [Z];exact(aw ag s2 ap (λx o h=>O x o (c1 x o h)) (λe=>c2 e)).out) K⟩
      | skip=>
       simp only at K ⊢
       rw [a8,Jd a6] at K
       obtain⟨Z,ac⟩:=Ik (ops:=ops) (T:=T) (d:=Y.dst) (v:=undef) (o:=oi) (av i oi hi) a7
       exact⟨ca,a2 _ _ _ bb bi be a9 bo (by rw [ac];exact hw) (λag s2 ap O aq=>by unfold Yl;rw [Z];exact(aw ag s2 ap (λx o h=>O x o (c1 x o h)) (λe=>c2 e)).out) K⟩
      | _=>exact K.elim
     ·have bn:=OF _ (dd (by rw [p2];exact b6) bx)
      rw [cy] at bn
      refine Et _ bn ?_ (λ_ _ h=>h)
      rintro bw s' ⟨K,am,cc⟩
      have c3:=Ry (D:=D) am
      have bo:(Co D s s').q=false:=by show s'.q=false;rw [cc];exact a4
      cases bw with
      | value u=>
       simp only at K ⊢
       rw [a8,Jd a6] at K
       obtain⟨Z,ac⟩:=Ik (ops:=ops) (T:=T) (d:=Y.dst) (v:=u) (o:=oi) (av i oi hi) a7
       exact a2 _ _ _ bb bi be a9 bo (by rw [ac];exact hw) (λag s2 ap O aq=>by unfold Yl;rw [Z];exact(aw ag s2 ap (λx o h=>O x o (Re bz am x o h)) (λe=>by rw [c3] at aq;exact aq e)).out) K
      | skip=>
       simp only at K ⊢
       rw [a8,Jd a6] at K
       obtain⟨Z,ac⟩:=Ik (ops:=ops) (T:=T) (d:=Y.dst) (v:=undef) (o:=oi) (av i oi hi) a7
       exact a2 _ _ _ bb bi be a9 bo (by rw [ac];exact hw) (λag s2 ap O aq=>by unfold Yl;rw [Z];exact(aw ag s2 ap (λx o h=>O x o (Re bz am x o h)) (λe=>by rw [c3] at aq;exact aq e)).out) K
      | _=>exact K.elim)
end
section
variable (J:Judge P)(Q:Gs_)(b:Frame)(n:Nat)(ds:Ld_)(ops:Ao_)(k:Li_)(cs:Lf_)(X D D0:Nat->Bool)
def FC(fuel:Nat)(listed:Array Bool)(L:Env)(s:St):Prop:=∀T,Has n L T->JB J Q b ds ops k cs X D D0 fuel listed T s
end
theorem JB.take{i:Nat}{oi:Oper}{w pure:Bool}{v:Value}{P:Program}{J:Judge P}{Q:Gs_}{b:Frame}{ds:Ld_}{ops:Ao_}{k:Li_}{cs:Lf_}{X D D0:Nat->Bool}(K:∀x,D0 x=true->D x=true)(hi:ops[i]? =some oi)(O:X i=false)(U:(pure || waitAll ops X i)=true)(Y:Region.noSelect ops=true)(Z:∀c,oi.op≠ .defer c)
  (fuel:Nat) (listed:Array Bool) (T:Av_) (s:St) (ac:IV ops listed i oi=true) (ag:HO ops listed=true) (al:listed.size=ops.size) (am:i∈Region.ready .any ops listed) (ap:s.q=false) (aq:Region.wanted oi (yielded ops T)=w)
  (av:w=true->∀s',s'.q=false->(pure=false->∀x o,(Bo D s).E x=some o->s'.E x=some o)->Yl P oi (Bu T) s' v)
  (h:JB J Q b ds ops k cs X D D0 fuel (A5 listed i) (CI T oi.dst (if w then v else undef)) s):JB J Q b ds ops k cs X D D0 (fuel+1) listed T s:=
 SC K hi O U Y Z fuel listed T s ac ag al am ap aq (λe s' aw _ ay=>av e s' aw ay) h
def Jy(ops:Ao_)(listed:Array Bool)(xs:List Nat)(pure:Bool)(i:Nat):Bool:=match ops[i]? with
 | some oi=> !AD xs i&&(pure || waitAll ops (AD xs) i)&&Region.noSelect ops&& !Em oi.op&&IV ops listed i oi&&HO ops listed&&listed.size==ops.size&&(Region.ready .any ops listed).contains i
 | none=>false
variable {X:Nat->Bool}{l0:List Nat}{xl bks:List Nat}
section
variable {b:Frame}{n:Nat}{fuel:Nat}{H:LH}
variable {g:On_}
theorem HM(xl bks l0:List Nat){id:Nat}(hm:P.follows .mixedOrders=true)(K:(b.kind != .early)=true)
  (h:FC J Q b n ds ops k cs (AD xl) (AD (l0++bks)) (AD l0) ops.size (Array.replicate ops.size false) L (Aj E H S)):JL J Q b n L ds (.code (.region id ops true)::k) cs (Aj E H S):=
 TU V hm λt T O=>X7 (by simpa using K) ops.size t _ T _ (h T O)
theorem Uk:∀x,AD l0 x=true->AD (l0++bks) x=true:=λx h=>by
 simp only [AD,List.contains_iff_mem,List.mem_append] at h ⊢;exact .inl h
theorem JB.val{oi:Oper}(i:Nat)(pure:Bool)(hi:ops[i]? =some oi)(hc:Jy ops listed xl pure i=true)(U:s.q=false)
  (hw:AN L ops oi=some true) (Y:Bh n oi.dst=true) (Z:∀ρ,EO L ρ->∀s':St,(pure=false->∀x o,(Bo (AD (l0++bks)) s).E x=some o->s'.E x=some o)->Yl P oi ρ s' v)
  (h:FC J Q b n ds ops k cs (AD xl) (AD (l0++bks)) (AD l0) fuel (A5 listed i) (Ax L oi.dst v) s):FC J Q b n ds ops k cs (AD xl) (AD (l0++bks)) (AD l0) (fuel+1) listed L s:=λT K=>by
 simp only [Jy,hi,Bool.and_eq_true] at hc
 obtain⟨⟨⟨⟨⟨⟨⟨ac,ag⟩,al⟩,O⟩,am⟩,ap⟩,aq⟩,av⟩:=hc
 refine JB.take (w:=true) (v:=v) (pure:=pure) Uk hi (by simpa using ac) ag al (λc hc=>by rw [hc] at O;simp [Em] at O) fuel listed T s am ap (by simpa using aq) (by simpa using av) U (B7 K hw) (λ_ s' ay aw=>Z _ K.Gc s' aw) ?_
 exact h _ (K.put Y v)
theorem ZK{oi:Oper}(i:Nat)(hi:ops[i]? =some oi)(hc:Jy ops listed xl true i=true)(U:s.q=false)
  (hw:AN L ops oi=some true) (Y:Bh n oi.dst=true) (Z:∀ρ,EO L ρ->∀s':St,(∀x o,(Bo (AD l0) s).E x=some o->s'.E x=some o)->Yl P oi ρ s' v)
  (h:FC J Q b n ds ops k cs (AD xl) (AD (l0++bks)) (AD l0) fuel (A5 listed i) (Ax L oi.dst v) s):FC J Q b n ds ops k cs (AD xl) (AD (l0++bks)) (AD l0) (fuel+1) listed L s:=λT K=>by
 simp only [Jy,hi,Bool.and_eq_true] at hc
 obtain⟨⟨⟨⟨⟨⟨⟨ac,ag⟩,al⟩,O⟩,am⟩,ap⟩,aq⟩,av⟩:=hc
 refine SC (w:=true) (v:=v) (pure:=true) Uk hi (by simpa using ac) ag al (λc hc=>by rw [hc] at O;simp [Em] at O) fuel listed T s am ap (by simpa using aq) (by simpa using av) U (B7 K hw) (λ_ s' ay aw _=>Z _ K.Gc s' aw) ?_
 exact h _ (K.put Y v)
theorem Lr{oi:Oper}(i:Nat)(hi:ops[i]? =some oi)(hc:Jy ops listed xl true i=true)(K:s.q=false)
  (hw:AN L ops oi=some true) (O:Bh n oi.dst=true) (U:∀ρ,EO L ρ->∀s':St,(∀x o,s.E x=some o->s'.E x=some o)->Yl P oi ρ s' v)
  (h:FC J Q b n ds ops k cs (AD xl) (AD (l0++bks)) (AD l0) fuel (A5 listed i) (Ax L oi.dst v) s):FC J Q b n ds ops k cs (AD xl) (AD (l0++bks)) (AD l0) (fuel+1) listed L s:=
 ZK i hi hc K hw O (λρ Y s' Z=>U ρ Y s' (cD Z)) h
theorem JB.fin{l0:List Nat}(K:Region.ready .any ops listed= [])(h:JL J Q b n L ds k cs s):FC J Q b n ds ops k cs X D (AD l0) 0 listed L s:=λT O=>⟨K,JL.done h T O⟩
def MI(S:List Seg)(j:Nat):List Nat->Prop
 | []=>True
 | bk::l=>(∃(i:Nat) (o:Obj),(i==j)=false/\S[i]? =some [(bk,o)])/\MI S j l
theorem MI.mem{S:List Seg}{j:Nat}:∀{l:List Nat},MI S j l->∀bk∈l,∃(i:Nat) (o:Obj),i≠j/\S[i]? =some [(bk,o)]
 | [],_,_,h=>by cases h
 | b::l,⟨⟨i,o,hi,h⟩,K⟩,bk,hb=>by
  rcases List.mem_cons.1 hb with rfl | hb
  ·exact⟨i,o,by simpa using hi,h⟩
  ·exact K.mem bk hb
theorem JB.store{bk off:Nat}{c:Av_}(i j:Nat)(Y:Region.ready .any ops listed= [i])(av:AD xl i=true)(aw:ops[i]? =some ⟨d,.store t x y,ty,p,af,g⟩)(hw:AN L ops ⟨d,.store t x y,ty,p,af,g⟩=some true)(ay:Bh n d=true)(Z:Aq E H S)
  (O:ev L x=some (.pointer (some ⟨bk,off,none⟩))) (az:ev L y=some v) (a0:Bp P t=some v.cells.size) (a1:∀u∈v.cells.toList,Dj u=true) (ac:S[j]? =some [(bk,.cells c e (0,0))]) (a2:MI S j l0) (hle:off+v.cells.size<=c.size)
  (h:Aq E H (S.set j [(bk,.cells (Bc c off v.cells.toList) e (0,0))])->FC J Q b n ds ops k cs (AD xl) (AD (l0++bks)) (AD l0) fuel (A5 listed i) (Ax L d undef) (Aj E H (S.set j [(bk,.cells (Bc c off v.cells.toList) e (0,0))]))):
  FC J Q b n ds ops k cs (AD xl) (AD (l0++bks)) (AD l0) (fuel+1) listed L (Aj E H S):=λT K=>by
 refine⟨by rw [Y];simp,rfl,λbb U o' ag=>?_⟩
 rw [Y] at U
 simp at U
 subst U
 obtain rfl:o'=⟨d,.store t x y,ty,p,af,g⟩:=by rw [aw] at ag;exact(Option.some.inj ag).symm
 have a3:=B7 K hw;refine⟨λc hc=>(by cases hc),λe=>?_,λ_ _=>?_,λ_ e=>?_⟩
 ·rw [a3] at e;cases e
 ·obtain⟨al,a4⟩:=Hm Z ac;rw [al];show lp P (do Instr.storeAt t (Bu T x) (Bu T y);pure Next.skip) _ _ _
  rw [K.ev O,K.ev az];refine Aw _ _ ?_;unfold Instr.storeAt;simp only [Instr.sureAddr,bind,Sem.bind,pure];refine Rw (pl:=(S.set j []).flatten.length) a0 a1 a4 (c:=c) (e:=e) (by simp) hle λam=>?_;have a5:((S.set j []).flatten++ [(bk,Obj.cells c e (0,0))]).set (S.set j []).flatten.length (bk,.cells (Bc c off v.cells.toList) e (0,0))=(S.set j []).flatten++ [(bk,.cells (Bc c off v.cells.toList) e (0,0))]:=Jk _ _ _ _;rw [a5] at am ⊢;obtain⟨a6,ap⟩:=Jo ac am;rw [a6];refine⟨λx u O a7=>?_,h ap _ (K.put ay undef)⟩;obtain⟨be,o',a8,aq⟩:=a2.mem x (by simpa [AD] using O);have a9:(Aj E H S).get x=some o':=DJ (i:=0) Z aq rfl;have g2:(Aj E H (S.set j [(bk,.cells (Bc c off v.cells.toList) e (0,0))])).get x=some o':=DJ (i:=0) ap (by rw [List.getElem?_set_ne (Ne.symm a8)];exact aq) rfl;have g0:(Aj E H S).get x=some u:=by rw [al];exact a7
  rw [a9] at g0;rw [g2];exact g0
 ·rw [av] at e;cases e
end
theorem Nm{E H:LH}{S:List Seg}{bks:List Nat}{bk o:Nat}{l ws:Lv_}{e:TypeId}{f:Nat×Nat}{s':St}{w:Value}(j:Nat)(K:Aq E H S)(O:S[j]? =some [(bk,.cells (l++ws).toArray e f)])(U:AD bks bk=true)(Y:∀x o,(Bo (AD bks) (Aj E H S)).E x=some o->s'.E x=some o)(Z:ws[o]? =some w):s'.cell? ⟨bk,l.length+o,none⟩=some w:=by
 have:=YK j K O U Y o w Z
 rwa [Ef rfl] at this
variable {B:List (Nat×Obj)}
section
variable {H:LH}
theorem Rf{ats:Array TypeId}{a:Option Addr}{l K O m cx:Nat}{ax:Option Addr}{xs ys:Lv_}{z:Value}{Q:Value->St->Prop}{X:Halt->St->Prop}
  (a0:ats[0]? =some t) {t1 a1:TypeId} (a2:ats[1]? =some t1) (a3:P.underlying t1=some (.slice a1)) (a4:P.underlying t=some (.slice e)) (a5:Bp P e=some K) (hb:FY P e=some O) (a6:zeroOf P e=some z) (a7:z.cells.size=K)
  (a8:Nd E H B) (al:HV (mk E H B) (.slice a l l) K xs)
  (Z:HV (mk E H B) (.slice ax m cx) K ys) (bx:∀w∈ys,Dj w=true) (bz:0<O) (b0:l+m<=2 ^ 40) (a9:O<=64)
  (ay:m=0->Q (.slice a (l+m) l) (mk E H B))
  (bb:∀r ac am,l+m<=am->ac.size=am*K->ac.toList.take ((l+m)*K)=xs++ys->Nd E H (B++ [(r,.cells ac e (0,0))])->Q (.slice (some ⟨r,0,none⟩) (l+m) am) (mk E H (B++ [(r,.cells ac e (0,0))]))):
  lp P (Builtin.append_ ats ty #[.slice a l l,.slice ax m cx]) (mk E H B) Q X:=by
 unfold Builtin.append_;simp only [a0,a2,List.getElem?_toArray,List.getElem?_cons_zero,List.getElem?_cons_succ];refine Aw _ _ (Cn a4 ?_);refine Aw _ _ (EY a5 ?_);refine Aw _ _ (Cn a3 ?_);simp only [Ig,Bool.false_eq_true,if_false,Builtin.lenOf,Bool.not_false,if_true];have ag:ys.length=m*K:=by
  cases ax with
  | none=>obtain⟨U,Y⟩:=Z;subst U Y;simp
  | some ad=>exact Z.2.1
 have ap:xs.length=l*K:=by
  cases a with
  | none=>obtain⟨U,Y⟩:=al;subst U Y;simp
  | some ad=>exact al.2.1
 obtain⟨c,hc⟩:∃c,c=l:=⟨_,V⟩;split
 ·rename_i b1;have hm:m=0:=by omega
  have be:ys= []:=List.eq_nil_of_length_eq_zero (by rw [ag,hm];simp);refine Aw _ _ (Kt ⟨ax,cx,V⟩ Z ?_);subst be;cases a with
  | none=>exact ay hm
  | some ad=>exact ay hm
 ·rename_i b2;have U:¬(((l+m:Nat):Int)>IntKind.i64.max/\(False∨O=0)):=by rintro⟨_,h | h⟩ <;> omega
  have Y:¬(Builtin.nextslicecap (l+m) l*O>2 ^ 48):=by
   have:=RD (need:=l+m) (old:=l) (by omega);have b3:Builtin.nextslicecap (l+m) l*O<=(2*(l+m)+768)*64:=Nat.mul_le_mul this a9;omega
  obtain⟨inf,aq,av⟩:=Pl hb;refine Aw _ _ (Kv aq ?_);rw [av,if_neg U];refine Aw _ _ (Kv aq ?_);rw [av,if_neg Y];refine Aw _ _ ?_;simp only [choose,lp,Question.forced,Bool.false_eq_true,if_false];refine⟨V,λbi=>?_⟩;generalize bn:(Question.appendCap (l+m) l e).cut bi=aw;have bo:l+m<=aw:=by rw [← bn];simp [Question.cut]
  refine Aw _ _ (Kv aq ?_);rw [av];have bv:∀{α:Type} {f:Unit->Sem α} {Q:α->St->Prop},lp P (f ()) (mk E H B) Q X->lp P (askRoom (aw*O)>>=f) (mk E H B) Q X:=by
   intro α f Q az;refine Aw _ _ ?_;unfold askRoom;split
   ·exact⟨.inl ⟨V,V⟩,az⟩
   ·exact az
  refine bv (Aw _ _ (Kt ⟨a,l,V⟩ al ?_));refine Aw _ _ (Kt ⟨ax,cx,V⟩ Z ?_);refine Aw _ _ (HI a6 ?_);refine Aw _ _ (Jc a8 λr bw=>?_);refine bb r _ aw bo ?_ ?_ bw
  ·simp only [Array.size_append,List.size_toArray,Rc,a7,ap,ag];rw [← Nat.add_mul,← Nat.add_mul];congr 1;omega
  ·simp only [Array.toList_append];rw [List.take_append_of_le_length (by simp [ap,ag,Nat.add_mul])];rw [List.take_of_length_le (by simp [ap,ag,Nat.add_mul])]
end
theorem An.spot{α:Type}{pp:Rp α}{E:LH}{a:Option Addr}{c:Nat}{xs:List α}(h:An pp E a c xs):∀ad,a=some ad->ad.spot=none∨c=0:=λad K=>by
 rcases h.2 with⟨_,h⟩ | ⟨bk,off,h,_⟩
 ·exact h ad K
 ·rw [h] at K;cases K;exact .inl rfl
theorem An.full{α:Type}{pp:Rp α}{E:LH}{a:Option Addr}{c:Nat}{xs:List α}(h:An pp E a c xs):An pp E a xs.length xs:=⟨Nat.le_refl _,h.2.imp (λ⟨h,_⟩=>⟨h,λ_ _=> .inr (by rw [h];rfl)⟩) id⟩
theorem An.Mj{α:Type}{pp:Rp α}{E H:LH}{B:List (Nat×Obj)}{a:Option Addr}{c:Nat}{ys:List α}(ac:An pp E a c ys):
  ∃K:List (Lv_),K.length=ys.length/\(∀(i:Nat) x ws,ys[i]? =some x->K[i]? =some ws->pp.r E ws x)/\HV (mk E H B) (.slice a ys.length c) pp.n K.flatten/\∀w∈K.flatten,Dj w=true:=by
 obtain⟨K,U,Z,Y⟩:=ac.rows;have ag:=Ip U Z;refine⟨K,U,Z,?_,λw hw=>?_⟩
 ·rcases Y with⟨Y,aw⟩ | ⟨bk,off,rfl,Y⟩
  ·subst Y;have:K= []:=List.eq_nil_of_length_eq_zero U;subst this;cases a with
   | none=>exact⟨rfl,rfl⟩
   | some ad=>exact⟨.inr rfl,by simp,Nat.zero_le _,λq w O=>by simp at O⟩
  ·refine⟨.inl V,by rw [L8 ag,U],ac.1,λq w O=>?_⟩;obtain⟨al,m,ws,am,e2,ap⟩:=O9 ag O;have:=(Y al ws am).cell (H:=H) (B:=B) e2;subst ap;rw [← Nat.add_assoc];exact this
 ·obtain⟨us,aq,hw⟩:=List.mem_flatten.1 hw;obtain⟨q,O⟩:=List.mem_iff_getElem?.1 aq;have av:q<ys.length:=by rw [← U];exact(List.getElem?_eq_some_iff.1 O).1
  exact pp.one (Z q _ us (List.getElem?_eq_getElem av) O) w hw
variable {z1:Operand}
section
variable {b:Frame}{n:Nat}{H:LH}
variable {g:On_}
theorem RI{a:Option Addr}{l c K:Nat}(O:∀ad,a=some ad->ad.spot=none∨c=0)(U:l<=c)(Y:P.underlying t=some (.slice e))(Z:Bp P e=some K)(ac:ρ x= .slice a l c)(ag:ρ y=iV (l:Int))(al:ρ z1=iV (l:Int)):
  Yl P ⟨d,.slice t x none (some y) (some z1),ty,p,af,g⟩ ρ s (.slice a l l):=by
 have h:=Yl.slice (P:=P) (s:=s) (d:=d) (ty:=ty) (p:=p) (af:=af) (g:=g) (olo:=none) (ohi:=some y) (omx:=some z1) (lo:=0) (hi:=l) (mx:=l) Y Z ac al ag V U (Nat.le_refl _) (Nat.zero_le _);have am:(if l=0 then a else a.map (·.add (0*K)))=a:=by
  split
  ·rfl
  ·cases a with
   | none=>rfl
   | some ad=>
    have:=(O ad rfl).resolve_right (by omega);simp only [Option.map_some,Nat.zero_mul];rw [Ef this];obtain⟨b,o,sp⟩:=ad;simp only at this;subst this;simp
 rw [am] at h;simpa using h
theorem Wu{α:Type}{pp:Rp α}{t1:TypeId}{Y c cx:Nat}{a ax:Option Addr}{xs ys Z:List α}{ats:Array TypeId}{z:Value}(U:DD xs ys=some Z)
  (aw:ops[i]? =some ⟨d,.call ⟨.builtin .append,#[x,y],ats⟩,ty,p,af,g⟩) (hw:AN L ops ⟨d,.call ⟨.builtin .append,#[x,y],ats⟩,ty,p,af,g⟩=some true) (ay:BM b n ⟨d,.call ⟨.builtin .append,#[x,y],ats⟩,ty,p,af,g⟩=true)
  (az:ev L x=some (.slice a xs.length xs.length)) (a0:ev L y=some (.slice ax ys.length cx)) (a1:ats[0]? =some t) (a2:ats[1]? =some t1) (a3:P.underlying t=some (.slice e)) (a4:P.underlying t1=some (.slice e)) (a5:Bp P e=some pp.n) (hb:FY P e=some Y) (a6:zeroOf P e=some z) (a7:z.cells.size=pp.n)
  (a8:0<Y) (a9:Y<=64) (ac:An pp E a c xs) (bb:An pp E ax cx ys) (ag:Aq E H S)
  (h:∀E' al K,Le E E'->An pp E' al K Z->Aq E' H (S++ [[]])->JL J Q b n (Ax L d (.slice al Z.length K)) ds (.inRegion ops rest::k) cs (Aj E' H (S++ [[]]))):
  JL J Q b n L ds (.inRegion ops (i::rest)::k) cs (Aj E H S):=by
 unfold DD at U;split at U
 rotate_left
 ·cases U
 rename_i be;cases U;obtain⟨wss,am,bi,bn,ci⟩:=An.Mj (H:=H) (B:=S.flatten) ac.full;obtain⟨bo,bv,bw,bx,bz⟩:=An.Mj (H:=H) (B:=S.flatten) bb;have hlen:(xs++ys).length=xs.length+ys.length:=by simp
 show JL J Q b n L ds (.inRegion ops (i::rest)::k) cs (mk E H S.flatten);refine JL.op aw hw ay λρ ap=>?_;rw [L5,ap x _ az,ap y _ a0];refine Aw _ _ (Rf a1 a2 a4 a3 a5 hb a6 a7 ag bn bx bz a8 be a9 ?_ ?_)
 ·intro hm;have b0:ys= []:=List.eq_nil_of_length_eq_zero hm;subst b0;have b1:Aq E H (S++ [[]]):=by unfold Aq at*;rw [Hj,List.append_nil];exact ag
  have b2:mk E H S.flatten=Aj E H (S++ [[]]):=by unfold Aj;rw [Hj,List.append_nil]
  rw [b2];have:=h E a xs.length (Le.refl _) (by rw [List.append_nil];exact ac.full) b1;rw [hlen] at this;exact this
 ·intro r O K b3 b4 b5 b6;have ca:OL e pp E (some ⟨r,0,none⟩) K [(r,.cells O e (0,0))] (xs++ys):=
   ⟨wss++bo,.inr ⟨r,O,rfl,rfl,b4,by rw [hlen];exact b3,by rw [hlen,List.flatten_append];exact b5.symm⟩,by simp [am,bv],Nb am bi bw⟩
  have aq:=FV (S:=S) (seg:= [(r,.cells O e (0,0))]) b6;show JL J Q b n _ ds _ cs (mk E H (S.flatten++ [(r,.cells O e (0,0))]));rw [aq.1];refine BW S.length ca aq.2 (by simp) λE' hle cc av=>?_;have ce:(S++ [[(r,Obj.cells O e (0,0))]]).set S.length []=S++ [[]]:=Jk _ _ _ _;rw [ce] at av ⊢;have:=h E' (some ⟨r,0,none⟩) K hle cc av;rw [hlen] at this;exact this
end
end Pal
