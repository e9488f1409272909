/- DebtKnown states that the examples of the chapter have the results given there.: a part (2 of 9) of the proof of its row. -/
import Derived.Test.YtmeophcclkejkaaGreatDoorKna
import Derived.Conc.WgLib
import Derived.Conc.WgArith
import Derived.Conc.WgGenW
set_option linter.all false
set_option maxRecDepth 100000
namespace Pal
open Go Go.Conc
open Go.ConcN (upd upd_same upd_ne sumTo sumTo_upd sumTo_upd_out sumTo_congr le_sumTo sumTo_le)
def cU:Nx->Nat
 | .ph (.G2 _) | .ph .HK | .ph .Gm | .ph .IF | .ph .Ha | .ph (.lk _ _)=>1
 | _=>0
def cL:Nx->Nat
 | .ph .GD | .ph .GZ=>1
 | _=>0
def cS:Nx->Nat
 | .ph .Fc=>1
 | _=>0
def pend:Nx->Nat
 | .ph (.Im _) | .ph (.HE _) | .ph (.GM _) | .ph (.FG _)=>1
 | _=>0
def got:Nx->List Nat
 | .ph (.FA K _)=>K
 | _=> []
def Nq:Nx->Prop
 | .gone _=>True
 | _=>False
def Ht(n j:Nat)(c:Bool):Ph->Prop
 | .F3 K | .Ik K | .Im K | .HE K | .GM K | .FG K=>K=j/\j<n/\c=false
 | .GG=>j=n/\c=false
 | .FA _ _=>j=n/\c=true
 | _=>False
def GC(F:Fam)(k:Nat):Nx->Prop
 | .gone _=>True
 | .ph (.G2 k')=>k'=k/\F.has k=true
 | .ph (.lk k' _)=>k'=k
 | .ph .HK | .ph .Gm | .ph .IF | .ph .Ha | .ph .GD | .ph .GZ | .ph .Fc=>True
 | _=>False
def I5:Nx->Prop
 | .gone _=>True
 | .ph .Dl | .ph (.FQ _) | .ph (.G7 _) | .ph .Ir | .ph .HO | .ph .Fs | .ph .G0 | .ph .FW | .ph .Ij | .ph .F5 | .ph .Hu=>True
 | _=>False
def Dv(x:Nx)(v wt sm L S:Nat)(cl:Bool):Prop:=
 match x with
 | .ph .Dl=>L=0/\S=0/\sm=0/\wt=0/\cl=false
 | .ph (.FQ m)=>L=0/\S=0/\sm=0/\wt=0/\cl=false/\v<=m
 | .ph (.G7 m)=>L=0/\S=0/\sm=0/\wt=0/\cl=false/\v<=m/\1<=m
 | .ph .Ir | .ph .HO | .ph .Fs=>L+S+sm+min v 1=1/\wt=L+min v 1/\cl=false
 | .ph .G0 | .ph .FW | .ph .Ij | .ph .F5 | .ph .Hu=>L=0/\S=0/\sm=0/\wt=0/\v=0/\cl=false
 | .gone _=>L=0/\S=0/\sm=0/\wt=0/\v=0/\cl=true
 | _=>False
structure CE (F:Fam) (N0 N j:Nat) (c:Bool) (φ:Nat->Nx) (v wt sm:Nat) (cl:Bool):Prop where
 pos:0<N0
 n1:1<=F.n
 HM:F.n<2147483647
 size:N=N0+j+c.toNat
 jn:j<=F.n
 cj:c=true->j=F.n
 main:∃p,φ 0= .ph p/\Ht F.n j c p
 old:∀i,0<i->i<N0->Nq (φ i)
 work:∀k,k<j->GC F k (φ (N0+k))
 cls:c=true->I5 (φ (N0+F.n))
 cnt:v=sumTo N (λi=>cU (φ i))+pend (φ 0)
 JV:v<=j+pend (φ 0)
 mode:Dv (if c=true then φ (N0+F.n) else .ph .Dl) v wt sm (sumTo N λi=>cL (φ i)) (sumTo N λi=>cS (φ i)) cl
 Kw:∀k,k<j->F.has k=true->(φ (N0+k)= .ph (.G2 k)↔k ∉ got (φ 0))
 nd:(got (φ 0)).Nodup
 sub:∀k∈got (φ 0),k<j/\F.has k=true
section
variable {F:Fam}{N0 N j:Nat}{c:Bool}{φ:Nat->Nx}{v wt sm v' wt' sm':Nat}{cl cl':Bool}
theorem CE.Et(h:CE F N0 N j c φ v wt sm cl){i:Nat}(hi:i<N):i=0∨(0<i/\i<N0)∨(∃k,k<j/\i=N0+k)∨(c=true/\i=N0+F.n):=by
 have:=h.size;rcases Nat.eq_zero_or_pos i with K | K
 ·exact .inl K
 rcases Nat.lt_or_ge i N0 with U | U
 ·exact .inr (.inl ⟨K,U⟩)
 rcases Nat.lt_or_ge i (N0+j) with V | V
 ·exact .inr (.inr (.inl ⟨i - N0,by omega,by omega⟩))
 ·cases O:c with
  | false=>rw [O] at this;simp at this;omega
  | true=>have e:=h.cj O;rw [O] at this;simp at this;exact .inr (.inr (.inr ⟨rfl,by omega⟩))
theorem CE.P9(h:CE F N0 N j c φ v wt sm cl):v<=F.n:=by
 have K:=h.JV;obtain⟨p,O,hm⟩:=h.main;have:=h.jn;rw [O] at K;cases p <;> simp [Ht] at hm <;> simp [pend] at K <;> omega
theorem CE.Il(h:CE F N0 N j c φ v wt sm cl){k:Nat}(ac:k<j){x:Nx}(ag:GC F k x)(al:∀k',φ (N0+k)≠ .ph (.G2 k'))(am:∀k',x≠ .ph (.G2 k'))
  (a3:v'+cU (φ (N0+k))=v+cU x)
  (hm:∀L S,L+cL (φ (N0+k))=(sumTo N λi=>cL (φ i))+cL x->S+cS (φ (N0+k))=(sumTo N λi=>cS (φ i))+cS x->Dv (if c=true then φ (N0+F.n) else .ph .Dl) v' wt' sm' L S cl'):
  CE F N0 N j c (upd φ (N0+k) x) v' wt' sm' cl':=by
 have a4:=h.size;have a5:=h.jn;have a6:=h.pos;have V:N0+k<N:=by omega
 have K:upd φ (N0+k) x 0=φ 0:=upd_ne _ _ (by omega);have ap:(if c=true then upd φ (N0+k) x (N0+F.n) else .ph .Dl)=(if c=true then φ (N0+F.n) else .ph .Dl):=by
  cases O:c with
  | false=>rfl
  | true=>have:=h.cj O;simp only [if_true];exact upd_ne _ _ (by omega)
 have s1:=sumTo_upd φ x cU V;have s2:=sumTo_upd φ x cL V;have aq:=sumTo_upd φ x cS V;have a7:=h.cnt;have a8:=h.JV;refine⟨h.pos,h.n1,h.HM,h.size,h.jn,h.cj,by rw [K];exact h.main,λi aw ay=>by rw [upd_ne _ _ (by omega)];exact h.old i aw ay,λk' U=>?_,λO=>?_,by rw [K];omega,?_,?_,λk' U hh=>?_,by rw [K];exact h.nd,by rw [K];exact h.sub⟩
 ·by_cases e:k'=k
  ·subst e;rw [upd_same];exact ag
  ·rw [upd_ne _ _ (by omega)];exact h.work k' U
 ·have:=h.cj O;rw [upd_ne _ _ (by omega)];exact h.cls O
 ·rw [K];have:cU x<=1:=by cases x with
   | gone d=>simp [cU]
   | ph p=>cases p <;> simp [cU]
  have hw:=h.work k ac;have key:cU x<=cU (φ (N0+k))∨cU (φ (N0+k))<cU x:=by omega
  rcases key with hle | a9
  ·omega
  ·
   have:(sumTo N λa=>cU (upd φ (N0+k) x a))<=j:=by
    have hb:∀M,M<=N->(sumTo M λa=>cU (upd φ (N0+k) x a))<=min (M - N0) j:=by
     intro M
     induction M with
     | zero=>intro _;simp [sumTo]
     | succ M az=>
      intro bb;have:=az (by omega);simp only [sumTo];have bd:cU (upd φ (N0+k) x M)<=1:=by
       generalize upd φ (N0+k) x M=y;cases y with
       | gone d=>simp [cU]
       | ph p=>cases p <;> simp [cU]
      have Z:(M<N0∨N0+j<=M)->cU (upd φ (N0+k) x M)=0:=by
       intro be;rw [upd_ne _ _ (by omega)];rcases h.Et (i:=M) (by omega) with rfl | ⟨a,b⟩ | ⟨k',a,rfl⟩ | ⟨a,rfl⟩
       ·obtain⟨p,a0,hm⟩:=h.main;rw [a0];cases p <;> simp [Ht] at hm <;> rfl
       ·have:=h.old M a b;cases Y:φ M with
        | gone d=>rfl
        | ph p=>rw [Y] at this;exact this.elim
       ·omega
       ·have:=h.cls a;cases Y:φ (N0+F.n) with
        | gone d=>rfl
        | ph p=>rw [Y] at this;cases p <;> simp [I5] at this <;> rfl
      rcases Nat.lt_or_ge M N0 with q | q
      ·rw [Z (.inl q)];omega
      ·rcases Nat.lt_or_ge M (N0+j) with q' | q'
       ·omega
       ·rw [Z (.inr q')];omega
    have:=hb N (Nat.le_refl _);omega
   omega
 ·rw [ap];exact hm _ _ s2 aq
 ·rw [K];by_cases e:k'=k
  ·subst e;rw [upd_same];have:=h.Kw k' U hh;constructor
   ·intro a1;exact absurd a1 (am k')
   ·intro a2;exact absurd (this.2 a2) (al k')
  ·rw [upd_ne _ _ (by omega)];exact h.Kw k' U hh
theorem CE.HG(h:CE F N0 N j c φ v wt sm cl)(O:c=true){x:Nx}(Y:I5 x)
  (hm:Dv x v wt' sm' (sumTo N λi=>cL (φ i)) (sumTo N λi=>cS (φ i)) cl'):
  CE F N0 N j c (upd φ (N0+F.n) x) v wt' sm' cl':=by
 have Z:=h.size;have ap:=h.pos;have aq:=h.cj O;have U:N0+F.n<N:=by rw [O] at Z;simp at Z;omega
 have K:upd φ (N0+F.n) x 0=φ 0:=upd_ne _ _ (by omega);have z:∀y,I5 y->cU y=0/\cL y=0/\cS y=0:=by
  intro y ac;cases y with
  | gone d=>exact⟨rfl,rfl,rfl⟩
  | ph p=>cases p <;> simp [I5] at ac <;> exact⟨rfl,rfl,rfl⟩
 have z1:=z _ (h.cls O);have aw:=z x Y;have s1:=sumTo_upd φ x cU U;have s2:=sumTo_upd φ x cL U;have ay:=sumTo_upd φ x cS U;have az:=h.cnt;refine⟨h.pos,h.n1,h.HM,h.size,h.jn,h.cj,by rw [K];exact h.main,λi ag al=>by rw [upd_ne _ _ (by omega)];exact h.old i ag al,λk' V=>?_,λO=>?_,by rw [K];omega,by rw [K];exact h.JV,?_,λk' V hh=>?_,by rw [K];exact h.nd,by rw [K];exact h.sub⟩
 ·rw [upd_ne _ _ (by omega)];exact h.work k' V
 ·rw [upd_same];exact Y
 ·rw [if_pos O,upd_same];have e2:(sumTo N λi=>cL (upd φ (N0+F.n) x i))=sumTo N λi=>cL (φ i):=by omega
  have am:(sumTo N λi=>cS (upd φ (N0+F.n) x i))=sumTo N λi=>cS (φ i):=by omega
  rw [e2,am];exact hm
 ·rw [K,upd_ne _ _ (by omega)];exact h.Kw k' V hh
theorem QT{n j:Nat}{c:Bool}{p:Ph}(h:Ht n j c p):cU (.ph p)=0/\cL (.ph p)=0/\cS (.ph p)=0:=by
 cases p <;> simp [Ht] at h <;> exact⟨rfl,rfl,rfl⟩
theorem CE.Lf(h:CE F N0 N j c φ v wt sm cl){p:Ph}(V:Ht F.n j c p)(K:got (.ph p)=got (φ 0))(aw:v'+pend (φ 0)=v+pend (.ph p))(Y:v'<=j+pend (.ph p))
  (hm:Dv (if c=true then φ (N0+F.n) else .ph .Dl) v' wt' sm' (sumTo N λi=>cL (φ i)) (sumTo N λi=>cS (φ i)) cl'):
  CE F N0 N j c (upd φ 0 (.ph p)) v' wt' sm' cl':=by
 have ay:=h.size;have az:=h.pos;have O:0<N:=by omega
 obtain⟨a0,Z,ac⟩:=h.main;have z1:=QT ac;have a1:=QT V;rw [← Z] at z1;have s1:=sumTo_upd φ (.ph p) cU O;have s2:=sumTo_upd φ (.ph p) cL O;have a2:=sumTo_upd φ (.ph p) cS O;have a3:=h.cnt;have ag:(if c=true then upd φ 0 (.ph p) (N0+F.n) else .ph .Dl)=(if c=true then φ (N0+F.n) else .ph .Dl):=by rw [upd_ne _ _ (by omega)]
 refine⟨h.pos,h.n1,h.HM,h.size,h.jn,h.cj,⟨p,upd_same _ _ _,V⟩,λi al am=>by rw [upd_ne _ _ (by omega)];exact h.old i al am,λk' U=>by rw [upd_ne _ _ (by omega)];exact h.work k' U,λap=>by rw [upd_ne _ _ (by omega)];exact h.cls ap,by rw [upd_same];omega,by rw [upd_same];exact Y,?_,λk' U hh=>?_,by rw [upd_same,K];exact h.nd,by rw [upd_same,K];exact h.sub⟩
 ·rw [ag];have e2:(sumTo N λi=>cL (upd φ 0 (.ph p) i))=sumTo N λi=>cL (φ i):=by omega
  have aq:(sumTo N λi=>cS (upd φ 0 (.ph p) i))=sumTo N λi=>cS (φ i):=by omega
  rw [e2,aq];exact hm
 ·rw [upd_same,K,upd_ne _ _ (by omega)];exact h.Kw k' U hh
theorem CE.act(h:CE F N0 N j c φ v wt sm cl){i:Nat}(hi:i<N){p:Ph}(K:φ i= .ph p){es:Array Event}{a4:Nx}(O:F.act p v wt sm=some ((v',wt',sm'),es,a4)):
  CE F N0 N j c (upd φ i a4) v' wt' sm' cl:=by
 have U:=h.mode;have a6:=h.P9;rcases h.Et hi with rfl | ⟨a,b⟩ | ⟨k,aq,rfl⟩ | ⟨Z,rfl⟩
 ·
  obtain⟨a0,a5,aw⟩:=h.main;have:a0=p:=by rw [a5] at K;exact Nx.ph.inj K
  subst this;have a8:∀q,Ht F.n j c q->(∀a7 vs,q≠ .FA a7 vs)->c=false:=by
   intro q a1 a2;cases q <;> simp [Ht] at a1 <;> first | exact a1.2.2 | exact a1.2 | exact absurd rfl (a2 _ _)
  have am:=h.JV;cases a0 <;> simp only [Ht] at aw <;> (try exact aw.elim) <;> simp only [Fam.act] at O <;> (try (cases O;done))
  ·cases O;obtain⟨rfl,ap,rfl⟩:=aw;exact h.Lf (p:= .Ik _) ⟨rfl,ap,rfl⟩ (by rw [K];rfl) (by rw [K];rfl) (by rw [K] at am;exact am) (by simpa [Dv] using U)
  ·split at O
   ·rename_i ac;cases O;obtain⟨rfl,ap,rfl⟩:=aw;rw [K] at am;simp only [pend,Nat.add_zero] at am;simp only [Bool.false_eq_true,if_false,Dv] at U;split
    ·exact h.Lf (p:= .Im _) ⟨rfl,ap,rfl⟩ (by rw [K];rfl) (by rw [K];simp [pend]) (by simp [pend];omega) ⟨U.1,U.2.1,U.2.2.1,rfl,U.2.2.2.2⟩
    ·exact h.Lf (p:= .GM _) ⟨rfl,ap,rfl⟩ (by rw [K];rfl) (by rw [K];simp [pend]) (by simp [pend];omega) ⟨U.1,U.2.1,U.2.2.1,rfl,U.2.2.2.2⟩
   ·cases O
  ·cases O;obtain⟨rfl,ap,rfl⟩:=aw;exact h.Lf (p:= .GM _) ⟨rfl,ap,rfl⟩ (by rw [K];rfl) (by rw [K];rfl) (by rw [K] at am;exact am) (by simpa [Dv] using U)
  ·cases O;obtain⟨rfl,ap,rfl⟩:=aw;exact h.Lf (p:= .FG _) ⟨rfl,ap,rfl⟩ (by rw [K];rfl) (by rw [K];rfl) (by rw [K] at am;exact am) (by simpa [Dv] using U)
  ·cases O;obtain⟨rfl,ap,rfl⟩:=aw;exact h.Lf (p:= .HE _) ⟨rfl,ap,rfl⟩ (by rw [K];rfl) (by rw [K];rfl) (by rw [K] at am;exact am) (by simpa [Dv] using U)
 ·have:=h.old i a b;rw [K] at this;exact this.elim
 ·
  have hw:=h.work k aq;rw [K] at hw;have a9:∀q k',q=Nx.ph p->(∀k',p≠ .G2 k')->q≠ .ph (.G2 k'):=by
   rintro q k' rfl a2 e;exact a2 k' (Nx.ph.inj e)
  cases p <;> simp only [GC] at hw <;> (try exact hw.elim) <;> simp only [Fam.act] at O <;> (try (cases O;done))
  ·cases O;refine h.Il aq (x:= .ph .IF) trivial (λk'=>by rw [K];simp) (by simp) (by rw [K];rfl) λL S V Y=>?_;rw [K] at V Y;simp only [cL,cS,Nat.add_zero] at V Y;subst V Y;exact U
  ·cases O;refine h.Il aq (x:= .ph .Ha) trivial (λk'=>by rw [K];simp) (by simp) (by rw [K];rfl) λL S V Y=>?_;rw [K] at V Y;simp only [cL,cS,Nat.add_zero] at V Y;subst V Y;exact U
  ·split at O
   ·rename_i ac;cases O;have az:∀y ag al L S,y=(if c=true then φ (N0+F.n) else .ph .Dl)->Dv y v wt sm ag al cl->(if v=1/\wt=1 then L=ag+1 else L=ag)->S=al->Dv y (v - 1) wt sm L S cl:=by
     intro y ag al L S bb hm V Y;cases y with
     | gone d=>simp only [Dv] at hm ⊢;split at V <;> omega
     | ph q=>
      cases q <;> simp only [Dv] at hm ⊢ <;> (try exact hm) <;> (try (split at V <;> omega))
      ·split at V
       ·exfalso;omega
       ·exact⟨by omega,by omega,by omega,by omega,hm.2.2.2.2⟩
      ·split at V
       ·exfalso;omega
       ·exact⟨by omega,by omega,by omega,by omega,hm.2.2.2.2.1,by omega⟩
      ·split at V
       ·exfalso;omega
       ·exact⟨by omega,by omega,by omega,by omega,hm.2.2.2.2.1,by omega,by omega⟩
      ·split at V
       ·exact⟨by omega,by omega,hm.2.2⟩
       ·exact⟨by omega,by omega,hm.2.2⟩
      ·split at V
       ·exact⟨by omega,by omega,hm.2.2⟩
       ·exact⟨by omega,by omega,hm.2.2⟩
      ·split at V
       ·exact⟨by omega,by omega,hm.2.2⟩
       ·exact⟨by omega,by omega,hm.2.2⟩
    split
    ·rename_i ay;refine h.Il aq (x:= .ph .GD) trivial (λk'=>by rw [K];simp) (by simp) (by rw [K];simp [cU];omega) λL S V Y=>?_;rw [K] at V Y;simp only [cL,cS,Nat.add_zero] at V Y;exact az _ _ _ L S rfl U (by rw [if_pos ay];exact V) Y
    ·rename_i ay;refine h.Il aq (x:= .gone 1) trivial (λk'=>by rw [K];simp) (by simp) (by rw [K];simp [cU];omega) λL S V Y=>?_;rw [K] at V Y;simp only [cL,cS,Nat.add_zero] at V Y;exact az _ _ _ L S rfl U (by rw [if_neg ay];exact V) Y
   ·cases O
  ·split at O
   ·rename_i ac;cases O;refine h.Il aq (x:= .ph .GZ) trivial (λk'=>by rw [K];simp) (by simp) (by rw [K];simp [cU];omega) λL S V Y=>?_;rw [K] at V Y;simp only [cL,cS,Nat.add_zero] at V Y;have e:L=sumTo N λi=>cL (φ i):=by
     have bd:L+1=(sumTo N λi=>cL (φ i))+1:=V;omega
    obtain⟨ay,a3⟩:=ac;subst e Y ay a3;exact U
   ·cases O
  ·split at O
   ·rename_i ac;cases O;obtain⟨ay,a3⟩:=ac;subst ay a3;refine h.Il aq (x:= .ph .Fc) trivial (λk'=>by rw [K];simp) (by simp) (by rw [K];simp [cU]) λL S V Y=>?_;rw [K] at V Y;simp only [cL,cS,Nat.add_zero] at V Y;have az:∀y ag al,Dv y 0 1 sm ag al cl->L+1=ag->S=al+1->Dv y 0 0 sm L S cl:=by
     intro y ag al hm V Y;cases y with
     | gone d=>simp only [Dv] at hm ⊢;omega
     | ph q=>
      cases q <;> simp only [Dv] at hm ⊢ <;> (try exact hm) <;> (try (exfalso;omega))
      ·exact⟨by omega,by omega,hm.2.2⟩
      ·exact⟨by omega,by omega,hm.2.2⟩
      ·exact⟨by omega,by omega,hm.2.2⟩
    exact az _ _ _ U V Y
   ·cases O
  ·split at O
   ·rename_i ac;cases O;subst ac;refine h.Il aq (x:= .gone 1) trivial (λk'=>by rw [K];simp) (by simp) (by rw [K];simp [cU]) λL S V Y=>?_;rw [K] at V Y;simp only [cL,cS,Nat.add_zero] at V Y;have az:∀y ag al,Dv y v wt 0 ag al cl->L=ag->S+1=al->Dv y v wt 1 L S cl:=by
     intro y ag al hm V Y;cases y with
     | gone d=>simp only [Dv] at hm ⊢;omega
     | ph q=>
      cases q <;> simp only [Dv] at hm ⊢ <;> (try exact hm) <;> (try (exfalso;omega))
      ·exact⟨by omega,by omega,hm.2.2⟩
      ·exact⟨by omega,by omega,hm.2.2⟩
      ·exact⟨by omega,by omega,hm.2.2⟩
    exact az _ _ _ U V Y
   ·cases O
  ·cases O;refine h.Il aq (x:= .ph .Gm) trivial (λk'=>by rw [K];simp) (by simp) (by rw [K];rfl) λL S V Y=>?_;rw [K] at V Y;simp only [cL,cS,Nat.add_zero] at V Y;subst V Y;exact U
 ·
  have hw:=h.cls Z;rw [if_pos Z,K] at U;rw [K] at hw;obtain⟨a0,a5,aw⟩:=h.main;cases p <;> simp only [I5] at hw <;> (try exact hw.elim) <;> simp only [Fam.act] at O <;> (try (cases O;done)) <;> simp only [Dv] at U
  ·cases O;exact h.HG Z (x:= .ph (.FQ F.n)) trivial ⟨U.1,U.2.1,U.2.2.1,U.2.2.2.1,U.2.2.2.2,a6⟩
  ·split at O
   ·rename_i m ac;cases O;split
    ·exact h.HG Z (x:= .ph .FW) trivial ⟨U.1,U.2.1,U.2.2.1,rfl,by assumption,U.2.2.2.2.1⟩
    ·exact h.HG Z (x:= .ph (.G7 _)) trivial ⟨U.1,U.2.1,U.2.2.1,rfl,U.2.2.2.2.1,Nat.le_refl _,by omega⟩
   ·cases O
  ·split at O
   ·rename_i m ac;split at O
    ·cases O;exact h.HG Z (x:= .ph .Ir) trivial ⟨by omega,by omega,U.2.2.2.2.1⟩
    ·cases O;exact h.HG Z (x:= .ph (.FQ _)) trivial ⟨U.1,U.2.1,U.2.2.1,rfl,U.2.2.2.2.1,by omega⟩
   ·cases O
  ·cases O;exact h.HG Z (x:= .ph .Fs) trivial U
  ·split at O
   ·rename_i ac;cases O;exact h.HG Z (x:= .ph .G0) trivial ⟨by omega,by omega,rfl,by omega,by omega,U.2.2⟩
   ·cases O
  ·split at O
   ·rename_i ac;obtain⟨rfl,rfl⟩:=ac;cases O;exact h.HG Z (x:= .ph .FW) trivial U
   ·cases O
  ·cases O;exact h.HG Z (x:= .ph .Ij) trivial U
  ·cases O;exact h.HG Z (x:= .ph .HO) trivial U
  ·cases O;exact h.HG Z (x:= .ph .F5) trivial U
end
open Go.ConcN (fork_knows)
section
variable {F:Fam}{N0 N j:Nat}{c:Bool}{φ:Nat->Nx}{v wt sm:Nat}{cl:Bool}
theorem CE.spawn(h:CE F N0 N j c φ v wt sm cl)(U:φ 0= .ph (.FG j)):
  CE F N0 (N+1) (j+1) c (upd (upd φ N (.ph (F.start j))) 0 (.ph (F.Fp j))) v wt sm cl:=by
 obtain⟨aq,aw,ay⟩:=h.main;obtain rfl:aq= .FG j:=by rw [aw] at U;exact Nx.ph.inj U
 obtain⟨_,a3,rfl⟩:=ay;have az:=h.size;have a4:=h.pos;simp only [Bool.toNat_false,Nat.add_zero] at az;have V:cU (.ph (F.start j))=1/\cL (.ph (F.start j))=0/\cS (.ph (F.start j))=0:=by
  exact⟨rfl,rfl,rfl⟩
 have K:cU (.ph (F.Fp j))=0/\cL (.ph (F.Fp j))=0/\cS (.ph (F.Fp j))=0/\pend (.ph (F.Fp j))=0/\got (.ph (F.Fp j))= []:=by
  unfold Fam.Fp;split <;> exact⟨rfl,rfl,rfl,rfl,rfl⟩
 have Y:cU (φ 0)=0/\cL (φ 0)=0/\cS (φ 0)=0:=by rw [U];exact⟨rfl,rfl,rfl⟩
 let φ':Nat->Nx:=upd (upd φ N (.ph (F.start j))) 0 (.ph (F.Fp j));have O:φ' 0= .ph (F.Fp j):=upd_same _ _ _;have ap:φ' N= .ph (F.start j):=by show upd _ _ _ _=_;rw [upd_ne _ _ (by omega),upd_same]
 have Z:∀i,0<i->i≠N->φ' i=φ i:=λi ac ag=>by show upd _ _ _ _=_;rw [upd_ne _ _ (by omega),upd_ne _ _ ag]
 have sum:∀f:Nx->Nat,f (φ 0)=0->f (.ph (F.Fp j))=0->(sumTo (N+1) λi=>f (φ' i))=(sumTo N λi=>f (φ i))+f (.ph (F.start j)):=by
  intro f f0 f1;simp only [sumTo,ap];congr 1;have a0:0<N:=by omega
  have:=sumTo_upd (upd φ N (.ph (F.start j))) (.ph (F.Fp j)) f a0;have e2:upd φ N (.ph (F.start j)) 0=φ 0:=upd_ne _ _ (by omega);rw [e2,f0,f1] at this;have a5:=sumTo_upd_out φ (.ph (F.start j)) f (i:=N) (j:=N) (Nat.le_refl _);show sumTo N (λi=>f (upd (upd φ N (.ph (F.start j))) 0 (.ph (F.Fp j)) i))=_;omega
 have al:=h.cnt;have am:=h.JV;rw [U] at al am;simp only [pend] at al am;show CE F N0 (N+1) (j+1) false φ' v wt sm cl;have a1:got (φ 0)= []:=by rw [U];rfl
 refine⟨h.pos,h.n1,h.HM,by simp;omega,by omega,by simp,⟨F.Fp j,O,?_⟩,λi ac ag=>by rw [Z i ac (by omega)];exact h.old i ac ag,λk a2=>?_,by simp,?_,?_,?_,λk a2 hh=>?_,by rw [O,K.2.2.2.2];exact .nil,by rw [O,K.2.2.2.2];simp⟩
 ·unfold Fam.Fp;split
  ·exact⟨by assumption,rfl⟩
  ·exact⟨rfl,by omega,rfl⟩
 ·by_cases e:k=j
  ·subst e;rw [show N0+k=N by omega,ap];exact rfl
  ·rw [Z _ (by omega) (by omega)];exact h.work k (by omega)
 ·rw [O,K.2.2.2.1,sum cU Y.1 K.1,V.1];exact al
 ·rw [O,K.2.2.2.1];exact am
 ·have hm:=h.mode;simp only [Bool.false_eq_true,if_false] at hm ⊢;rw [sum cL Y.2.1 K.2.1,sum cS Y.2.2 K.2.2.1,V.2.1,V.2.2];exact hm
 ·rw [O,K.2.2.2.2];by_cases e:k=j
  ·exact absurd hh Bool.false_ne_true
  ·rw [Z _ (by omega) (by omega)];have:=h.Kw k (by omega) hh
   rwa [a1] at this
theorem CE.Zl(h:CE F N0 N j c φ v wt sm cl)(O:φ 0= .ph .GG):
  CE F N0 (N+1) j true (upd (upd φ N (.ph .Dl)) 0 (.ph (.FA [] []))) v wt sm cl:=by
 obtain⟨aq,aw,ay⟩:=h.main;obtain rfl:aq= .GG:=by rw [aw] at O;exact Nx.ph.inj O
 obtain⟨ap,rfl⟩:=ay;have az:=h.size;have a2:=h.pos;simp only [Bool.toNat_false,Nat.add_zero] at az;have U:cU (φ 0)=0/\cL (φ 0)=0/\cS (φ 0)=0:=by rw [O];exact⟨rfl,rfl,rfl⟩
 let φ':Nat->Nx:=upd (upd φ N (.ph .Dl)) 0 (.ph (.FA [] []));have K:φ' 0= .ph (.FA [] []):=upd_same _ _ _;have V:φ' N= .ph .Dl:=by show upd _ _ _ _=_;rw [upd_ne _ _ (by omega),upd_same]
 have Y:∀i,0<i->i≠N->φ' i=φ i:=λi Z ac=>by show upd _ _ _ _=_;rw [upd_ne _ _ (by omega),upd_ne _ _ ac]
 have sum:∀f:Nx->Nat,f (φ 0)=0->f (.ph (.FA [] []))=0->f (.ph .Dl)=0->(sumTo (N+1) λi=>f (φ' i))=(sumTo N λi=>f (φ i)):=by
  intro f f0 f1 f2;simp only [sumTo,V,f2];have a0:0<N:=by omega
  have:=sumTo_upd (upd φ N (.ph .Dl)) (.ph (.FA [] [])) f a0;have e2:upd φ N (.ph .Dl) 0=φ 0:=upd_ne _ _ (by omega);rw [e2,f0,f1] at this;have a3:=sumTo_upd_out φ (.ph .Dl) f (i:=N) (j:=N) (Nat.le_refl _);show sumTo N (λi=>f (upd (upd φ N (.ph .Dl)) 0 (.ph (.FA [] [])) i))+0=_;omega
 have ag:=h.cnt;have al:=h.JV;rw [O] at ag al;simp only [pend] at ag al;show CE F N0 (N+1) j true φ' v wt sm cl;have a1:got (φ 0)= []:=by rw [O];rfl
 refine⟨h.pos,h.n1,h.HM,by simp;omega,h.jn,λ_=>ap,⟨.FA [] [],K,ap,rfl⟩,λi Z ac=>by rw [Y i Z (by omega)];exact h.old i Z ac,λk am=>?_,λ_=>by rw [show N0+F.n=N by omega,V];trivial,?_,?_,?_,λk am hh=>?_,by rw [K];exact .nil,by rw [K];simp [got]⟩
 ·rw [Y _ (by omega) (by omega)];exact h.work k am
 ·rw [K,sum cU U.1 rfl rfl];exact ag
 ·rw [K];exact al
 ·have hm:=h.mode;simp only [Bool.false_eq_true,if_false,if_true] at hm ⊢;rw [show N0+F.n=N by omega,V,sum cL U.2.1 rfl rfl,sum cS U.2.2 rfl rfl];exact hm
 ·rw [K];rw [Y _ (by omega) (by omega)];have:=h.Kw k am hh
  rwa [a1] at this
theorem CE.leave(h:CE F N0 N j c φ v wt sm cl){i d d':Nat}(hi:i<N)(K:φ i= .gone d):CE F N0 N j c (upd φ i (.gone d')) v wt sm cl:=by
 rcases h.Et hi with rfl | ⟨a,b⟩ | ⟨k,U,rfl⟩ | ⟨V,rfl⟩
 ·obtain⟨p,Y,_⟩:=h.main;rw [K] at Y;cases Y
 ·have al:=hi;have z:∀f:Nx->Nat,f (.gone d)=0->f (.gone d')=0->(sumTo N λa=>f (upd φ i (.gone d') a))=sumTo N λa=>f (φ a):=by
   intro f f0 f1;have:=sumTo_upd φ (.gone d') f al;rw [K] at this;omega
  have aw:=h.size;have O:upd φ i (.gone d') 0=φ 0:=upd_ne _ _ (by omega);refine⟨h.pos,h.n1,h.HM,h.size,h.jn,h.cj,by rw [O];exact h.main,λZ am ap=>?_,λk U=>by rw [upd_ne _ _ (by omega)];exact h.work k U,λV=>by rw [upd_ne _ _ (by omega)];exact h.cls V,by rw [O,z cU rfl rfl];exact h.cnt,by rw [O];exact h.JV,?_,λk U hh=>by rw [O,upd_ne _ _ (by omega)];exact h.Kw k U hh,by rw [O];exact h.nd,by rw [O];exact h.sub⟩
  ·by_cases e:Z=i
   ·subst e;rw [upd_same];trivial
   ·rw [upd_ne _ _ e];exact h.old Z am ap
  ·rw [z cL rfl rfl,z cS rfl rfl,upd_ne _ _ (by omega)];exact h.mode
 ·refine h.Il U (x:= .gone d') trivial (by rw [K];simp) (by simp) (by rw [K];rfl) λL S ac ag=>?_;rw [K] at ac ag;have aq:L=sumTo N λi=>cL (φ i):=ac;have e2:S=sumTo N λi=>cS (φ i):=ag;subst aq e2;exact h.mode
 ·have hm:=h.mode;rw [if_pos V,K] at hm;exact h.HG V (x:= .gone d') trivial hm
theorem CE.YK(h:CE F N0 N j c φ v wt sm cl)(O:c=true)(U:φ (N0+F.n)= .ph .G0∨φ (N0+F.n)= .ph .FW∨φ (N0+F.n)= .ph .F5∨φ (N0+F.n)= .ph .Hu∨Nq (φ (N0+F.n))):∀k,k<j->Nq (φ (N0+k)):=by
 intro k V;have hm:=h.mode;rw [if_pos O] at hm;have Y:=h.size;have Z:=h.cnt;have ac:cU (φ (N0+k))<=sumTo N λi=>cU (φ i):=le_sumTo (f:=λi=>cU (φ i)) (show N0+k<N by omega);have ag:cL (φ (N0+k))<=sumTo N λi=>cL (φ i):=le_sumTo (f:=λi=>cL (φ i)) (show N0+k<N by omega);have al:cS (φ (N0+k))<=sumTo N λi=>cS (φ i):=le_sumTo (f:=λi=>cS (φ i)) (show N0+k<N by omega);have am:v=0/\(sumTo N λi=>cL (φ i))=0/\(sumTo N λi=>cS (φ i))=0:=by
  rcases U with e | e | e | e | e
  ·rw [e] at hm;exact⟨hm.2.2.2.2.1,hm.1,hm.2.1⟩
  ·rw [e] at hm;exact⟨hm.2.2.2.2.1,hm.1,hm.2.1⟩
  ·rw [e] at hm;exact⟨hm.2.2.2.2.1,hm.1,hm.2.1⟩
  ·rw [e] at hm;exact⟨hm.2.2.2.2.1,hm.1,hm.2.1⟩
  ·cases K:φ (N0+F.n) with
   | gone d=>rw [K] at hm;exact⟨hm.2.2.2.2.1,hm.1,hm.2.1⟩
   | ph p=>rw [K] at e;exact e.elim
 have hw:=h.work k V;cases K:φ (N0+k) with
 | gone d=>trivial
 | ph p=>
  have ap:1<=cU (φ (N0+k))+cL (φ (N0+k))+cS (φ (N0+k)):=by
   rw [K] at hw ⊢;cases p <;> simp only [GC] at hw <;> simp [cU,cL,cS]
  exfalso;omega
end
open Go.ConcN (RelBy)
def dl:LP->Nat
 | .G4 | .Eg _ _ _ | .Cj _ _ _ _ | .Ic _ | .Cv _ | .FP | .Es _ | .Ee _ | .len=>1
 | .HI | .EC _ | .G6 | .ER _ | .EU=>1
 | _=>0
def FF:Nx->Nat
 | .gone d=>d
 | .ph .Ha | .ph .GD | .ph .GZ | .ph .Fc=>1
 | .ph (.FQ _) | .ph (.G7 _) | .ph .Ir | .ph .HO | .ph .Fs | .ph .G0 | .ph .FW=>1
 | .ph (.Ik _) | .ph (.Im _) | .ph (.HE _) | .ph (.GM _)=>1
 | .ph (.lk _ p)=>dl p
 | _=>0
def late:Nx->Prop
 | .ph (.G2 _) | .ph .HK | .ph .Gm | .ph (.lk _ _)=>False
 | _=>True
def KE(t:Trace)(E:LH)(ρ:Nat):Prop:=∀b,E b≠none->∀x a,touchAt t x=some a->CO a.loc=some b->a.write=true->Before t x ρ
structure ES (F:Fam) (N0 t0 N j:Nat) (φ:Nat->Nx) (S:Nat->St) (t:Trace):Prop where
 deaf:∀i,i<N->Deaf t i=FF (φ i)
 above:∀i,N<=i->Deaf t i=0
 plain:∀x a b,touchAt t x=some a->CO a.loc=some b->(b=F.wg∨b=F.mu)->a.kind= .plain->∀i,i<N->(i=0∨N0<=i)->Knows t i x
 said:∀x a b,touchAt t x=some a->CO a.loc=some b->(b=F.wg∨b=F.mu)->a.kind= .said->Knows t 0 x
 F8:∀x a,touchAt t x=some a->CO a.loc=some F.fd->(∀i,i<N->(i=0∨N0<=i)->Knows t i x)∨∃k,k<j/\t.g? x=some (N0+k)/\t.counts x/\a.loc= .cell ⟨F.fd,k,none⟩
 over:∀x g,t.g? x=some g->g≠0->t.counts x->(∃y,t.g? y=some 0/\HappensBefore t x y)∨(N0<=g/\g<N)
 norel:∀x,t0<=x->t.act? x≠some (.mark (.release F.sA))
 Me:t0<=t.size
 rel:∀k,k<j->late (φ (N0+k))->∃ρ,t0<=ρ/\RelBy F.sA t (N0+k) ρ/\KE t (S (N0+k)).E ρ
section
variable {F:Fam}{N0 t0 N j:Nat}{φ:Nat->Nx}{S:Nat->St}{t u:Trace}
def EvS(F:Fam)(N0 j i:Nat)(e:Event):Prop:=
 (∀a,(MemAct.ofEvent e).touch? =some a->∃b,CO a.loc=some b/\(((b=F.wg∨b=F.mu)/\a.kind≠ .plain/\(a.kind= .said->i=0))∨(b=F.fd/\∃k,k<j/\i=N0+k/\a.loc= .cell ⟨F.fd,k,none⟩/\a.kind= .plain)))/\e.loc≠ .mark (.release F.sA)
theorem ES.noRace(h:ES F N0 t0 N j φ S t)(al:∀said,¬Race said t){i:Nat}(hi:i<N)(Y:i=0∨N0<=i){fn:FuncId}{pos:String}{es:Array Event}
  (am:∀e∈es,EvS F N0 j i e):∀said,¬Race said (t++MemOp.ofEvents i fn pos es):=by
 intro said;refine noRace_append (g:=i) (al said) (λop O=>by obtain⟨e,_,rfl⟩:=mem_ofEvents O;rfl) λx a U op O d hd ap=>?_;obtain⟨e,he,rfl⟩:=mem_ofEvents O;obtain⟨b,hb,K⟩:=(am e he).1 d hd;obtain⟨Z,hm,a3,aq⟩:=ap;have V:CO a.loc=some b:=by rw [Z];exact hb
 rcases K with⟨K,ac,aw⟩ | ⟨rfl,k,ac,ay,az,_⟩
 ·rcases aq with q | q | ⟨_,q,q'⟩
  ·exact h.plain x a b U V K q i hi Y
  ·exact absurd q ac
  ·have:=h.said x a b U V K q
   rwa [← aw q'] at this
 ·rcases h.F8 x a U V with q | ⟨k',_,a0,_,ag⟩
  ·exact q i hi Y
  ·rw [Z,az] at ag;have:k=k':=by simpa using ag
   subst this;obtain⟨z,a1,a2⟩:=Option.map_eq_some_iff.1 a0;have:=knows_own a1;rw [a2,← ay] at this;exact this
theorem OF(h:∀x g,t.g? x=some g->g≠0->t.counts x->(∃y,t.g? y=some 0/\HappensBefore t x y)∨(N0<=g/\g<N))(hu:∀op∈u,op.g=0∨(N0<=op.g/\op.g<N)∨op.act.touch? =none):
  ∀x g,(t++u).g? x=some g->g≠0->(t++u).counts x->(∃y,(t++u).g? y=some 0/\HappensBefore (t++u) x y)∨(N0<=g/\g<N):=by
 intro x g O U V;rcases Nat.lt_or_ge x t.size with q | q
 ·rcases h x g (by rw [← g?_old (u:=u) q];exact O) U ((counts_old q).1 V) with⟨y,K,hb⟩ | hh
  ·have ag:y<t.size:=by
    unfold Trace.g? at K;obtain⟨z,al,_⟩:=Option.map_eq_some_iff.1 K;exact lt_size_of_getElem? al
   exact .inl ⟨y,by rw [g?_old ag];exact K,hb_app u hb⟩
  ·exact .inr hh
 ·obtain⟨a,am,_⟩:=V;obtain⟨op,Y,Z⟩:=touch_of am;have ac:op.g=g:=by simpa [Trace.g?,Y] using O
  rcases getElem?_append_cases Y with⟨aq,_⟩ | ⟨_,ap⟩
  ·omega
  ·rcases hu op ap with z | z | z
   ·exact absurd (ac▸z) U
   ·exact .inr (ac▸z)
   ·rw [z] at Z;cases Z
theorem Ot(h:∀x,t0<=x->t.act? x≠some (.mark (.release F.sA)))(hu:∀op∈u,op.act≠ .mark (.release F.sA)):∀x,t0<=x->(t++u).act? x≠some (.mark (.release F.sA)):=by
 intro x O e;obtain⟨op,U,K⟩:=Option.map_eq_some_iff.1 e;rcases getElem?_append_cases U with⟨_,V⟩ | ⟨_,Y⟩
 ·exact h x O (by rw [act?_of V,K])
 ·exact hu op Y K
theorem Uz{g:Nat}(hu:∀op∈u,op.g=g->op.act.touch? =none):∀x,t.size<=x->(t++u).g? x=some g->¬(t++u).counts x:=by
 intro x ac U V;obtain⟨a,Y,_⟩:=V;obtain⟨op,K,O⟩:=touch_of Y;rcases getElem?_append_cases K with⟨ag,_⟩ | ⟨_,Z⟩
 ·omega
 ·rw [hu op Z (by simpa [Trace.g?,K] using U)] at O;cases O
theorem KE.app{E:LH}{ρ:Nat}(h:KE t E ρ)(hu:∀op∈u,∀a b,op.act.touch? =some a->CO a.loc=some b->a.write=true->E b=none):KE (t++u) E ρ:=by
 intro b hb x a U K hw;obtain⟨op,V,O⟩:=touch_of U;rcases getElem?_append_cases V with⟨ac,Y⟩ | ⟨_,Z⟩
 ·exact(h b hb x a (by rw [touchAt_of Y];exact O) K hw).app u
 ·exact absurd (hu op Z a b O K hw) hb
theorem ES.app(h:ES F N0 t0 N j φ S t){i:Nat}(hi:i<N){x:Nx}{s':St}{fn:FuncId}{pos:String}{es:Array Event}
  (hd:deafBehind (FF (φ i)) es=FF x)
  (ap:∀e∈es,(∀a b,(MemAct.ofEvent e).touch? =some a->CO a.loc=some b->(b=F.wg∨b=F.mu)->a.kind≠ .plain/\(a.kind= .said->i=0))/\
   (∀a,(MemAct.ofEvent e).touch? =some a->CO a.loc=some F.fd->∃k,k<j/\i=N0+k/\a.loc= .cell ⟨F.fd,k,none⟩/\a.kind= .plain)/\e.loc≠ .mark (.release F.sA))
  (a7:(i=0∨N0<=i)∨∀e∈es,(MemAct.ofEvent e).touch? =none)
  (a8:∀k,k<j->late (φ (N0+k))->∀e∈es,∀a b,(MemAct.ofEvent e).touch? =some a->CO a.loc=some b->a.write=true->(S (N0+k)).E b=none)
  (aw:∀k,k<j->i=N0+k->late x->(late (φ i)/\s'.E=(S i).E/\∀ρ,RelBy F.sA t i ρ->RelBy F.sA (t++MemOp.ofEvents i fn pos es) i ρ)∨∃ρ,t0<=ρ/\RelBy F.sA (t++MemOp.ofEvents i fn pos es) i ρ/\KE (t++MemOp.ofEvents i fn pos es) s'.E ρ):
  ES F N0 t0 N j (upd φ i x) (upd S i s') (t++MemOp.ofEvents i fn pos es):=by
 generalize hu:MemOp.ofEvents i fn pos es=u at*;have ac:∀op∈u,op.g=i:=λop O=>by rw [← hu] at O;obtain⟨e,_,rfl⟩:=mem_ofEvents O;rfl
 have aq:∀op∈u,∃e∈es,op.act=MemAct.ofEvent e:=λop O=>by rw [← hu] at O;obtain⟨e,he,rfl⟩:=mem_ofEvents O;exact⟨e,he,rfl⟩
 have hold:∀{y a},touchAt (t++u) y=some a->(touchAt t y=some a/\y<t.size)∨(Knows (t++u) i y/\(t++u).g? y=some i/\∃e∈es,(MemAct.ofEvent e).touch? =some a):=by
  intro y a a9;obtain⟨op,O,a1⟩:=touch_of a9;rcases getElem?_append_cases O with⟨aw,bb⟩ | ⟨_,ay⟩
  ·left;exact⟨by rw [touchAt_of bb];exact a1,aw⟩
  ·right;obtain⟨e,he,Y⟩:=aq op ay;exact⟨by have:=knows_own O;rwa [ac op ay] at this,by simp [Trace.g?,O,ac op ay],e,he,by rw [← Y];exact a1⟩
 have a2:∀k,k<j->late (φ (N0+k))->∀ρ,KE t (S (N0+k)).E ρ->KE (t++u) (S (N0+k)).E ρ:=λk K U ρ bd=>bd.app λop be a b a3 hb hw=>by
  obtain⟨e,he,Y⟩:=aq op be;rw [Y] at a3;exact a8 k K U e he a b a3 hb hw
 refine⟨λV Z=>?_,λV Z=>?_,λy a b ag hb al K V Z az=>?_,λy a b ag hb al K=>?_,λy a ag hb=>?_,OF h.over λop O=>?_,Ot h.norel λop O e=>?_,by simp;have:=h.Me;omega,λk K U=>?_⟩
 ·by_cases e:V=i
  ·subst e;rw [upd_same,← hu,Deaf_own,h.deaf V hi,hd]
  ·rw [upd_ne _ _ e,Deaf_other t (Ne.symm e) u ac];exact h.deaf V Z
 ·rw [Deaf_other t (by omega) u ac];exact h.above V Z
 ·rcases hold ag with⟨q,_⟩ | ⟨_,_,e,he,am⟩
  ·exact(h.plain y a b q hb al K V Z az).app _
  ·exact absurd K ((ap e he).1 a b am hb al).1
 ·rcases hold ag with⟨q,_⟩ | ⟨a4,_,e,he,am⟩
  ·exact(h.said y a b q hb al K).app _
  ·rw [← ((ap e he).1 a b am hb al).2 K];exact a4
 ·rcases hold ag with⟨q,a5⟩ | ⟨a4,a0,e,he,am⟩
  ·rcases h.F8 y a q hb with z | ⟨k,K,a0,bi,U⟩
   ·exact .inl λV Z az=>(z V Z az).app _
   ·exact .inr ⟨k,K,by rw [g?_old a5];exact a0,(counts_old a5).2 bi,U⟩
  ·obtain⟨k,K,bn,U,bo⟩:=(ap e he).2.1 a am hb;exact .inr ⟨k,K,by rw [a0,bn],⟨a,ag,by rw [U];rfl,.inl (by rw [bo];simp)⟩,U⟩
 ·rw [ac op O];rcases a7 with(q | q) | q
  ·exact .inl q
  ·exact .inr (.inl ⟨q,hi⟩)
  ·obtain⟨e,he,Y⟩:=aq op O;rw [Y];exact .inr (.inr (q e he))
 ·obtain⟨ev,bv,Y⟩:=aq op O;rw [Y] at e;exact(ap ev bv).2.2 (by
   obtain⟨loc,wr,bw⟩:=ev
   cases loc with
   | mark m=>simp only [MemAct.ofEvent,MemAct.mark.injEq] at e;rw [e]
   | obj r=>cases wr <;> cases bw <;> simp [MemAct.ofEvent] at e
   | _=>simp [MemAct.ofEvent] at e)
 ·by_cases e:i=N0+k
  ·subst e;rw [upd_same] at U;rw [upd_same];rcases aw k K rfl U with⟨a6,bx,bz⟩ | hh
   ·obtain⟨ρ,a,b,c⟩:=h.rel k K a6;exact⟨ρ,a,bz ρ b,by rw [bx];exact a2 k K a6 ρ c⟩
   ·exact hh
  ·rw [upd_ne _ _ (Ne.symm e)] at U;rw [upd_ne _ _ (Ne.symm e)];obtain⟨ρ,a,b,c⟩:=h.rel k K U;exact⟨ρ,a,b.appOther ac e,a2 k K U ρ c⟩
theorem ES.Dg(h:ES F N0 t0 N j φ S t)(hu:∀op∈u,op.act.touch? =none/\∀m,op.act≠ .mark m):ES F N0 t0 N j φ S (t++u):=by
 have am:∀g,Deaf (t++u) g=Deaf t g:=by
  intro g;obtain⟨l⟩:=u;rw [Deaf_append];have key:∀(l:List MemOp) (d:Nat),(∀op∈l,∀m,op.act≠ .mark m)->l.foldl (deafStep g) d=d:=by
   intro l
   induction l with
   | nil=>intro d _;rfl
   | cons z l aw=>
    intro d U;have ay:=U z (by simp);have e2:deafStep g d z=d:=by
     unfold deafStep;split <;> first | (rename_i e;exact absurd e (ay _)) | rfl
    rw [List.foldl_cons,e2];exact aw d λop K=>U op (by simp [K])
  exact key l _ λop K=>(hu op (by simpa using K)).2
 have hold:∀{y a},touchAt (t++u) y=some a->touchAt t y=some a/\y<t.size:=by
  intro y a Y;obtain⟨op,K,Z⟩:=touch_of Y;rcases getElem?_append_cases K with⟨az,a0⟩ | ⟨_,a1⟩
  ·exact⟨by rw [touchAt_of a0];exact Z,az⟩
  ·rw [(hu op a1).1] at Z;cases Z
 have a2:∀g x,t.size<=x->(t++u).g? x=some g->¬(t++u).counts x:=λg=>Uz λop K _=>(hu op K).1;refine⟨λi hi=>by rw [am];exact h.deaf i hi,λi hi=>by rw [am];exact h.above i hi,λy a b V hb ac O i hi ag=>(h.plain y a b (hold V).1 hb ac O i hi ag).app _,λy a b V hb ac O=>(h.said y a b (hold V).1 hb ac O).app _,λy a V hb=>?_,
  OF h.over λop K=> .inr (.inr (hu op K).1),Ot h.norel λop K=>(hu op K).2 _,by simp;have:=h.Me;omega,λk O U=>let ⟨ρ,a,b,c⟩:=h.rel k O U;⟨ρ,a,b.app λx Y al=>a2 _ x Y al,c.app λop K a b ap=>by rw [(hu op K).1] at ap;cases ap⟩⟩
 obtain⟨q,aq⟩:=hold V;rcases h.F8 y a q hb with z | ⟨k,O,al,a3,U⟩
 ·exact .inl λa4 a5 ag=>(z a4 a5 ag).app _
 ·exact .inr ⟨k,O,by rw [g?_old aq];exact al,(counts_old aq).2 a3,U⟩
theorem ES.spawn(h:ES F N0 t0 N j φ S t){φ':Nat->Nx}{S':Nat->St}(Z:0<N)(bb:N=N0+j)(hd:∀i,i<N->FF (φ' i)=FF (φ i))(a2:FF (φ' N)=0)(a3:FF (φ 0)=0)
  (a4:∀k,k<j+1->late (φ' (N0+k))->k<j/\late (φ (N0+k))/\(S' (N0+k)).E=(S (N0+k)).E)
  {x y:MemOp} (Y:x.g=0/\x.act= .go N) (ap:y.g=N/\y.act= .start):ES F N0 t0 (N+1) (j+1) φ' S' (t++ #[x,y]):=by
 have hu:∀op∈(#[x,y]:Array MemOp),op.act.touch? =none/\∀m,op.act≠ .mark m:=by
  intro op aq;simp only [List.mem_toArray,List.mem_cons,List.not_mem_nil,or_false] at aq;rcases aq with rfl | rfl
  ·rw [Y.2];exact⟨rfl,by simp⟩
  ·rw [ap.2];exact⟨rfl,by simp⟩
 have K:=h.Dg hu;have aw:∀z,Knows t 0 z->Knows (t++ #[x,y]) N z:=λz O=>fork_knows Y ap (by rw [h.deaf 0 Z];exact a3) (h.above N (Nat.le_refl _)) O;have hold:∀{z a},touchAt (t++ #[x,y]) z=some a->touchAt t z=some a:=by
  intro z a O;obtain⟨op,ac,U⟩:=touch_of O;rcases getElem?_append_cases ac with⟨ay,a5⟩ | ⟨_,ag⟩
  ·rw [touchAt_of a5];exact U
  ·rw [(hu op ag).1] at U;cases U
 refine⟨λi hi=>?_,λi hi=>K.above i (by omega),λz a b O hb az V i hi al=>?_,K.said,λz a O hb=>?_,λz g am a6 a7=>?_,K.norel,K.Me,λk V Y=>?_⟩
 ·rcases Nat.lt_or_ge i N with q | q
  ·rw [hd i q];exact K.deaf i q
  ·obtain rfl:i=N:=by omega
   rw [a2];exact K.above i (Nat.le_refl _)
 ·rcases Nat.lt_or_ge i N with q | q
  ·exact K.plain z a b O hb az V i q al
  ·obtain rfl:i=N:=by omega
   exact aw z (h.plain z a b (hold O) hb az V 0 Z (.inl rfl))
 ·have a0:z<t.size:=by
   obtain⟨op,ac,U⟩:=touch_of O;rcases getElem?_append_cases ac with⟨ay,_⟩ | ⟨_,ag⟩
   ·exact ay
   ·rw [(hu op ag).1] at U;cases U
  rcases h.F8 z a (hold O) hb with a1 | ⟨k,V,am,a8,a9⟩
  ·refine .inl λi hi al=>?_;rcases Nat.lt_or_ge i N with q | q
   ·exact(a1 i q al).app _
   ·obtain rfl:i=N:=by omega
    exact aw z (a1 0 Z (.inl rfl))
  ·exact .inr ⟨k,by omega,by rw [g?_old a0];exact am,(counts_old a0).2 a8,a9⟩
 ·rcases K.over z g am a6 a7 with q | q
  ·exact .inl q
  ·exact .inr ⟨q.1,by omega⟩
 ·obtain⟨a,b,c⟩:=a4 k V Y;rw [c];exact K.rel k a b
end
end Pal
namespace Pal
open Go Go.Conc
open Go.ConcN (upd upd_same upd_ne sumTo sumTo_upd sumTo_upd_out sumTo_congr le_sumTo sumTo_le)
def pH:LP->Nat
 | .len | .Ky | .JH | .Fu | .Gr | .JX | .JY | .JK | .HI=>1
 | _=>0
def pN:LP->Nat
 | .ER false=>1
 | _=>0
def pZ:LP->Nat
 | .ER true=>1
 | _=>0
def pV:LP->Nat
 | .FP | .Es _=>1
 | _=>0
def pT:LP->Nat
 | .Eg _ true _ | .Cj _ true _ _=>1
 | _=>0
def pQ:LP->Nat
 | .Ic _ | .Cv _=>1
 | _=>0
def pD:LP->Nat
 | .Ee _=>1
 | _=>0
def pX:LP->Nat
 | .EC _ | .G6=>1
 | _=>0
def oC(f:LP->Nat):Option LP->Nat
 | some p=>f p
 | none=>0
def LN(m:M4)(q h rn rs v t s d x:Nat):Prop:=
 h=m.l.toNat/\
 (m.s=false->rs=0/\d=0/\m.k.toNat=rn+q+v+t/\s=m.w+rn+q/\(m.l=false->m.k=false->1<=m.w->1<=x))/\
 (m.s=true->m.k=false/\rn=0/\t=0/\m.l.toNat+rs+q+v+d=1/\m.w=s+v+d/\1<=m.w)
def KY:LP->M4->Prop
 | .Cj sv aw it old,_=>(aw=true->old.k=true)/\(sv=true->aw=true)/\it<=4/\C9 old
 | .Eg sv aw it,_=>(sv=true->aw=true)/\it<=4
 | .Ee ex,m=>ex=false->2<=m.w
 | .EC old,_=>old.l=false/\old.k=false/\old.s=false/\old.w≠0/\C9 old
 | _,_=>True
section
variable {F:Fam}{p:LP}{m m':M4}{q q' h rn rs v t s d x:Nat}{es:Array Event}{o:Option LP}
theorem ZM(am:LN m q (pH p+h) (pN p+rn) (pZ p+rs) (pV p+v) (pT p+t) (pQ p+s) (pD p+d) (pX p+x))(K:KY p m)(V:C9 m)(ap:∀sv,p= .Cv sv->q≠0):Dy p m q:=by
 obtain⟨l,k,st,w⟩:=m;obtain⟨Y,O,U⟩:=am;cases p <;> simp only [Dy,KY] at K ⊢ <;> (try exact V)
 ·exact⟨K.1,K.2,V,λe=>by
   subst e
   simp only [pH,pN,pZ,pV,pT,pQ,pD,pX] at Y O U
   cases st
   ·have:=(O rfl).2.2.1
    cases k
    ·simp at this;omega
    ·rfl
   ·have:=(U rfl).2.2.1;omega⟩
 ·exact⟨K.1,K.2.1,K.2.2.1,K.2.2.2,V,λe=>by
   subst e
   simp only [pH,pN,pZ,pV,pT,pQ,pD,pX] at Y O U
   cases st
   ·have:=(O rfl).2.2.1
    cases k
    ·simp at this;omega
    ·rfl
   ·have:=(U rfl).2.2.1;omega⟩
 ·exact ap _ rfl
 ·simp only [pH,pN,pZ,pV,pT,pQ,pD,pX] at Y O U;refine⟨λe=>?_,λe=>?_,V⟩
  ·subst e;obtain⟨a1,ag,ac,Z,aq,al⟩:=U rfl;cases l
   ·exact⟨rfl,a1,by omega⟩
   ·simp at Z;omega
  ·subst e;obtain⟨a1,ag,ac,Z⟩:=O rfl;cases k
   ·simp at ac;omega
   ·rfl
 ·simp only [pH,pN,pZ,pV,pT,pQ,pD,pX] at Y O U;cases st
  ·have:=(O rfl).2.1;omega
  ·obtain⟨a1,ag,ac,Z,aq,al⟩:=U rfl;cases l
   ·exact⟨rfl,rfl,a1,al,K,V⟩
   ·simp at Z;omega
 ·simp only [pH,pN,pZ,pV,pT,pQ,pD,pX] at Y;cases l
  ·simp at Y
  ·exact⟨rfl,V⟩
 ·exact⟨K.1,K.2.1,K.2.2.1,K.2.2.2.1,K.2.2.2.2,V⟩
 ·refine⟨?_,V⟩;have aw:k.toNat<=1:=Bool.toNat_le k;cases st
  ·have:=(O rfl).2.2.1;simp only at this;omega
  ·have:=(U rfl).2.2.2.1;simp only at this;omega
set_option maxHeartbeats 1000000 in
theorem LN.step(K:(m',q',es,o)∈F.BX p m q)(U:Dy p m q)(O:LN m q (pH p+h) (pN p+rn) (pZ p+rs) (pV p+v) (pT p+t) (pQ p+s) (pD p+d) (pX p+x)):
  LN m' q' (oC pH o+h) (oC pN o+rn) (oC pZ o+rs) (oC pV o+v) (oC pT o+t) (oC pQ o+s) (oC pD o+d) (oC pX o+x):=by
 obtain⟨l,k,st,w⟩:=m;cases p <;> simp only [Fam.BX,List.mem_singleton,Prod.mk.injEq,List.not_mem_nil] at K
 case FT=>obtain⟨rfl,rfl,-,rfl⟩:=K;exact O
 case G4=>
  split at K
  ·rename_i e;simp only [M4.zero,M4.mk.injEq] at e;obtain⟨rfl,rfl,rfl,rfl⟩:=e;simp only [List.mem_singleton,Prod.mk.injEq] at K;obtain⟨rfl,rfl,-,rfl⟩:=K;simp [LN,pH,pN,pZ,pV,pT,pQ,pD,pX,oC] at O ⊢;omega
  ·simp only [List.mem_singleton,Prod.mk.injEq] at K;obtain⟨rfl,rfl,-,rfl⟩:=K;exact O
 case Eg sv aw it=>obtain⟨rfl,rfl,-,rfl⟩:=K;cases aw <;> exact O
 case Cj sv aw it old=>
  simp only [Fam.Fq,List.mem_append] at K;simp only [Dy] at U;obtain⟨k1,V,Y,Z,al,-⟩:=U;rcases K with K | K
  ·split at K
   ·rename_i c;split at K
    ·rename_i c2;simp only [List.mem_singleton] at K;obtain⟨rfl,c3,c4⟩:=c2;split at K
     ·rename_i e;subst e;simp only [Prod.mk.injEq] at K;obtain⟨rfl,rfl,-,rfl⟩:=K;simp only at c c3 c4;obtain⟨rfl,rfl,-⟩:=c;subst c3;simp [LN,pH,pN,pZ,pV,pT,pQ,pD,pX,oC] at O ⊢;omega
     ·simp only [Prod.mk.injEq] at K;obtain⟨rfl,rfl,-,rfl⟩:=K;exact O
    ·simp only [List.mem_singleton,Prod.mk.injEq] at K;obtain⟨rfl,rfl,-,rfl⟩:=K;cases aw <;> exact O
   ·simp at K
  ·split at K
   ·rename_i e;subst e;split at K
    ·rename_i c;simp only [List.mem_singleton,Prod.mk.injEq] at K;obtain⟨rfl,rfl,-,rfl⟩:=K;simp only at c;obtain⟨rfl,rfl⟩:=c;cases aw <;> cases k <;> simp [LN,pH,pN,pZ,pV,pT,pQ,pD,pX,oC] at O k1 ⊢ <;> omega
    ·rename_i c;have key:∀o',(o'=some (LP.Ic sv)∨o'=some (LP.Cv sv))->LN ⟨l,!aw&&k,st || (sv&&l),w+1⟩ q (oC pH o'+h) (oC pN o'+rn) (oC pZ o'+rs) (oC pV o'+v) (oC pT o'+t) (oC pQ o'+s) (oC pD o'+d) (oC pX o'+x):=by
      intro o' am;have ac:oC pH o'=0/\oC pN o'=0/\oC pZ o'=0/\oC pV o'=0/\oC pT o'=0/\oC pQ o'=1/\oC pD o'=0/\oC pX o'=0:=by
       rcases am with rfl | rfl <;> exact⟨rfl,rfl,rfl,rfl,rfl,rfl,rfl,rfl⟩
      obtain⟨ac,e2,ap,aq,ay,az,a0,a1⟩:=ac;rw [ac,e2,ap,aq,ay,az,a0,a1];cases l <;> cases st <;> cases k <;> cases aw <;> cases sv <;> simp [LN,pH,pN,pZ,pV,pT,pQ,pD,pX] at O k1 V c ⊢ <;> omega
     simp only [List.mem_cons,List.not_mem_nil,or_false,Prod.mk.injEq] at K;rcases K with⟨rfl,rfl,-,rfl⟩ | ⟨rfl,rfl,-,rfl⟩
     ·exact key _ (.inl rfl)
     ·exact key _ (.inr rfl)
   ·simp only [List.mem_singleton,Prod.mk.injEq] at K;obtain⟨rfl,rfl,-,rfl⟩:=K;cases aw <;> exact O
 case Ic sv=>obtain⟨rfl,rfl,-,rfl⟩:=K;exact O
 case Cv sv=>
  obtain⟨rfl,rfl,-,rfl⟩:=K;simp only [Dy] at U;cases st <;> cases k <;> cases l <;> cases sv <;> simp [LN,pH,pN,pZ,pV,pT,pQ,pD,pX,oC] at O ⊢ <;> omega
 case FP=>
  simp only [List.mem_cons,List.not_mem_nil,or_false,Prod.mk.injEq] at K;rcases K with⟨rfl,rfl,-,rfl⟩ | ⟨rfl,rfl,-,rfl⟩ <;> exact O
 case Es sv=>
  simp only [Dy] at U;split at K
  ·rename_i c;simp only [List.mem_singleton,Prod.mk.injEq] at K;obtain⟨rfl,rfl,-,rfl⟩:=K;have c:st=true:=c;subst c;cases k <;> cases l <;> simp [LN,pH,pN,pZ,pV,pT,pQ,pD,pX,oC] at O ⊢ <;> omega
  ·rename_i c;simp only [List.mem_singleton,Prod.mk.injEq] at K;obtain⟨rfl,rfl,-,rfl⟩:=K;cases st
   ·cases k <;> cases l <;> simp [LN,pH,pN,pZ,pV,pT,pQ,pD,pX,oC] at O ⊢ <;> omega
   ·exact absurd rfl c
 case Ee ex=>
  obtain⟨rfl,rfl,-,rfl⟩:=K;simp only [Dy] at U;obtain⟨rfl,rfl,rfl,Z,al,-⟩:=U;cases ex <;> simp [LN,pH,pN,pZ,pV,pT,pQ,pD,pX,oC] at O al ⊢ <;> omega
 case len=>obtain⟨rfl,rfl,-,rfl⟩:=K;exact O
 case Ky=>obtain⟨rfl,rfl,-,rfl⟩:=K;exact O
 case JH=>obtain⟨rfl,rfl,-,rfl⟩:=K;exact O
 case Gr=>obtain⟨rfl,rfl,-,rfl⟩:=K;exact O
 case JX=>obtain⟨rfl,rfl,-,rfl⟩:=K;exact O
 case JY=>obtain⟨rfl,rfl,-,rfl⟩:=K;exact O
 case JK=>obtain⟨rfl,rfl,-,rfl⟩:=K;exact O
 case HI=>
  obtain⟨rfl,rfl,-,rfl⟩:=K;simp only [Dy] at U;obtain⟨rfl,-⟩:=U;rcases Nat.eq_zero_or_pos w with rfl | hw
  ·cases st <;> cases k <;> simp [LN,pH,pN,pZ,pV,pT,pQ,pD,pX,oC] at O ⊢ <;> omega
  ·have ag:¬w=0:=by omega
   cases st <;> cases k <;> simp [LN,pH,pN,pZ,pV,pT,pQ,pD,pX,oC,ag] at O ⊢ <;> omega
 case EC old=>
  simp only [Dy] at U;obtain⟨k1,V,Y,Z,-⟩:=U;split at K
  ·rename_i e;subst e;simp only at k1 V Y Z;subst k1 V Y;simp only [List.mem_singleton,Prod.mk.injEq] at K;obtain⟨rfl,rfl,-,rfl⟩:=K;simp [LN,pH,pN,pZ,pV,pT,pQ,pD,pX,oC] at O ⊢;omega
  ·simp only [List.mem_singleton,Prod.mk.injEq] at K;obtain⟨rfl,rfl,-,rfl⟩:=K;exact O
 case G6=>
  obtain⟨rfl,rfl,-,rfl⟩:=K;rcases Nat.eq_zero_or_pos w with rfl | hw
  ·cases st <;> cases k <;> cases l <;> simp [LN,pH,pN,pZ,pV,pT,pQ,pD,pX,oC] at O ⊢ <;> omega
  ·have ag:¬w=0:=by omega
   cases st <;> cases k <;> cases l <;> simp [LN,pH,pN,pZ,pV,pT,pQ,pD,pX,oC,ag] at O ⊢ <;> omega
 case ER b=>
  obtain⟨rfl,rfl,-,rfl⟩:=K;cases b <;> cases st <;> cases k <;> cases l <;> simp [LN,pH,pN,pZ,pV,pT,pQ,pD,pX,oC] at O ⊢ <;> omega
 case EU=>obtain⟨rfl,rfl,-,rfl⟩:=K;exact O
theorem LN.awake(O:LN m q (pH p+h) (pN p+rn) (pZ p+rs) (pV p+v) (pT p+t) (pQ p+s) (pD p+d) (pX p+x))(ac:pT p=1):m.k=true:=by
 obtain⟨l,k,st,w⟩:=m;obtain⟨ag,U,V⟩:=O;cases st
 ·obtain⟨a1,Y,K,Z⟩:=U rfl;cases k
  ·simp at K;omega
  ·rfl
 ·obtain⟨a1,Y,K,Z⟩:=V rfl;omega
theorem LN.bM(K:(m',q',es,o)∈F.BX p m q)(O:Dy p m q)(Y:KY p m)(U:C9 m)(ag:LN m q (pH p+h) (pN p+rn) (pZ p+rs) (pV p+v) (pT p+t) (pQ p+s) (pD p+d) (pX p+x)):∀Z,o=some Z->KY Z m':=by
 have ac:=λal=>ag.awake al;cases p <;> simp only [Fam.BX,List.mem_singleton,Prod.mk.injEq,List.not_mem_nil] at K
 case G4=>
  split at K <;> simp only [List.mem_singleton,Prod.mk.injEq] at K <;> obtain⟨rfl,rfl,-,rfl⟩:=K <;> rintro _ ⟨⟩ <;> simp [KY]
 case Eg sv aw it=>
  obtain⟨rfl,rfl,-,rfl⟩:=K;rintro _ ⟨⟩;exact⟨λe=>by subst e;exact ac rfl,Y.1,Y.2,U⟩
 case Cj sv aw it old=>
  simp only [Fam.Fq,List.mem_append] at K;simp only [Dy] at O;obtain⟨k1,V,am,ap,aq,-⟩:=O;rcases K with K | K
  ·split at K
   ·rename_i c;split at K
    ·simp only [List.mem_singleton] at K;split at K <;> simp only [Prod.mk.injEq] at K <;> obtain⟨rfl,rfl,-,rfl⟩:=K <;> rintro _ ⟨⟩
     ·exact⟨λ_=>rfl,by omega⟩
     ·exact⟨V,by omega⟩
    ·simp only [List.mem_singleton,Prod.mk.injEq] at K;obtain⟨rfl,rfl,-,rfl⟩:=K;rintro _ ⟨⟩;exact⟨λe=>by subst e;exact ac rfl,V,by omega,U⟩
   ·simp at K
  ·split at K
   ·split at K
    ·simp only [List.mem_singleton,Prod.mk.injEq] at K;obtain⟨rfl,rfl,-,rfl⟩:=K;rintro _ ⟨⟩;trivial
    ·simp only [List.mem_cons,List.not_mem_nil,or_false,Prod.mk.injEq] at K;rcases K with⟨rfl,rfl,-,rfl⟩ | ⟨rfl,rfl,-,rfl⟩ <;> rintro _ ⟨⟩ <;> trivial
   ·simp only [List.mem_singleton,Prod.mk.injEq] at K;obtain⟨rfl,rfl,-,rfl⟩:=K;rintro _ ⟨⟩;exact⟨V,am⟩
 case Cv sv=>
  obtain⟨rfl,rfl,-,rfl⟩:=K;rintro _ h;cases sv <;> cases h <;> trivial
 case FP=>
  simp only [List.mem_cons,List.not_mem_nil,or_false,Prod.mk.injEq] at K;rcases K with⟨rfl,rfl,-,rfl⟩ | ⟨rfl,rfl,-,rfl⟩ <;> rintro _ ⟨⟩ <;> trivial
 case Es sv=>
  simp only [Dy] at O;split at K
  ·rename_i c;simp only [List.mem_singleton,Prod.mk.injEq] at K;obtain⟨rfl,rfl,-,rfl⟩:=K;rintro _ ⟨⟩;intro e;have:=(O.1 c).2.2;simp at e;omega
  ·rename_i c;simp only [List.mem_singleton,Prod.mk.injEq] at K;obtain⟨rfl,rfl,-,rfl⟩:=K;rintro _ ⟨⟩;exact⟨λ_=>O.2.1 (by simpa using c),λ_=>rfl,by omega,U⟩
 case HI=>
  obtain⟨rfl,rfl,-,rfl⟩:=K;rintro _ h;split at h
  ·cases h;trivial
  ·rename_i c;split at h
   ·rename_i c2;cases h;exact⟨rfl,c2.1,by simpa using c,c2.2,U⟩
   ·cases h;trivial
 case EC old=>
  split at K <;> simp only [List.mem_singleton,Prod.mk.injEq] at K <;> obtain⟨rfl,rfl,-,rfl⟩:=K <;> rintro _ ⟨⟩ <;> trivial
 case G6=>
  obtain⟨rfl,rfl,-,rfl⟩:=K;rintro _ h;split at h
  ·rename_i c;cases h;exact⟨c.1,c.2.1,c.2.2.1,c.2.2.2,U⟩
  ·cases h;trivial
 all_goals
  obtain⟨rfl,rfl,-,rfl⟩:=K;rintro _ ⟨⟩
 all_goals trivial
theorem LN.keepW(K:(m',q',es,o)∈F.BX p m q)(O:Dy p m q)(U:LN m q (pH p+h) (pN p+rn) (pZ p+rs) (pV p+v) (pT p+t) (pQ p+s) (pD p+d) (pX p+x))(hd:1<=d):m.w<=m'.w:=by
 obtain⟨l,k,st,w⟩:=m;obtain⟨ag,V,Y⟩:=U;have Z:st=true:=by
  cases st
  ·have:=(V rfl).2.1;omega
  ·rfl
 subst Z;obtain⟨a1,al,am,ac,ap,aq⟩:=Y rfl;cases p <;> simp only [Fam.BX,List.mem_singleton,Prod.mk.injEq,List.not_mem_nil] at K
 case G4=>split at K <;> simp only [List.mem_singleton,Prod.mk.injEq] at K <;> obtain⟨rfl,rfl,-,rfl⟩:=K <;> simp_all [M4.zero]
 case Cj sv aw it old=>
  simp only [Fam.Fq,List.mem_append] at K;rcases K with K | K
  ·split at K
   ·split at K
    ·simp only [List.mem_singleton] at K;split at K <;> simp only [Prod.mk.injEq] at K <;> obtain⟨rfl,rfl,-,rfl⟩:=K <;> exact Nat.le_refl _
    ·simp only [List.mem_singleton,Prod.mk.injEq] at K;obtain⟨rfl,rfl,-,rfl⟩:=K;exact Nat.le_refl _
   ·simp at K
  ·split at K
   ·split at K
    ·simp only [List.mem_singleton,Prod.mk.injEq] at K;obtain⟨rfl,rfl,-,rfl⟩:=K;exact Nat.le_refl _
    ·simp only [List.mem_cons,List.not_mem_nil,or_false,Prod.mk.injEq] at K;rcases K with⟨rfl,rfl,-,rfl⟩ | ⟨rfl,rfl,-,rfl⟩ <;> simp
   ·simp only [List.mem_singleton,Prod.mk.injEq] at K;obtain⟨rfl,rfl,-,rfl⟩:=K;exact Nat.le_refl _
 case FP=>
  simp only [List.mem_cons,List.not_mem_nil,or_false,Prod.mk.injEq] at K;rcases K with⟨rfl,rfl,-,rfl⟩ | ⟨rfl,rfl,-,rfl⟩ <;> exact Nat.le_refl _
 case Es sv=>split at K <;> simp only [List.mem_singleton,Prod.mk.injEq] at K <;> obtain⟨rfl,rfl,-,rfl⟩:=K <;> exact Nat.le_refl _
 case Ee ex=>simp only [pD] at ac;omega
 case EC old=>
  simp only [Dy] at O;split at K
  ·rename_i e;subst e;exact absurd O.2.2.1 (by simp)
  ·simp only [List.mem_singleton,Prod.mk.injEq] at K;obtain⟨rfl,rfl,-,rfl⟩:=K;exact Nat.le_refl _
 all_goals
  obtain⟨rfl,rfl,-,rfl⟩:=K;exact Nat.le_refl _
end
def Dc(f:LP->Nat):Nx->Nat
 | .ph (.lk _ p)=>f p
 | _=>0
def NJ:Nx->M4->Prop
 | .ph (.lk _ p),m=>KY p m
 | _,_=>True
def Sg(f:LP->Nat)(N:Nat)(φ:Nat->Nx):Nat:=sumTo N λi=>Dc f (φ i)
structure LI (N:Nat) (φ:Nat->Nx) (m:M4) (q:Nat):Prop where
 ln:LN m q (Sg pH N φ) (Sg pN N φ) (Sg pZ N φ) (Sg pV N φ) (Sg pT N φ) (Sg pQ N φ) (Sg pD N φ) (Sg pX N φ)
 loc:∀i,i<N->NJ (φ i) m
section
variable {F:Fam}{N i k:Nat}{φ:Nat->Nx}{p:LP}{m m':M4}{q q':Nat}{es:Array Event}{o:Option LP}{y:Nx}
theorem Py(f:LP->Nat)(hi:i<N):Sg f N (upd φ i y)+Dc f (φ i)=Sg f N φ+Dc f y:=sumTo_upd φ y (Dc f) hi
theorem Fy(f:LP->Nat)(hi:i<N)(K:φ i= .ph (.lk k p)):∃r,Sg f N φ=f p+r/\∀o,Sg f N (upd φ i (.ph (Fam.Db k o)))=oC f o+r:=by
 have O:Dc f (φ i)<=Sg f N φ:=le_sumTo (f:=λi=>Dc f (φ i)) hi;have e:Dc f (φ i)=f p:=by rw [K];rfl
 refine⟨Sg f N φ - f p,by omega,λo=>?_⟩;have U:=Py (φ:=φ) (y:= .ph (Fam.Db k o)) f hi;have V:Dc f (.ph (Fam.Db k o))=oC f o:=by cases o <;> rfl
 omega
theorem Nc(f:LP->Nat)(hi:i<N)(K:Dc f (φ i)=Dc f y):Sg f N (upd φ i y)=Sg f N φ:=by
 have:=Py (φ:=φ) (y:=y) f hi;omega
theorem LI.other(h:LI N φ m q)(hi:i<N)(U:∀k p,φ i≠ .ph (.lk k p))(K:∀k p,y≠ .ph (.lk k p)):LI N (upd φ i y) m q:=by
 have z:∀(f:LP->Nat) x,(∀k p,x≠Nx.ph (.lk k p))->Dc f x=0:=by
  intro f x V;cases x with
  | gone d=>rfl
  | ph p=>cases p <;> first | rfl | exact absurd rfl (V _ _)
 have e:∀f,Sg f N (upd φ i y)=Sg f N φ:=λf=>Nc f hi (by rw [z f _ U,z f _ K]);refine⟨by simp only [e];exact h.ln,λa Y=>?_⟩;by_cases O:a=i
 ·subst O;rw [upd_same];cases y with
  | gone d=>trivial
  | ph p=>cases p <;> first | trivial | exact absurd rfl (K _ _)
 ·rw [upd_ne _ _ O];exact h.loc a Y
theorem LI.ok(h:LI N φ m q)(hi:i<N)(K:φ i= .ph (.lk k p))(V:C9 m)(Y:∀sv,p= .Cv sv->q≠0):Dy p m q:=by
 obtain⟨a,Z,-⟩:=Fy pH hi K;obtain⟨b,ac,-⟩:=Fy pN hi K;obtain⟨c,ag,-⟩:=Fy pZ hi K;obtain⟨d,al,-⟩:=Fy pV hi K;obtain⟨e,am,-⟩:=Fy pT hi K;obtain⟨f,ap,-⟩:=Fy pQ hi K;obtain⟨g,aq,-⟩:=Fy pD hi K;obtain⟨j,aw,-⟩:=Fy pX hi K;have O:=h.ln;rw [Z,ac,ag,al,am,ap,aq,aw] at O;have U:=h.loc i hi;rw [K] at U;exact ZM O U V Y
theorem LI.step(h:LI N φ m q)(hi:i<N)(K:φ i= .ph (.lk k p))(ap:C9 m)(U:Dy p m q)(V:(m',q',es,o)∈F.BX p m q):LI N (upd φ i (.ph (Fam.Db k o))) m' q':=by
 obtain⟨a,aq,aw⟩:=Fy pH hi K;obtain⟨b,ay,az⟩:=Fy pN hi K;obtain⟨c,a0,a1⟩:=Fy pZ hi K;obtain⟨d,a2,a3⟩:=Fy pV hi K;obtain⟨e,a4,a5⟩:=Fy pT hi K;obtain⟨f,a6,a7⟩:=Fy pQ hi K;obtain⟨g,a8,a9⟩:=Fy pD hi K;obtain⟨j,bb,bd⟩:=Fy pX hi K;have O:=h.ln;rw [aq,ay,a0,a2,a4,a6,a8,bb] at O;have ac:=h.loc i hi;rw [K] at ac;refine⟨by rw [aw,az,a1,a3,a5,a7,a9,bd];exact O.step V U,λy ag=>?_⟩;by_cases Y:y=i
 ·subst Y;rw [upd_same];cases o with
  | none=>trivial
  | some be=>exact O.bM V U ac ap be rfl
 ·rw [upd_ne _ _ Y];have Z:=h.loc y ag;cases al:φ y with
  | gone d=>trivial
  | ph p0=>
   cases p0 with
   | lk bi p0=>
    rw [al] at Z;cases p0 <;> try exact Z
    rename_i ex;intro bn;have hd:1<=g:=by
     have bo:=Py (N:=N) (φ:=φ) (i:=i) (y:= .gone 0) pD hi;have am:Dc pD (upd φ i (.gone 0) y)<=Sg pD N (upd φ i (.gone 0)):=le_sumTo (f:=λa=>Dc pD (upd φ i (.gone 0) a)) ag;rw [upd_ne _ _ Y,al] at am;have bv:Dc pD (φ i)=pD p:=by rw [K];rfl
     have e2:Dc pD (.gone 0)=0:=rfl;have bw:Dc pD (.ph (.lk bi (.Ee ex)))=1:=rfl;omega
    have:=O.keepW V U hd;have am:2<=m.w:=Z bn;omega
   | _=>trivial
end
def He:LP->Nat
 | .len=>22 | .Ky=>21 | .JH=>20 | .Fu=>19 | .Gr=>18 | .JX=>17 | .JY=>16 | .JK=>15 | .HI=>14
 | .EC _=>13 | .G6=>13 | .ER _=>12 | .EU=>11
 | _=>23
def kw:LP->Nat
 | .FT | .G4=>2
 | .Eg _ aw _=>if aw then 1 else 2
 | .Cj _ aw _ _=>if aw then 1 else 2
 | .FP | .Es _ | .Ee _=>1
 | _=>0
def lc(m:M4):LP->Nat
 | .FT=>27 | .G4=>26 | .Eg _ _ it=>2*(5 - it)+1
 | .Cj _ _ it old=>2*(5 - it)+if m=old then 0 else 2
 | .Ic _=>24 | .Cv _=>23 | .FP=>22 | .Es _=>21
 | .EC old=>if m=old then 1 else 3
 | .G6=>2
 | _=>0
def wO:Option LP->Nat
 | some p=>He p
 | none=>9
def wt(n:Nat):Nx->Nat
 | .gone _=>0
 | .ph p=>match p with
  | .G2 _=>10 | .HK=>9 | .Gm=>8 | .IF=>7 | .Ha=>6 | .GD=>5 | .GZ=>4 | .Fc=>3
  | .Dl=>3*n+25 | .FQ m=>3*m+20 | .G7 m=>3*m+19 | .Ir=>14 | .HO=>13 | .Fs=>12 | .G0=>11 | .FW=>10 | .Ij=>9 | .F5=>8 | .Hu=>7
  | .F3 j=>5*n+90+50*(n - j) | .Ik j=>5*n+89+50*(n - j) | .Im j=>5*n+88+50*(n - j) | .HE j=>5*n+87+50*(n - j) | .GM j=>5*n+86+50*(n - j) | .FG j=>5*n+85+50*(n - j)
  | .GG=>5*n+60 | .FA _ _=>2
  | .lk _ p=>He p
theorem ae{F:Fam}{p:Ph}{v w sm v' w' sm':Nat}{es:Array Event}{K:Nx}(h:F.act p v w sm=some ((v',w',sm'),es,K)):wt F.n K<wt F.n (.ph p):=by
  cases p <;> simp only [Fam.act] at h <;> (try (cases h;done))
  case Ha=>
    split at h
    ·cases h;split <;> simp [wt]
    ·cases h
  case FQ=>
    split at h
    ·cases h;split <;> simp [wt] <;> omega
    ·cases h
  case G7=>
    split at h
    ·split at h <;> cases h <;> simp [wt] <;> omega
    ·cases h
  case Ik=>
    split at h
    ·cases h;split <;> simp [wt]
    ·cases h
  all_goals first
    | (cases h;simp [wt];done)
    | (split at h
       ·cases h;simp [wt]
       ·cases h)
section
variable {F:Fam}{p:LP}{m m':M4}{q q':Nat}{es:Array Event}{o:Option LP}
theorem XZ(K:(m',q',es,o)∈F.BX p m q)(O:Dy p m q):wO o<He p∨(wO o=He p/\(oC kw o+q'<kw p+q∨(oC kw o+q'=kw p+q/\m'=m/\oC (lc m) o<lc m p))):=by
 cases p <;> simp only [Fam.BX,List.mem_singleton,Prod.mk.injEq,List.not_mem_nil] at K
 case G4=>
  split at K <;> simp only [List.mem_singleton,Prod.mk.injEq] at K <;> obtain⟨rfl,rfl,-,rfl⟩:=K
  ·exact .inl (by simp [wO,He])
  ·exact .inr ⟨rfl,.inr ⟨rfl,rfl,by simp [oC,lc]⟩⟩
 case Eg sv aw it=>
  obtain⟨rfl,rfl,-,rfl⟩:=K;exact .inr ⟨rfl,.inr ⟨rfl,rfl,by simp [oC,lc]⟩⟩
 case Cj sv aw it old=>
  simp only [Fam.Fq,List.mem_append] at K;simp only [Dy] at O;obtain⟨k1,U,V,Y,Z,-⟩:=O;rcases K with K | K
  ·split at K
   ·rename_i c;split at K
    ·rename_i c2;simp only [List.mem_singleton] at K;obtain⟨rfl,c3,c4⟩:=c2;split at K <;> simp only [Prod.mk.injEq] at K <;> obtain⟨rfl,rfl,-,rfl⟩:=K
     ·exact .inr ⟨rfl,.inl (by simp [oC,kw])⟩
     ·rename_i e;refine .inr ⟨rfl,.inr ⟨rfl,rfl,?_⟩⟩;simp only [oC,lc,if_neg e];omega
    ·simp only [List.mem_singleton,Prod.mk.injEq] at K;obtain⟨rfl,rfl,-,rfl⟩:=K;refine .inr ⟨rfl,.inr ⟨rfl,rfl,?_⟩⟩;simp only [oC,lc,if_true];omega
   ·simp at K
  ·split at K
   ·rename_i e;split at K
    ·simp only [List.mem_singleton,Prod.mk.injEq] at K;obtain⟨rfl,rfl,-,rfl⟩:=K;exact .inl (by simp [wO,He])
    ·simp only [List.mem_cons,List.not_mem_nil,or_false,Prod.mk.injEq] at K;rcases K with⟨rfl,rfl,-,rfl⟩ | ⟨rfl,rfl,-,rfl⟩ <;> exact .inr ⟨rfl,.inl (by cases aw <;> simp [oC,kw])⟩
   ·rename_i e;simp only [List.mem_singleton,Prod.mk.injEq] at K;obtain⟨rfl,rfl,-,rfl⟩:=K;refine .inr ⟨rfl,.inr ⟨rfl,rfl,?_⟩⟩;simp only [oC,lc,if_neg e];omega
 case Cv sv=>
  obtain⟨rfl,rfl,-,rfl⟩:=K;simp only [Dy] at O;cases sv
  ·refine .inr ⟨rfl,.inr ⟨?_,rfl,by simp [oC,lc]⟩⟩;simp only [oC,kw,Bool.false_eq_true,if_false];omega
  ·refine .inr ⟨rfl,.inr ⟨?_,rfl,by simp [oC,lc]⟩⟩;simp only [oC,kw,if_true];omega
 case FP=>
  simp only [List.mem_cons,List.not_mem_nil,or_false,Prod.mk.injEq] at K;rcases K with⟨rfl,rfl,-,rfl⟩ | ⟨rfl,rfl,-,rfl⟩ <;> exact .inr ⟨rfl,.inr ⟨rfl,rfl,by simp [oC,lc]⟩⟩
 case Es sv=>
  split at K <;> simp only [List.mem_singleton,Prod.mk.injEq] at K <;> obtain⟨rfl,rfl,-,rfl⟩:=K <;> exact .inr ⟨rfl,.inr ⟨rfl,rfl,by simp [oC,lc]⟩⟩
 case HI=>
  obtain⟨rfl,rfl,-,rfl⟩:=K;refine .inl ?_;split
  ·simp [wO,He]
  ·split <;> simp [wO,He]
 case EC old=>
  split at K <;> simp only [List.mem_singleton,Prod.mk.injEq] at K <;> obtain⟨rfl,rfl,-,rfl⟩:=K
  ·exact .inl (by simp [wO,He])
  ·rename_i e;refine .inr ⟨rfl,.inr ⟨rfl,rfl,?_⟩⟩;simp only [oC,lc,if_neg e];omega
 case G6=>
  obtain⟨rfl,rfl,-,rfl⟩:=K;split
  ·exact .inr ⟨rfl,.inr ⟨rfl,rfl,by simp [oC,lc]⟩⟩
  ·exact .inl (by simp [wO,He])
 case Ic sv=>obtain⟨rfl,rfl,-,rfl⟩:=K;exact .inr ⟨rfl,.inr ⟨rfl,rfl,by simp [oC,lc]⟩⟩
 case FT=>obtain⟨rfl,rfl,-,rfl⟩:=K;exact .inr ⟨rfl,.inr ⟨rfl,rfl,by simp [oC,lc]⟩⟩
 all_goals
  obtain⟨rfl,rfl,-,rfl⟩:=K;exact .inl (by simp [wO,He])
end
def Dn(N:Nat)(r' r:Nat->Rk):Prop:=∃i,i<N/\Rk.sub (r' i) (r i)/\∀j,j≠i->r' j=r j
theorem Dn.wf:∀N,WellFounded (Dn N)
 | 0=>⟨λ_=>⟨_,λ_ ⟨_,h,_⟩=>by omega⟩⟩
 | N+1=>⟨by
  have key:∀x:Rk,∀r:Nat->Rk,r N=x->Acc (Dn (N+1)) r:=by
   intro x
   induction x using Rk.wf.induction with
   | _ x V=>
    intro r
    induction r using (Dn.wf N).induction with
    | _ r Y=>
     intro e
     refine⟨_,λr' ⟨i,hi,K,O⟩=>?_⟩
     by_cases U:i=N
     ·subst U;exact V (r' i) (by rw [← e];exact K) r' rfl
     ·exact Y r' ⟨i,by omega,K,O⟩ (by rw [O N (Ne.symm U),e])
  exact λr=>key _ r rfl⟩
def chain:Nat->Rk
 | 0=> .leaf
 | n+1=> .node λ_=>chain n
theorem Wi(n:Nat)(w:World):Rk.sub (chain n) (chain (n+1)):=⟨_,w,V,V⟩
structure Mu where
 a:Nat
 k:Nat
 l:Nat
 N:Nat
 r:Nat->Rk
 b:Nat
def Mu.lt(x y:Mu):Prop:=x.a<y.a∨(x.a=y.a/\(x.k<y.k∨(x.k=y.k/\(x.l<y.l∨(x.l=y.l/\x.N=y.N/\(Dn y.N x.r y.r∨(x.r=y.r/\x.b<y.b)))))))
theorem Mu.wf:WellFounded Mu.lt:=⟨by
 have key:∀(a k l N:Nat) (r:Nat->Rk) (b:Nat),Acc Mu.lt ⟨a,k,l,N,r,b⟩:=by
  intro a
  induction a using Nat.strongRecOn with
  | _ a ac=>
   intro k
   induction k using Nat.strongRecOn with
   | _ k ag=>
    intro l
    induction l using Nat.strongRecOn with
    | _ l al=>
     intro N r
     induction r using (Dn.wf N).induction with
     | _ r am=>
      intro b
      induction b using Nat.strongRecOn with
      | _ b ap=>
       refine⟨_,λ⟨aq,k',l',N',r',b'⟩ h=>?_⟩
       rcases h with h | ⟨K,h | ⟨O,h | ⟨U,V,h | ⟨Y,Z⟩⟩⟩⟩
       ·exact ac aq h k' l' N' r' b'
       ·simp only at K h;subst K;exact ag k' h l' N' r' b'
       ·simp only at K O h;subst K O;exact al l' h N' r' b'
       ·simp only at K O U V h;subst K O U V;exact am r' h b'
       ·simp only at K O U V Y Z;subst K O U V Y;exact ap b' Z
 exact λ⟨a,k,l,N,r,b⟩=>key a k l N r b⟩
def bit(b:Bool):Nat:=if b then 1 else 0
def mu(F:Fam)(N:Nat)(φ:Nat->Nx)(m:M4)(q:Nat)(r:Nat->Rk)(bt:Nat->Bool):Mu:=⟨sumTo N λi=>wt F.n (φ i),Sg kw N φ+q,Sg (lc m) N φ,N,r,sumTo N λi=>bit (bt i)⟩
section
variable {F:Fam}{N N' i k:Nat}{φ φ':Nat->Nx}{p:LP}{m m':M4}{q q':Nat}{es:Array Event}{o:Option LP}{r r':Nat->Rk}{b b':Nat->Bool}{x:Nx}{ρ:Rk}
theorem aR(h:(sumTo N' λi=>wt F.n (φ' i))<sumTo N λi=>wt F.n (φ i)):Mu.lt (mu F N' φ' m' q' r' b') (mu F N φ m q r b):= .inl h
theorem TS(hi:i<N)(h:wt F.n x<wt F.n (φ i)):Mu.lt (mu F N (upd φ i x) m' q' r' b') (mu F N φ m q r b):=by
 have:=sumTo_upd φ x (wt F.n) hi;exact .inl (by show(sumTo N λa=>wt F.n (upd φ i x a))<sumTo N λa=>wt F.n (φ a);omega)
theorem TU(hi:i<N)(K:∀f,Dc f x=Dc f (φ i))(hw:wt F.n x=wt F.n (φ i))(h:Rk.sub ρ (r i)):Mu.lt (mu F N (upd φ i x) m q (upd r i ρ) b') (mu F N φ m q r b):=by
 have:=sumTo_upd φ x (wt F.n) hi;refine .inr ⟨by show(sumTo N λa=>wt F.n (upd φ i x a))=sumTo N λa=>wt F.n (φ a);omega,.inr ⟨by show Sg kw N (upd φ i x)+q=_;rw [Nc kw hi (K kw).symm];rfl,.inr ⟨Nc (lc m) hi (K _).symm,V,.inl ⟨i,hi,?_,λa O=>upd_ne _ _ O⟩⟩⟩⟩;show Rk.sub (upd r i ρ i) _;rw [upd_same];exact h
theorem aL(hi:i<N)(K:φ i= .ph (.lk k p))(V:(m',q',es,o)∈F.BX p m q)(Y:Dy p m q):Mu.lt (mu F N (upd φ i (.ph (Fam.Db k o))) m' q' r' b') (mu F N φ m q r b):=by
 have hw:=sumTo_upd φ (.ph (Fam.Db k o)) (wt F.n) hi;have Z:wt F.n (φ i)=He p:=by rw [K];rfl
 have e2:wt F.n (.ph (Fam.Db k o))=wO o:=by cases o <;> rfl
 rw [Z,e2] at hw;obtain⟨a,O,U⟩:=Fy (k:=k) kw hi K;obtain⟨c,ac,ag⟩:=Fy (k:=k) (lc m) hi K;rcases XZ V Y with h | ⟨am,h | ⟨ap,al,aq⟩⟩
 ·exact .inl (by show(sumTo N λa=>wt F.n (upd φ i _ a))<sumTo N λa=>wt F.n (φ a);omega)
 ·exact .inr ⟨by show(sumTo N λa=>wt F.n (upd φ i _ a))=sumTo N λa=>wt F.n (φ a);omega,.inl (by show Sg kw N (upd φ i _)+q'<Sg kw N φ+q;rw [O,U];omega)⟩
 ·subst al;exact .inr ⟨by show(sumTo N λa=>wt F.n (upd φ i _ a))=sumTo N λa=>wt F.n (φ a);omega,.inr ⟨by show Sg kw N (upd φ i _)+q'=Sg kw N φ+q;rw [O,U];omega,.inl (by show Sg (lc m') N (upd φ i _)<Sg (lc m') N φ;rw [ac,ag];omega)⟩⟩
end
open Go.ConcN (RelBy fork_knows)
section
variable {F:Fam}{N0 t0 N j:Nat}{φ:Nat->Nx}{S:Nat->St}{t u:Trace}{v wt sm v' wt' sm':Nat}
theorem MQ{α:Type}(f:Nat->α)(i:Nat):upd f i (f i)=f:=by
 funext a;unfold upd;split
 ·rename_i e;rw [e]
 ·rfl
def Ft(F:Fam)(K:Prop)(e:Event):Prop:=
 (∀a,(MemAct.ofEvent e).touch? =some a->(∃b,CO a.loc=some b/\(b=F.wg∨b=F.mu))/\a.kind≠ .plain/\(a.kind= .said->K))/\e.loc≠ .mark (.release F.sA)
theorem Ft.toS{K:Prop}{e:Event}{i:Nat}(h:Ft F K e)(O:K->i=0):EvS F N0 j i e:=
 ⟨λa U=>let ⟨⟨b,V,Y⟩,Z,ac⟩:=h.1 a U;⟨b,V,.inl ⟨Y,Z,λq=>O (ac q)⟩⟩,h.2⟩
theorem Ft.keep{O:Prop}{e:Event}{i:Nat}(h:Ft F O e)(V:O->i=0)(Y:F.fd≠F.wg)(Z:F.fd≠F.mu):(∀a b,(MemAct.ofEvent e).touch? =some a->CO a.loc=some b->(b=F.wg∨b=F.mu)->a.kind≠ .plain/\(a.kind= .said->i=0))/\
   (∀a,(MemAct.ofEvent e).touch? =some a->CO a.loc=some F.fd->∃k,k<j/\i=N0+k/\a.loc= .cell ⟨F.fd,k,none⟩/\a.kind= .plain)/\e.loc≠ .mark (.release F.sA):=
 ⟨λa b K _ _=>⟨(h.1 a K).2.1,λq=>V ((h.1 a K).2.2 q)⟩,λa K hb=>by
  obtain⟨⟨b,U,ac⟩,-⟩:=h.1 a K
  rw [hb] at U
  obtain rfl:=Option.some.inj U
  rcases ac with e | e
  ·exact absurd e Y
  ·exact absurd e Z,h.2⟩
theorem Re{m:Mark}(K:∀a,m≠ .read a)(O:∀a,m≠ .write a):(MemAct.ofEvent (Fam.CH m)).touch? =none:=by
 cases m <;> first | rfl | exact absurd rfl (K _) | exact absurd rfl (O _)
theorem Zv(p:Ph){es:Array Event}{ap:Nx}(K:F.act p v wt sm=some ((v',wt',sm'),es,ap)):
  (∀e∈es,Ft F (p= .HO∨∃j,p= .HE j) e)/\deafBehind (FF (.ph p)) es=FF ap/\(∀e∈es,∀B,F.wg<B->(MemAct.ofEvent e).low B):=by
 have a0:∀b w,(MemAct.ofEvent ⟨.cell F.sA,w,b⟩).touch? =some ⟨.cell F.sA,w,if b then .atomic else .plain⟩:=by intro b w;cases b <;> cases w <;> rfl
 have Z:∀(a:Addr) w (T:Prop),a.block=F.wg->Ft F T ⟨.cell a,w,true⟩:=by
  intro a w T hb;refine⟨λx U=>?_,by simp⟩;have:x=⟨.cell a,w,.atomic⟩:=by cases w <;> (simp [MemAct.ofEvent,MemAct.touch?] at U;exact U.symm)
  subst this;exact⟨⟨F.wg,by simp [CO,hb],.inl rfl⟩,by simp,by simp⟩
 have ac:∀(a:Addr) w B,a.block=F.wg->F.wg<B->(MemAct.ofEvent ⟨.cell a,w,true⟩).low B:=by
  intro a w B hb O;cases w <;> simp [MemAct.ofEvent,MemAct.low,Loc.low,hb,O]
 have GH:∀(m:Mark) (T:Prop),(∀a,m≠ .read a)->(∀a,m≠ .write a)->(∀a,m≠ .release a)->Ft F T (Fam.CH m):=by
  intro m T aw ay az;exact⟨λx U=>(by rw [Re aw ay] at U;cases U),λe=>az _ (Loc.mark.inj e)⟩
 have ag:F.mA.block=F.wg:=rfl;have Y:F.sA.block=F.wg:=rfl;have ET:∀(T:Prop),∀e∈semEvents F.mA,Ft F T e:=by
  intro T e he;simp only [semEvents,List.mem_toArray,List.mem_cons,List.not_mem_nil,or_false] at he;rcases he with rfl | rfl | rfl | rfl
  ·exact GH .disable T (by simp) (by simp) (by simp)
  ·exact Z _ _ _ ag
  ·exact Z _ _ _ ag
  ·exact GH .enable T (by simp) (by simp) (by simp)
 have aq:∀e∈semEvents F.mA,∀B,F.wg<B->(MemAct.ofEvent e).low B:=by
  intro e he B O;simp only [semEvents,List.mem_toArray,List.mem_cons,List.not_mem_nil,or_false] at he;rcases he with rfl | rfl | rfl | rfl
  ·trivial
  ·exact ac _ _ _ ag O
  ·exact ac _ _ _ ag O
  ·trivial
 have al:∀(T:Prop),∀e∈(#[Fam.Ca F.sA,Fam.Em F.sA]:Array Event),Ft F T e:=by
  intro T e he;simp only [List.mem_toArray,List.mem_cons,List.not_mem_nil,or_false] at he;rcases he with rfl | rfl <;> exact Z _ _ _ Y
 have am:∀e∈(#[Fam.Ca F.sA,Fam.Em F.sA]:Array Event),∀B,F.wg<B->(MemAct.ofEvent e).low B:=by
  intro e he B O;simp only [List.mem_toArray,List.mem_cons,List.not_mem_nil,or_false] at he;rcases he with rfl | rfl <;> exact ac _ _ _ Y O
 have one:∀{e:Event} {T:Prop},Ft F T e->∀x∈(#[e]:Array Event),Ft F T x:=by
  intro e T h x U;simp at U;subst U;exact h
 have V:∀{e:Event},(∀B,F.wg<B->(MemAct.ofEvent e).low B)->∀x∈(#[e]:Array Event),∀B,F.wg<B->(MemAct.ofEvent x).low B:=by
  intro e h x U;simp at U;subst U;exact h
 cases p <;> simp only [Fam.act] at K <;> (try (cases K;done))
 ·cases K;exact⟨one (GH _ _ (by simp) (by simp) (by simp)),rfl,V λB O=>O⟩
 ·cases K;exact⟨one (GH _ _ (by simp) (by simp) (by simp)),rfl,V λB O=>trivial⟩
 ·split at K
  ·cases K;exact⟨al _,by split <;> rfl,am⟩
  ·cases K
 ·split at K
  ·cases K;exact⟨one (Z _ _ _ Y),rfl,V λB O=>ac _ _ _ Y O⟩
  ·cases K
 ·split at K
  ·cases K;exact⟨one (Z _ _ _ Y),rfl,V λB O=>ac _ _ _ Y O⟩
  ·cases K
 ·split at K
  ·cases K;exact⟨ET _,rfl,aq⟩
  ·cases K
 ·cases K;exact⟨one (GH _ _ (by simp) (by simp) (by simp)),rfl,V λB O=>trivial⟩
 ·split at K
  ·cases K;exact⟨one (Z _ _ _ Y),by split <;> rfl,V λB O=>ac _ _ _ Y O⟩
  ·cases K
 ·split at K
  ·split at K
   ·cases K;exact⟨al _,rfl,am⟩
   ·cases K;exact⟨one (Z _ _ _ Y),rfl,V λB O=>ac _ _ _ Y O⟩
  ·cases K
 ·cases K;refine⟨one ⟨λx U=>?_,by simp [Fam.CH]⟩,rfl,V λB O=>O⟩;simp [Fam.CH,MemAct.ofEvent,MemAct.touch?] at U;subst U;exact⟨⟨F.wg,rfl,.inl rfl⟩,by simp,λ_=> .inl rfl⟩
 ·split at K
  ·cases K;exact⟨ET _,rfl,aq⟩
  ·cases K
 ·split at K
  ·cases K;exact⟨one (Z _ _ _ Y),rfl,V λB O=>ac _ _ _ Y O⟩
  ·cases K
 ·cases K;exact⟨one (GH _ _ (by simp) (by simp) (by simp)),rfl,V λB O=>trivial⟩
 ·cases K;exact⟨one (GH _ _ (by simp) (by simp) (by simp)),rfl,V λB O=>trivial⟩
 ·split at K
  ·cases K;exact⟨al _,by split <;> rfl,am⟩
  ·cases K
 ·cases K;refine⟨one ⟨λx U=>?_,by simp [Fam.CH]⟩,rfl,V λB O=>O⟩;simp [Fam.CH,MemAct.ofEvent,MemAct.touch?] at U;subst U;exact⟨⟨F.wg,rfl,.inl rfl⟩,by simp,λ_=> .inr ⟨_,rfl⟩⟩
 ·cases K;exact⟨one (GH _ _ (by simp) (by simp) (by simp)),rfl,V λB O=>trivial⟩
 all_goals
  cases K;exact⟨by simp,rfl,by simp⟩
theorem WU(p:Ph){es:Array Event}{U:Nx}(K:F.act p v wt sm=some ((v',wt',sm'),es,U)){k:Nat}(hw:GC F k (.ph p))(O:late (.ph p)):
  ∀m e,es[m]? =some e->(MemAct.ofEvent e).touch? =none∨((∃ad wr,e=⟨.cell ad,wr,true⟩)/\0<deafBehind (FF (.ph p)) (es.extract 0 m)):=by
 have two:∀m e,(#[Fam.Ca F.sA,Fam.Em F.sA]:Array Event)[m]? =some e->(∃ad wr,e=⟨.cell ad,wr,true⟩)/\0<deafBehind 1 ((#[Fam.Ca F.sA,Fam.Em F.sA]:Array Event).extract 0 m):=by
  intro m e h
  match m with
  | 0=>simp at h;subst h;exact⟨⟨_,_,rfl⟩,by simp [deafBehind]⟩
  | 1=>simp at h;subst h;exact⟨⟨_,_,rfl⟩,by simp [deafBehind,Fam.Ca]⟩
  | m+2=>simp at h
 cases p <;> simp only [GC] at hw <;> (try exact hw.elim) <;> simp only [late] at O <;> (try exact O.elim) <;> simp only [Fam.act] at K <;> (try (cases K;done))
 ·cases K;intro m e h
  match m with
  | 0=>simp at h;subst h;exact .inl rfl
  | m+1=>simp at h
 ·split at K
  ·cases K;exact λm e h=> .inr (two m e h)
  ·cases K
 ·split at K
  ·cases K;intro m e h
   match m with
   | 0=>simp at h;subst h;exact .inr ⟨⟨_,_,rfl⟩,by simp [deafBehind,FF]⟩
   | m+1=>simp at h
  ·cases K
 ·split at K
  ·cases K;intro m e h
   match m with
   | 0=>simp at h;subst h;exact .inr ⟨⟨_,_,rfl⟩,by simp [deafBehind,FF]⟩
   | m+1=>simp at h
  ·cases K
 ·split at K
  ·cases K;intro m e h
   match m with
   | 0=>simp [semEvents] at h;subst h;exact .inl rfl
   | 1=>simp [semEvents] at h;subst h;exact .inr ⟨⟨_,_,rfl⟩,by simp [deafBehind,FF,semEvents]⟩
   | 2=>simp [semEvents] at h;subst h;exact .inr ⟨⟨_,_,rfl⟩,by simp [deafBehind,FF,semEvents]⟩
   | 3=>simp [semEvents] at h;subst h;exact .inl rfl
   | m+4=>simp [semEvents] at h
  ·cases K
theorem Yo{p:LP}{m m':M4}{q q':Nat}{es:Array Event}{o:Option LP}(K:(m',q',es,o)∈F.BX p m q):
  (∀e∈es,Ft F False e)/\deafBehind (dl p) es=oC dl o/\(∀e∈es,∀B,F.mu<B->(MemAct.ofEvent e).low B):=by
 have Z:∀(a:Addr) w,a.block=F.mu->Ft F False ⟨.cell a,w,true⟩:=by
  intro a w hb;refine⟨λx Y=>?_,by simp⟩;have:x=⟨.cell a,w,.atomic⟩:=by cases w <;> (simp [MemAct.ofEvent,MemAct.touch?] at Y;exact Y.symm)
  subst this;exact⟨⟨F.mu,by simp [CO,hb],.inr rfl⟩,by simp,by simp⟩
 have ac:∀(a:Addr) w B,a.block=F.mu->F.mu<B->(MemAct.ofEvent ⟨.cell a,w,true⟩).low B:=by
  intro a w B hb O;cases w <;> simp [MemAct.ofEvent,MemAct.low,Loc.low,hb,O]
 have GH:∀(m:Mark),(∀a,m≠ .read a)->(∀a,m≠ .write a)->(∀a,m≠ .release a)->Ft F False (Fam.CH m):=by
  intro m ag al am;exact⟨λx Y=>(by rw [Re ag al] at Y;cases Y),λe=>am _ (Loc.mark.inj e)⟩
 have nil:∀d,(∀e∈(#[]:Array Event),Ft F False e)/\deafBehind d #[]=d/\(∀e∈(#[]:Array Event),∀B,F.mu<B->(MemAct.ofEvent e).low B):=λd=>⟨by simp,rfl,by simp⟩;have rd:∀d,(∀e∈(#[Fam.Ca F.uA]:Array Event),Ft F False e)/\deafBehind d #[Fam.Ca F.uA]=d/\(∀e∈(#[Fam.Ca F.uA]:Array Event),∀B,F.mu<B->(MemAct.ofEvent e).low B):=λd=>
  ⟨λe he=>by simp at he;subst he;exact Z _ _ rfl,rfl,λe he B O=>by simp at he;subst he;exact ac _ _ _ rfl O⟩
 have U:∀d,(∀e∈(#[Fam.Ca F.uA,Fam.Em F.uA]:Array Event),Ft F False e)/\deafBehind d #[Fam.Ca F.uA,Fam.Em F.uA]=d/\(∀e∈(#[Fam.Ca F.uA,Fam.Em F.uA]:Array Event),∀B,F.mu<B->(MemAct.ofEvent e).low B):=λd=>
  ⟨λe he=>by
   simp only [List.mem_toArray,List.mem_cons,List.not_mem_nil,or_false] at he
   rcases he with rfl | rfl <;> exact Z _ _ rfl,rfl,λe he B O=>by
   simp only [List.mem_toArray,List.mem_cons,List.not_mem_nil,or_false] at he
   rcases he with rfl | rfl <;> exact ac _ _ _ rfl O⟩
 have ET:(∀e∈semEvents F.qA,Ft F False e)/\deafBehind 1 (semEvents F.qA)=1/\(∀e∈semEvents F.qA,∀B,F.mu<B->(MemAct.ofEvent e).low B):=by
  refine⟨λe he=>?_,rfl,λe he B O=>?_⟩
  ·simp only [semEvents,List.mem_toArray,List.mem_cons,List.not_mem_nil,or_false] at he;rcases he with rfl | rfl | rfl | rfl
   ·exact GH .disable (by simp) (by simp) (by simp)
   ·exact Z _ _ rfl
   ·exact Z _ _ rfl
   ·exact GH .enable (by simp) (by simp) (by simp)
  ·simp only [semEvents,List.mem_toArray,List.mem_cons,List.not_mem_nil,or_false] at he;rcases he with rfl | rfl | rfl | rfl
   ·trivial
   ·exact ac _ _ _ rfl O
   ·exact ac _ _ _ rfl O
   ·trivial
 have V:∀(m:Mark) (d d':Nat),(∀a,m≠ .read a)->(∀a,m≠ .write a)->(∀a,m≠ .release a)->deafBehind d #[Fam.CH m]=d'->(∀B,F.mu<B->(MemAct.ofEvent (Fam.CH m)).low B)->
   (∀e∈(#[Fam.CH m]:Array Event),Ft F False e)/\deafBehind d #[Fam.CH m]=d'/\(∀e∈(#[Fam.CH m]:Array Event),∀B,F.mu<B->(MemAct.ofEvent e).low B):=λm d d' ag al am ap aq=>
  ⟨λe he=>by simp at he;subst he;exact GH m ag al am,ap,λe he B O=>by simp at he;subst he;exact aq B O⟩
 cases p <;> simp only [Fam.BX,List.mem_singleton,Prod.mk.injEq,List.not_mem_nil] at K
 case FT=>obtain⟨rfl,rfl,rfl,rfl⟩:=K;exact V .disable 0 1 (by simp) (by simp) (by simp) rfl λB O=>trivial
 case G4=>
  split at K <;> simp only [List.mem_singleton,Prod.mk.injEq] at K <;> obtain⟨rfl,rfl,rfl,rfl⟩:=K
  ·exact U 1
  ·exact rd 1
 case Cj sv aw it old=>
  simp only [Fam.Fq,List.mem_append] at K;rcases K with K | K
  ·split at K
   ·split at K
    ·simp only [List.mem_singleton] at K;split at K <;> simp only [Prod.mk.injEq] at K <;> obtain⟨rfl,rfl,rfl,rfl⟩:=K
     ·exact U 1
     ·exact rd 1
    ·simp only [List.mem_singleton,Prod.mk.injEq] at K;obtain⟨rfl,rfl,rfl,rfl⟩:=K;exact nil 1
   ·simp at K
  ·split at K
   ·split at K
    ·simp only [List.mem_singleton,Prod.mk.injEq] at K;obtain⟨rfl,rfl,rfl,rfl⟩:=K;exact U 1
    ·simp only [List.mem_cons,List.not_mem_nil,or_false,Prod.mk.injEq] at K;rcases K with⟨rfl,rfl,rfl,rfl⟩ | ⟨rfl,rfl,rfl,rfl⟩ <;> exact U 1
   ·simp only [List.mem_singleton,Prod.mk.injEq] at K;obtain⟨rfl,rfl,rfl,rfl⟩:=K;exact rd 1
 case Cv sv=>obtain⟨rfl,rfl,rfl,rfl⟩:=K;cases sv <;> exact ET
 case FP=>
  simp only [List.mem_cons,List.not_mem_nil,or_false,Prod.mk.injEq] at K;rcases K with⟨rfl,rfl,rfl,rfl⟩ | ⟨rfl,rfl,rfl,rfl⟩ <;> exact nil 1
 case Es sv=>split at K <;> simp only [List.mem_singleton,Prod.mk.injEq] at K <;> obtain⟨rfl,rfl,rfl,rfl⟩:=K <;> exact nil 1
 case HI=>
  obtain⟨rfl,rfl,rfl,rfl⟩:=K;split
  ·exact U 1
  ·split <;> exact U 1
 case EC old=>
  split at K <;> simp only [List.mem_singleton,Prod.mk.injEq] at K <;> obtain⟨rfl,rfl,rfl,rfl⟩:=K
  ·exact U 1
  ·exact rd 1
 case G6=>obtain⟨rfl,rfl,rfl,rfl⟩:=K;split <;> exact nil 1
 case ER b=>obtain⟨rfl,rfl,rfl,rfl⟩:=K;exact ET
 case len=>obtain⟨rfl,rfl,rfl,rfl⟩:=K;exact V .enable 1 0 (by simp) (by simp) (by simp) rfl λB O=>trivial
 case EU=>obtain⟨rfl,rfl,rfl,rfl⟩:=K;exact V .enable 1 0 (by simp) (by simp) (by simp) rfl λB O=>trivial
 case JK=>obtain⟨rfl,rfl,rfl,rfl⟩:=K;exact V .disable 0 1 (by simp) (by simp) (by simp) rfl λB O=>trivial
 case JH=>obtain⟨rfl,rfl,rfl,rfl⟩:=K;exact V (.acquire F.uA) 0 0 (by simp) (by simp) (by simp) rfl λB O=>O
 case JY=>obtain⟨rfl,rfl,rfl,rfl⟩:=K;exact V (.releaseMerge F.uA) 0 0 (by simp) (by simp) (by simp) rfl λB O=>O
 all_goals
  obtain⟨rfl,rfl,rfl,rfl⟩:=K
 all_goals first | exact nil 0 | exact nil 1 | exact U 1
end
def Cw(c:Bool)(N:Nat)(φ:Nat->Nx):Nat->Nx:=λi=>if c=true/\i=N then φ 0 else if c=true/\i=0 then .ph (.FA [] []) else φ i
theorem I6{N:Nat}{φ:Nat->Nx}:Cw false N φ=φ:=by funext i;simp [Cw]
theorem IA{c:Bool}{N:Nat}{φ:Nat->Nx}{i:Nat}(K:i≠0)(O:i≠N):Cw c N φ i=φ i:=by simp [Cw,K,O]
theorem JC{N:Nat}{φ:Nat->Nx}:Cw true N φ N=φ 0:=by simp [Cw]
theorem MZ{c:Bool}{N:Nat}{φ:Nat->Nx}{i:Nat}{x:Nx}(K:i≠0)(O:i≠N):upd (Cw c N φ) i x=Cw c N (upd φ i x):=by
 funext a;unfold Cw;by_cases e:a=i
 ·subst e;rw [upd_same,if_neg (by simp [O]),if_neg (by simp [K]),upd_same]
 ·rw [upd_ne _ _ e];rw [upd_ne φ x (Ne.symm K),upd_ne _ _ e]
theorem XB{N:Nat}{φ:Nat->Nx}{x:Nx}(O:N≠0):upd (Cw true N φ) N x=Cw true N (upd φ 0 x):=by
 funext a;unfold Cw;by_cases e:a=N
 ·subst e;simp [upd_same]
 ·rw [upd_ne _ _ e];by_cases K:a=0
  ·subst K;simp [e]
  ·rw [upd_ne φ x K];simp [e,K]
def Hv:Nx->Bool
 | .gone _=>true
 | .ph p=>Fam.CN p
def loc(x:Nx)(s:St):St:=if Hv x=true then .quiet else s
def Gq:LP->Prop
 | .Gr | .JX | .JY | .JK | .HI | .EC _ | .G6 | .ER _ | .EU=>True
 | _=>False
def stored:Nx->Prop
 | .gone _=>True
 | .ph (.lk _ p)=>Gq p
 | .ph .HK | .ph .Gm | .ph .IF | .ph .Ha | .ph .GD | .ph .GZ | .ph .Fc=>True
 | _=>False
def Pn(p:Ph):Prop:=p= .Fs∨∃k sv,p= .lk k (.Cv sv)
inductive Gt (P:Program) (F:Fam) (main:Bool):Nx->Rk->Bool->Gs_
 | walk {p:Ph} {r:Rk} {g:Goroutine} {s:St}:main=Fam.CB p->(Fam.CN p=true->s= .quiet)->Jr P main (JQ (Stop P F p)) r g s->Gt P F main (.ph p) r true g s
 | blk {p:Ph} {r:Rk} {g:Goroutine} {s:St}:Pn p->main=Fam.CB p->Stop P F p g s->Gt P F main (.ph p) r false {g with status:= .blocked} s
 | gone {q d:Nat} {g:Goroutine}:main=false->QuitsD P q d g->Gt P F main (.gone d) (chain q) true g .quiet
section
variable {P:Program}{F:Fam}{main:Bool}
theorem Jr.running{p:Ph}{r:Rk}{g:Goroutine}{s:St}(h:Jr P main (JQ (Stop P F p)) r g s):g.status= .running:=by
 cases r with
 | leaf=>obtain⟨s₀,_,K⟩:=h;exact K.law.run
 | node f=>
  rcases h with⟨s₀,_,K⟩ | ⟨O,_⟩
  ·exact K.law.run
  ·exact O
theorem Jr.at_{Q:GP}{r:Rk}{g:Goroutine}{s:St}(h:Q g s):Jr P main Q r g s:=by
 cases r with
 | leaf=>exact h
 | node f=>exact .inl h
theorem Gt.awake{x:Nx}{r:Rk}{b:Bool}{g:Goroutine}{s:St}(h:Gt P F main x r b g s):Go.Conc.awake g:=by
 cases h with
 | walk _ _ K=>exact awake_of (.inl K.running)
 | blk _ _ _=>exact awake_of (.inr (.inl rfl))
 | gone _ O=>exact awake_of (O.status.elim .inl λx=> .inr (.inr x))
theorem UJ{g:Goroutine}(h:g.status= .running):{({g with status:= .blocked}:Goroutine) with status:= .running}=g:=by
 obtain⟨a,b,c,d,e⟩:=g;simp only at h;subst h;rfl
theorem Qt{p:Ph}(h:Pn p):Fam.CN p=false:=by
 rcases h with rfl | ⟨k,sv,rfl⟩ <;> rfl
theorem Gt.woken{x:Nx}{r:Rk}{b:Bool}{o:Goroutine}{s:St}(h:Gt P F main x r b o s){g g':Goroutine}{w':World}:
  ∃b',Gt P F main x r b' (Go.Conc.woken P g g' w' o) s/\(b=true->b'=true)/\(mayWake P g=true->g'.status= .running->b'=true):=by
 have al:∀(o:Goroutine),Go.Conc.woken P g g' w' o=o.again w'∨Go.Conc.woken P g g' w' o=o:=by
  intro o;unfold Go.Conc.woken;split
  ·exact .inl rfl
  ·exact .inr rfl
 cases h with
 | walk K am V=>exact⟨true,by rw [woken_run V.running];exact .walk K am V,λ_=>rfl,λ_ _=>rfl⟩
 | @blk p _ go _ Y K O=>
  have Z:({go with status:= .blocked}:Goroutine).again w'=go:=by
   have:=O.law.offers;have ap:({go with status:= .blocked}:Goroutine).again w'={({go with status:= .blocked}:Goroutine) with status:= .running}:=by simp [Goroutine.again,this]
   rw [ap];exact UJ O.law.run
  have ac:Gt P F main (.ph p) r true go s:= .walk K (λq=>by rw [Qt Y] at q;cases q) (Jr.at_ ⟨s,.refl _,O⟩);by_cases U:mayWake P g=true/\g'.status= .running
  ·have e:Go.Conc.woken P g g' w' ({go with status:= .blocked}:Goroutine)=({go with status:= .blocked}:Goroutine).again w':=by
    unfold Go.Conc.woken;rw [if_pos (by simp [U.1,U.2])]
   exact⟨true,by rw [e,Z];exact ac,λ_=>rfl,λ_ _=>rfl⟩
  ·rcases al ({go with status:= .blocked}:Goroutine) with e | e
   ·exact⟨true,by rw [e,Z];exact ac,λ_=>rfl,λa b=>absurd ⟨a,b⟩ U⟩
   ·exact⟨false,by rw [e];exact .blk Y K O,λe=>e,λa b=>absurd ⟨a,b⟩ U⟩
 | gone K ag=>exact⟨true,by rw [woken_quitsD ag];exact .gone K ag,λ_=>rfl,λ_ _=>rfl⟩
end
structure Base where
 N0:Nat
 t0:Nat
 E0:LH
 w0:World
structure Inv (P:Program) (F:Fam) (B:Base) (gs:Array Goroutine) (w:World) (t:Trace) (φ:Nat->Nx) (r:Nat->Rk) (bt:Nat->Bool) (S:Nat->St) (Sh:Nat->Prop) (j:Nat) (c:Bool) (v wt sm:Nat) (m:M4) (q:Nat) (f:Nat->Value):Prop where
 CF:CE F B.N0 (gs.size+c.toNat) j c (Cw c gs.size φ) v wt sm false
 lock:LI gs.size φ m q
 ED:ES F B.N0 B.t0 gs.size j φ S t
 Kx:∀i g,gs[i]? =some g->Gt P F (i==0) (φ i) (r i) (bt i) g (loc (φ i) (S i))
 B9:BW t w gs.size S Sh
 HP:Sh F.wg
 Is:Sh F.mu
 IJ:Sh F.fd
 Mg:F.mu≠F.wg
 JU:F.fd≠F.wg
 JR:F.fd≠F.mu
 HM:F.n<134217728
 mn:φ 0≠ .ph .GG/\φ 0≠ .ph .Hu
 wg:F.WG w v wt sm
 Jb:F.MU w m q
 F8:F.FD w f
 blk:∀i,i<gs.size->bt i=false->(i=0/\φ 0= .ph .Fs/\sm=0)∨((∃k sv,φ i= .ph (.lk k (.Cv sv)))/\q=0)
 Io:∀k,k<j->stored (φ (B.N0+k))->F.msg k (f k) (S (B.N0+k)).E
 le:Le B.E0 (S 0).E
 tape:w.tape=B.w0.tape
 os:F6 B.w0.os w.os
 output:w.output=B.w0.output
section
variable {P:Program}{F:Fam}{B:Base}{gs:Array Goroutine}{w w':World}{t:Trace}{φ:Nat->Nx}{r:Nat->Rk}{bt:Nat->Bool}{S:Nat->St}{Sh:Nat->Prop}{j:Nat}{c:Bool}{v wt' sm v₁ wt₁ sm₁:Nat}{m m₁:M4}{q q₁:Nat}{f f₁:Nat->Value}
theorem Inv.at_(h:Inv P F B gs w t φ r bt S Sh j c v wt' sm m q f)(d:Nat):Inv P F B gs (w.at d) t φ r bt S Sh j c v wt' sm m q f:=
 have K:BW t (w.at d) gs.size S Sh:=by
  have:=h.B9.mute (u:= #[]) (w':=w.at d) (g:=0) (by simp) (by simp) (by simp) rfl;simpa using this
 {h with B9:=K}
theorem Inv.size(h:Inv P F B gs w t φ r bt S Sh j c v wt' sm m q f):gs.size=B.N0+j:=by have:=h.CF.size;omega
theorem Inv.Et(h:Inv P F B gs w t φ r bt S Sh j c v wt' sm m q f){i:Nat}(hi:i<gs.size):i=0∨(i≠0/\∃d,φ i= .gone d/\i<B.N0)∨∃k,k<j/\i=B.N0+k/\i≠0/\GC F k (φ i):=by
 have V:=h.size;have Y:=h.CF.pos;rcases Nat.eq_zero_or_pos i with K | K
 ·exact .inl K
 rcases Nat.lt_or_ge i B.N0 with O | O
 ·have:=h.CF.old i K O;rw [IA (by omega) (by omega)] at this;cases U:φ i with
  | gone d=>exact .inr (.inl ⟨by omega,d,rfl,O⟩)
  | ph p=>rw [U] at this;exact this.elim
 ·have:=h.CF.work (i - B.N0) (by omega);rw [show B.N0+(i - B.N0)=i by omega,IA (by omega) (by omega)] at this;exact .inr (.inr ⟨i - B.N0,by omega,by omega,by omega,this⟩)
theorem Inv.main(h:Inv P F B gs w t φ r bt S Sh j c v wt' sm m q f):∃p,φ 0= .ph p/\Fam.CB p=true/\((c=false/\Ht F.n j c p)∨(c=true/\I5 (.ph p))):=by
 have Y:=h.size;cases K:c with
 | false=>
  have:=h.CF.main;rw [K,I6] at this;obtain⟨p,V,O⟩:=this;exact⟨p,V,by cases p <;> simp [Ht] at O <;> rfl,.inl ⟨rfl,O⟩⟩
 | true=>
  have:=h.CF.cls K;have Z:=h.CF.cj K;rw [K,show B.N0+F.n=gs.size by omega,JC] at this;cases U:φ 0 with
  | gone d=>
   have:=h.CF.mode;rw [if_pos K,K,show B.N0+F.n=gs.size by omega,JC,U] at this;simp [Dv] at this
  | ph p=>rw [U] at this;exact⟨p,rfl,by cases p <;> simp [I5] at this <;> rfl,.inr ⟨rfl,this⟩⟩
theorem Jx(a b:LP->Nat)(N:Nat)(φ:Nat->Nx):Sg (λp=>a p+b p) N φ=Sg a N φ+Sg b N φ:=by
 unfold Sg
 induction N with
 | zero=>rfl
 | succ N K=>
  simp only [sumTo,K];have:Dc (λp=>a p+b p) (φ N)=Dc a (φ N)+Dc b (φ N):=by
   cases φ N with
   | gone d=>rfl
   | ph p=>cases p <;> rfl
  omega
theorem Oh{a b:Nat->Nat}:∀{N M:Nat},N<=M->(∀i,i<N->a i<=b i)->sumTo N a<=sumTo M b
 | 0,_,_,_=>by simp [sumTo]
 | N+1,0,h,_=>by omega
 | N+1,M+1,h,K=>by
  rcases Nat.lt_or_ge N M with q | q
  ·have O:sumTo (N+1) a<=sumTo M b:=Oh (by omega) K
   simp only [sumTo] at O ⊢;omega
  ·obtain rfl:N=M:=by omega
   have O:sumTo N a<=sumTo N b:=Oh (Nat.le_refl _) λi hi=>K i (by omega);have U:=K N (by omega);simp only [sumTo];omega
theorem Inv.small(h:Inv P F B gs w t φ r bt S Sh j c v wt' sm m q f):C9 m:=by
 have V:=h.size;have hb:Sg (λp=>(pQ p+pV p)+pD p) gs.size φ<=sumTo (gs.size+c.toNat) λi=>cU (Cw c gs.size φ i):=by
  refine Oh (by omega) λi hi=>?_;rcases Nat.eq_zero_or_pos i with rfl | Y
  ·obtain⟨p,O,hm,_⟩:=h.main;rw [O];cases p <;> first | (simp [Dc];done) | (simp [Fam.CB] at hm)
  ·rw [IA (by omega) (by omega)];cases φ i with
   | gone d=>simp [Dc]
   | ph p=>
    cases p <;> simp only [Dc] <;> (try omega)
    rename_i k l;cases l <;> simp [pQ,pV,pD,cU]
 rw [Jx,Jx] at hb;have Z:=h.CF.cnt;have ac:=h.CF.P9;obtain⟨l1,l2,U⟩:=h.lock.ln;have ag:=h.HM;show m.w<134217728;cases K:m.s with
 | false=>have:=(l2 K).2.2.2.1;omega
 | true=>have:=(U K).2.2.2.2.1;omega
theorem Inv.go(h:Inv P F B gs w t φ r bt S Sh j c v wt' sm m q f){i:Nat}{g g':Goroutine}{es:Array Event}{x:Nx}{ρ:Rk}{s':St}(hi:gs[i]? =some g)
  (ap:CE F B.N0 (gs.size+c.toNat) j c (Cw c gs.size (upd φ i x)) v₁ wt₁ sm₁ false) (aq:LI gs.size (upd φ i x) m₁ q₁)
  (aw:ES F B.N0 B.t0 gs.size j (upd φ i x) (upd S i s') (t++MemOp.ofEvents i g.frame.fn g.frame.place es))
  (ay:Gt P F (i==0) x ρ true g' (loc x s'))
  (hC:BW (t++MemOp.ofEvents i g.frame.fn g.frame.place es) w' gs.size (upd S i s') Sh)
  (az:F.WG w' v₁ wt₁ sm₁) (a0:F.MU w' m₁ q₁) (a1:F.FD w' f₁)
  (a2:sm₁≠0->sm=0->mayWake P g=true/\g'.status= .running) (a3:q₁≠0->q=0->mayWake P g=true/\g'.status= .running)
  (a4:∀k,k<j->stored (upd φ i x (B.N0+k))->F.msg k (f₁ k) (upd S i s' (B.N0+k)).E)
  (a5:i=0->x≠ .ph .GG/\x≠ .ph .Hu) (a6:i=0->Le (S 0).E s'.E) (a7:w'.tape=w.tape) (a8:F6 w.os w'.os) (a9:w'.output=w.output):
  ∃O,Inv P F B ((gs.map (woken P g g' w')).setIfInBounds i g') w' (t++MemOp.ofEvents i g.frame.fn g.frame.place es) (upd φ i x) (upd r i ρ) O (upd S i s') Sh j c v₁ wt₁ sm₁ m₁ q₁ f₁:=by
 have bb:i<gs.size:=(Array.getElem?_eq_some_iff.1 hi).1;have U:((gs.map (woken P g g' w')).setIfInBounds i g').size=gs.size:=by simp
 have al:∀a,∃b',(a=i->b'=true)/\(a≠i->∀o,gs[a]? =some o->Gt P F (a==0) (φ a) (r a) b' (woken P g g' w' o) (loc (φ a) (S a))/\(bt a=true->b'=true)/\(mayWake P g=true->g'.status= .running->b'=true)):=by
  intro a;by_cases e:a=i
  ·exact⟨true,λ_=>rfl,λq=>absurd e q⟩
  ·cases K:gs[a]? with
   | none=>exact⟨true,λ_=>rfl,λ_ o q=>by cases q⟩
   | some o=>
    obtain⟨b',bd,V,Y⟩:=(h.Kx a o K).woken (g:=g) (g':=g') (w':=w');exact⟨b',λq=>absurd q e,λ_ o' q=>by cases q;exact⟨bd,V,Y⟩⟩
 let O:Nat->Bool:=λa=>Classical.choose (al a);have hb:∀a,(a=i->O a=true)/\(a≠i->∀o,gs[a]? =some o->Gt P F (a==0) (φ a) (r a) (O a) (woken P g g' w' o) (loc (φ a) (S a))/\(bt a=true->O a=true)/\(mayWake P g=true->g'.status= .running->O a=true)):=λa=>Classical.choose_spec (al a);refine⟨O,by rw [U];exact ap,by rw [U];exact aq,by rw [U];exact aw,λa o K=>?_,by rw [U];exact hC,h.HP,h.Is,h.IJ,h.Mg,h.JU,h.JR,h.HM,(by
  by_cases e:i=0
  ·subst e;rw [upd_same];exact a5 rfl
  ·rw [upd_ne _ _ (Ne.symm e)];exact h.mn),az,a0,a1,λa ac ag=>?_,a4,λb o K=>?_,a7.trans h.tape,h.os.trans a8,a9.trans h.output⟩
 ·by_cases e:a=i
  ·subst e;rw [Array.getElem?_setIfInBounds_self_of_lt (by simpa using bb)] at K;obtain rfl:=Option.some.inj K;rw [upd_same,upd_same,upd_same,(hb a).1 rfl];exact ay
  ·rw [Array.getElem?_setIfInBounds_ne (Ne.symm e),Array.getElem?_map] at K;obtain⟨o',be,rfl⟩:=Option.map_eq_some_iff.1 K;rw [upd_ne _ _ e,upd_ne _ _ e,upd_ne _ _ e];exact((hb a).2 e o' be).1
 ·rw [U] at ac;have e:a≠i:=λe=>by have:=(hb a).1 e;rw [ag] at this;cases this
  obtain⟨_,k1,bi⟩:=(hb a).2 e _ (Array.getElem?_eq_getElem ac);have am:¬(mayWake P g=true/\g'.status= .running):=λ⟨x,y⟩=>by have:=bi x y;rw [ag] at this;cases this
  have bn:bt a=false:=by
   cases Z:bt a with
   | false=>rfl
   | true=>have:=k1 Z;rw [ag] at this;cases this
  rcases h.blk a ac bn with⟨rfl,V,Y⟩ | ⟨⟨k,sv,V⟩,Y⟩
  ·refine .inl ⟨rfl,by rw [upd_ne _ _ e];exact V,?_⟩;exact Classical.not_not.1 λZ=>am (a2 Z Y)
  ·refine .inr ⟨⟨k,sv,by rw [upd_ne _ _ e];exact V⟩,?_⟩;exact Classical.not_not.1 λZ=>am (a3 Z Y)
 ·by_cases e:i=0
  ·subst e;rw [upd_same];exact a6 rfl b o (h.le b o K)
  ·rw [upd_ne _ _ (Ne.symm e)];exact h.le b o K
end
def P5(P:Program)(F:Fam)(B:Base)(gs:Array Goroutine)(w:World)(t:Trace):Prop:=
 ∃q Sh g s,Hc P gs w t q Sh g s/\F.fin g s/\Le B.E0 s.E/\w.tape=B.w0.tape/\F6 B.w0.os w.os/\w.output=B.w0.output
def Ie(P:Program)(F:Fam)(B:Base)(gs:Array Goroutine)(w:World)(sl:Option (Nat×Nat))(t:Trace)(i:Nat)(K:Mu):Prop:=
 ∃gs' w' O u,runT P (crowd gs w sl) i=(.next (crowd gs' w' O),u)/\
  ((∃φ r bt S Sh j c v wt' sm m q f,Inv P F B gs' w' (t++u) φ r bt S Sh j c v wt' sm m q f/\Mu.lt (mu F gs'.size φ m q r bt) K)∨P5 P F B gs' w' (t++u))
theorem LI.same{N:Nat}{φ:Nat->Nx}{m:M4}{q i:Nat}{y:Nx}(h:LI N φ m q)(hi:i<N)(O:∀f,Dc f (φ i)=Dc f y∨(f≠pH/\f≠pN/\f≠pZ/\f≠pV/\f≠pT/\f≠pQ/\f≠pD/\f≠pX))(U:NJ y m):LI N (upd φ i y) m q:=by
 have e:∀f,(f=pH∨f=pN∨f=pZ∨f=pV∨f=pT∨f=pQ∨f=pD∨f=pX)->Sg f N (upd φ i y)=Sg f N φ:=λf V=>Nc f hi (by
  rcases O f with q | ⟨a,b,c,d,e,f,g,h⟩
  ·exact q
  ·rcases V with q | q | q | q | q | q | q | q <;> contradiction)
 refine⟨by rw [e pH (by simp),e pN (by simp),e pZ (by simp),e pV (by simp),e pT (by simp),e pQ (by simp),e pD (by simp),e pX (by simp)];exact h.ln,λa Y=>?_⟩;by_cases K:a=i
 ·subst K;rw [upd_same];exact U
 ·rw [upd_ne _ _ K];exact h.loc a Y
section
variable {P:Program}{F:Fam}{B:Base}{gs:Array Goroutine}{w w':World}{sl:Option (Nat×Nat)}{t:Trace}{φ:Nat->Nx}{r:Nat->Rk}{bt:Nat->Bool}{S:Nat->St}{Sh:Nat->Prop}{j:Nat}{c:Bool}{v wt' sm v₁ wt₁ sm₁:Nat}{m m₁:M4}{q q₁:Nat}{f f₁:Nat->Value}
theorem Inv.go'(h:Inv P F B gs w t φ r bt S Sh j c v wt' sm m q f){i:Nat}{g g':Goroutine}{es:Array Event}{x:Nx}{ρ:Rk}{s':St}(hi:gs[i]? =some g)(O:stepG P (i==0) g w= .go g' w' es)
  (U:CE F B.N0 (gs.size+c.toNat) j c (Cw c gs.size (upd φ i x)) v₁ wt₁ sm₁ false) (V:LI gs.size (upd φ i x) m₁ q₁)
  (Y:ES F B.N0 B.t0 gs.size j (upd φ i x) (upd S i s') (t++MemOp.ofEvents i g.frame.fn g.frame.place es))
  (Z:Gt P F (i==0) x ρ true g' (loc x s'))
  (hC:BW (t++MemOp.ofEvents i g.frame.fn g.frame.place es) w' gs.size (upd S i s') Sh)
  (ac:F.WG w' v₁ wt₁ sm₁) (ag:F.MU w' m₁ q₁) (al:F.FD w' f₁)
  (am:sm₁≠0->sm=0->mayWake P g=true/\g'.status= .running) (ap:q₁≠0->q=0->mayWake P g=true/\g'.status= .running)
  (aq:∀k,k<j->stored (upd φ i x (B.N0+k))->F.msg k (f₁ k) (upd S i s' (B.N0+k)).E)
  (aw:i=0->x≠ .ph .GG/\x≠ .ph .Hu) (ay:i=0->Le (S 0).E s'.E) (az:w'.tape=w.tape) (a0:F6 w.os w'.os) (a1:w'.output=w.output)
  (hm:∀K,Mu.lt (mu F gs.size (upd φ i x) m₁ q₁ (upd r i ρ) K) (mu F gs.size φ m q r bt)):Ie P F B gs w sl t i (mu F gs.size φ m q r bt):=by
 obtain⟨K,a2⟩:=h.go hi U V Y Z hC ac ag al am ap aq aw ay az a0 a1;refine⟨_,_,_,_,runT_crowd_go hi O,.inl ⟨_,_,_,_,_,_,_,_,_,_,_,_,_,a2,?_⟩⟩;have a3:((gs.map (woken P g g' w')).setIfInBounds i g').size=gs.size:=by simp
 rw [a3];exact hm K
theorem QH{k:Nat}{p:Ph}(hw:GC F k (.ph p))(K:late (.ph p)):Fam.CN p=true:=by
 cases p <;> simp only [GC] at hw <;> (try exact hw.elim) <;> first | rfl | exact K.elim
theorem Mz(a:Nat)(fn:FuncId)(pos:String):MemOp.ofEvents a fn pos #[]= #[]:=by rw [ofEvents_eq];simp
theorem Inv.own(h:Inv P F B gs w t φ r bt S Sh j c v wt' sm m q f)(bb:∀k v E E',Le E E'->F.msg k v E->F.msg k v E'){i:Nat}{g g':Goroutine}{es:Array Event}{p:Ph}{ρ:Rk}{s':St}(hi:gs[i]? =some g)(K:φ i= .ph p)(a0:(i==0)=Fam.CB p)
  (a1:stepG P (i==0) g w= .go g' w' es) (a2:Jr P (i==0) (JQ (Stop P F p)) ρ g' s') (bd:Fits s' w') (O:Fr (loc (.ph p) (S i)) w s' w') (V:∀e∈es,Ev (loc (.ph p) (S i)) w w' e) (be:loc (.ph p) (S i)= .quiet->s'= .quiet/\w'=w/\es= #[]) (bi:Rk.sub ρ (r i)):
  Ie P F B gs w sl t i (mu F gs.size φ m q r bt):=by
 have U:i<gs.size:=(Array.getElem?_eq_some_iff.1 hi).1;have Y:upd φ i (.ph p)=φ:=by rw [← K];exact MQ _ _
 have a3:∀a4,Mu.lt (mu F gs.size (upd φ i (.ph p)) m q (upd r i ρ) a4) (mu F gs.size φ m q r bt):=λa4=>TU U (λ_=>by rw [K]) (by rw [K]) bi;cases Z:Fam.CN p with
 | true=>
  have ac:loc (.ph p) (S i)= .quiet:=by simp [loc,Hv,Z]
  obtain⟨rfl,rfl,rfl⟩:=be ac;have aq:upd S i (S i)=S:=MQ _ _;refine h.go' hi a1 (x:= .ph p) (ρ:=ρ) (s':=S i) (by rw [Y];exact h.CF) (by rw [Y];exact h.lock) ?_ (by rw [ac];exact .walk a0 (λ_=>rfl) a2) ?_ h.wg h.Jb h.F8 (λa b=>absurd b a) (λa b=>absurd b a) (by rw [Y,aq];exact h.Io) (λe=>by subst e;rw [← K];exact h.mn) (λe=>by subst e;exact .refl _) rfl (.refl _) rfl a3
  ·rw [Y,aq,Mz];simpa using h.ED
  ·rw [aq,Mz];simpa using h.B9
 | false=>
  have ac:loc (.ph p) (S i)=S i:=by simp [loc,Hv,Z]
  rw [ac] at O V;have bn:loc (.ph p) s'=s':=by simp [loc,Hv,Z]
  have aw:∀b₀,Sh b₀->∀b wr,GB (S i) w w' b wr->b≠b₀:=by
   intro b₀ al b wr bo;have a5:=h.B9.sh i U b₀ al;have b0:=h.B9.F4 b₀ al;rintro rfl;rcases bo.2 with q | q | ⟨q,_⟩
   ·exact q a5.1
   ·omega
   ·exact q a5.2
  have ay:∀b₀,Sh b₀->w'.heap[b₀]? =w.heap[b₀]? :=λb₀ al=>O.keep b₀ (h.B9.F4 b₀ al) (h.B9.sh i U b₀ al).1;have a6:∀k,k<j->i=B.N0+k->¬late (φ i):=by
   intro k ag e a7;rcases h.Et U with b1 | ⟨_,d,hd,_⟩ | ⟨k',_,_,_,hw⟩
   ·have:=h.CF.pos;omega
   ·rw [K] at hd;cases hd
   ·rw [K] at hw a7;rw [QH hw a7] at Z;cases Z
  have bv:∀e∈es,e.loc≠ .mark .disable/\e.loc≠ .mark .enable:=by
   intro e he;have:=V e he;refine⟨λap=>?_,λap=>?_⟩ <;> unfold Ev at this <;> rw [ap] at this <;> exact this
  refine h.go' (f₁:=f) hi a1 (x:= .ph p) (ρ:=ρ) (s':=s') (by rw [Y];exact h.CF) (by rw [Y];exact h.lock) ?_ (by rw [bn];exact .walk a0 (λe=>by rw [Z] at e;cases e) a2) (h.B9.own U bd O V) ?_ ?_ ?_ (λa b=>absurd b a) (λa b=>absurd b a) ?_ (λe=>by subst e;rw [← K];exact h.mn) (λe=>by subst e;exact λb o az=>O.ext b o az) O.tape (.of O.os) O.output a3
  ·refine h.ED.app U (by rw [K];exact deafBehind_still bv _) (λe he=>⟨λa b am hb bw=>absurd bw ?_,λa am hb=>absurd rfl (aw F.fd h.IJ F.fd a.write (KO (V e he) am hb)),?_⟩) ?_ (λk ag bx e he a b am hb hw=>?_) (λk ag e ac=>absurd (K▸ac) (a6 k ag e))
   ·have:=KO (V e he) am hb;rintro(q | q)
    ·exact aw F.wg h.HP b _ this q
    ·exact aw F.mu h.Is b _ this q
   ·intro ap;have:=V e he;unfold Ev at this;rw [ap] at this;exact this
   ·rcases h.Et U with e | ⟨_,d,hd,_⟩ | ⟨k,_,e,_,_⟩
    ·exact .inl (.inl e)
    ·rw [K] at hd;cases hd
    ·exact .inl (.inr (by omega))
   ·have bz:=KO (V e he) am hb;have bY:B.N0+k≠i:=λe=>a6 k ag e.symm (e▸bx);have a8:B.N0+k<gs.size:=by have:=h.size;omega
    rcases bz.2 with y | y | ⟨_,y⟩
    ·exact(h.B9.hh i (B.N0+k) U a8 (Ne.symm bY) b y).2
    ·cases bZ:(S (B.N0+k)).E b with
     | none=>rfl
     | some o=>have:=(h.B9.fits _ a8).e b o bZ;simp [Array.getElem?_eq_none y] at this
    ·rw [y] at hw;cases hw
  ·show w'.heap[F.wg]? =_;rw [ay _ h.HP];exact h.wg
  ·show w'.heap[F.mu]? =_;rw [ay _ h.Is];exact h.Jb
  ·show w'.heap[F.fd]? =_;rw [ay _ h.IJ];exact h.F8
  ·intro k ag a9;rw [Y] at a9;have:=h.Io k ag a9;by_cases e:B.N0+k=i
   ·rw [e,upd_same];rw [e] at this;exact bb _ _ _ _ (λb o az=>O.ext b o az) this
   ·rw [upd_ne _ _ e];exact this
theorem Inv.slip(h:Inv P F B gs w t φ r bt S Sh j c v wt' sm m q f){i:Nat}{g:Goroutine}(hi:gs[i]? =some g)(Y:g.status= .running){d U:Nat}(O:φ i= .gone d)(az:r i=chain U)(ac:(i==0)=false)(am:QuitsD P U d g):
  Ie P F B gs w sl t i (mu F gs.size φ m q r bt):=by
 have ag:i<gs.size:=(Array.getElem?_eq_some_iff.1 hi).1;have Z:i≠0:=by simpa using ac
 cases U with
 | zero=>rw [am.1] at Y;cases Y
 | succ U=>
  rcases am with⟨a0,_⟩ | ⟨_,g',es,hm,a1,a2⟩
  ·rw [a0] at Y;cases Y
  have a3:∀op∈MemOp.ofEvents i g.frame.fn g.frame.place es,op.act.touch? =none:=λop V=>by obtain⟨e,he,rfl⟩:=mem_ofEvents V;exact touch_mute (hm e he)
  have a4:∀e∈es,e.loc≠ .mark (.release F.sA):=by
   intro e he ap;have:=hm e he;obtain⟨loc,wr,a7⟩:=e;simp only at ap;subst ap;simp [Event.mute] at this
  have aq:upd S i (S i)=S:=MQ _ _;have aw:=h.CF.leave (i:=i) (d:=d) (d':=deafBehind d es) (by omega) (by rw [IA Z (by omega)];exact O);rw [MZ Z (by omega)] at aw;refine h.go' hi (by rw [ac];exact a1 w) (x:= .gone (deafBehind d es)) (ρ:=chain U) (s':=S i) aw (h.lock.other ag (λk p e=>by rw [O] at e;cases e) (λk p e=>by cases e)) ?_ (.gone ac a2) ?_ h.wg h.Jb h.F8 (λa b=>absurd b a) (λa b=>absurd b a) ?_ (λe=>absurd e Z) (λe=>absurd e Z) rfl (.refl _) rfl λa8=>TU ag (λ_=>by rw [O];rfl) (by rw [O];rfl) (by rw [az];exact Wi U w)
  ·refine h.ED.app ag (by rw [O];rfl) (λe he=>⟨λa b K=>(by rw [touch_mute (hm e he)] at K;cases K),λa K=>(by rw [touch_mute (hm e he)] at K;cases K),a4 e he⟩) (.inr λe he=>touch_mute (hm e he)) (λk al a5 e he a b K=>(by rw [touch_mute (hm e he)] at K;cases K)) (λk al e a5=> .inl ⟨by rw [O];trivial,rfl,λρ a6=>?_⟩);exact a6.appOwn _ _ es λm e he=> .inl (touch_mute (hm e (Array.mem_of_getElem? he)))
  ·rw [aq];exact h.B9.mute (g:=i) (λop V=>by obtain⟨e,_,rfl⟩:=mem_ofEvents V;rfl) a3 (λop V=>by obtain⟨e,he,rfl⟩:=mem_ofEvents V;exact low_mute (hm e he) _) rfl
  ·rw [aq];intro k al ay;refine h.Io k al ?_;by_cases e:B.N0+k=i
   ·rw [e,O];trivial
   ·rw [upd_ne _ _ e] at ay;exact ay
theorem Zz{p:Ph}{es:Array Event}{K:Nx}(O:F.act p v wt' sm=some ((v₁,wt₁,sm₁),es,K)):
  (∀q,K= .ph q->Fam.CB q=Fam.CB p/\(Fam.CN q=true->p= .Gm∨Fam.CN p=true)/\(Fam.CN q=false->Fam.CN p=false/\p≠ .Gm)/\∀k l,q≠ .lk k l)/\(sm₁≠0->sm=0->p= .Fc)/\(∀d,K= .gone d->Fam.CB p=false/\Fam.CN p=true)/\
  (∀k l,p≠ .lk k l)/\(Fam.CB p=false->stored K)/\(Fam.CB p=false->late K->late (.ph p)∨p= .Gm)/\(Fam.CB p=false->stored (.ph p))/\K≠ .ph .GG/\K≠ .ph .Hu:=by
 cases p <;> simp only [Fam.act] at O <;> (try (cases O;done))
 all_goals (try (split at O)) <;> (try (cases O;done)) <;> (try (split at O))
 all_goals cases O
 all_goals first
  | (simp [Fam.CB,Fam.CN,stored,late];done)
  | (split <;> simp [Fam.CB,Fam.CN,stored,late];done)
  | (simp [Fam.CB,Fam.CN,stored,late];omega)
theorem CE.enabled{N0 N:Nat}{cl:Bool}(h:CE F N0 N j c φ v wt' sm cl){i:Nat}(hi:i<N){p:Ph}(K:φ i= .ph p)(az:∀k,p≠ .G2 k)(a0:∀k,p≠ .FG k)(a1:p≠ .GG)(a2:∀a3 vs,p≠ .FA a3 vs)(a4:p≠ .Hu)(a5:p= .Fs->sm=1)(a6:p≠ .F5)(a7:∀k l,p≠ .lk k l):
  ∃v' w' sm' es a8,F.act p v wt' sm=some ((v',w',sm'),es,a8):=by
 have hm:=h.mode;have be:=h.P9;have bi:=h.HM;have O:=h.cnt;have Z:cU (φ i)<=sumTo N λa=>cU (φ a):=le_sumTo (f:=λa=>cU (φ a)) hi;have ac:cL (φ i)<=sumTo N λa=>cL (φ a):=le_sumTo (f:=λa=>cL (φ a)) hi;have ap:cS (φ i)<=sumTo N λa=>cS (φ a):=le_sumTo (f:=λa=>cS (φ a)) hi;rw [K] at Z ac ap;have a9:wt'<=1:=by
  generalize (if c=true then φ (N0+F.n) else Nx.ph .Dl)=y at hm
  cases y with
  | gone d=>simp only [Dv] at hm;omega
  | ph q=>cases q <;> simp only [Dv] at hm <;> (try exact hm.elim) <;> omega
 have ag:1<=(sumTo N λa=>cL (φ a))+(sumTo N λa=>cS (φ a))->v=0/\sm=0/\wt'=sumTo N λa=>cL (φ a):=by
  intro hh;generalize (if c=true then φ (N0+F.n) else Nx.ph .Dl)=y at hm
  cases y with
  | gone d=>simp only [Dv] at hm;omega
  | ph q=>cases q <;> simp only [Dv] at hm <;> (try exact hm.elim) <;> omega
 have al:∀x,φ i= .ph x->I5 (.ph x)->c=true/\(if c=true then φ (N0+F.n) else Nx.ph .Dl)= .ph x:=by
  intro x V aq;rcases h.Et hi with rfl | ⟨a,b⟩ | ⟨k,am,rfl⟩ | ⟨O,rfl⟩
  ·obtain⟨q,U,Y⟩:=h.main;rw [V] at U;cases U;cases x <;> simp [Ht] at Y <;> exact aq.elim
  ·have:=h.old i a b;rw [V] at this;exact this.elim
  ·have:=h.work k am;rw [V] at this;cases x <;> simp [GC] at this <;> exact aq.elim
  ·exact⟨O,by rw [if_pos O];exact V⟩
 cases p <;> simp only [Fam.act]
 ·exact absurd rfl (az _)
 ·exact⟨_,_,_,_,_,rfl⟩
 ·exact⟨_,_,_,_,_,rfl⟩
 ·simp only [cU] at Z;have:1<=v:=by
   have bn:1<=sumTo N λa=>cU (φ a):=Z;omega
  rw [if_pos ⟨this,by omega,a9⟩];exact⟨_,_,_,_,_,rfl⟩
 ·have bb:1<=sumTo N λa=>cL (φ a):=ac;have:=ag (by omega);rw [if_pos ⟨this.1,by omega⟩];exact⟨_,_,_,_,_,rfl⟩
 ·have bb:1<=sumTo N λa=>cL (φ a):=ac;have:=ag (by omega);rw [if_pos ⟨this.1,by omega⟩];exact⟨_,_,_,_,_,rfl⟩
 ·have bo:1<=sumTo N λa=>cS (φ a):=ap;have:=ag (by omega);rw [if_pos this.2.1];exact⟨_,_,_,_,_,rfl⟩
 ·exact⟨_,_,_,_,_,rfl⟩
 ·obtain⟨aw,e⟩:=al _ K trivial;rw [e] at hm;rw [if_pos ⟨hm.2.2.2.2.2,hm.2.2.2.1⟩];exact⟨_,_,_,_,_,rfl⟩
 ·obtain⟨aw,e⟩:=al _ K trivial;rw [e] at hm;rw [if_pos ⟨hm.2.2.2.2.2.1,hm.2.2.2.2.2.2,hm.2.2.2.1⟩];split <;> exact⟨_,_,_,_,_,rfl⟩
 ·exact⟨_,_,_,_,_,rfl⟩
 ·rw [if_pos (a5 rfl)];exact⟨_,_,_,_,_,rfl⟩
 ·obtain⟨aw,e⟩:=al _ K trivial;rw [e] at hm;rw [if_pos ⟨hm.2.2.2.2.1,hm.2.2.2.1⟩];exact⟨_,_,_,_,_,rfl⟩
 ·exact⟨_,_,_,_,_,rfl⟩
 ·exact absurd rfl a6
 ·exact absurd rfl a4
 ·exact⟨_,_,_,_,_,rfl⟩
 ·have bd:c=false/\v<=j/\j<F.n:=by
   rcases h.Et hi with rfl | ⟨a,b⟩ | ⟨k,am,rfl⟩ | ⟨O,rfl⟩
   ·obtain⟨q,U,Y⟩:=h.main;rw [K] at U;cases U;have ay:=h.JV;rw [K] at ay;exact⟨Y.2.2,by simpa [pend] using ay,Y.2.1⟩
   ·have:=h.old i a b;rw [K] at this;exact this.elim
   ·have:=h.work k am;rw [K] at this;exact this.elim
   ·have:=h.cls O;rw [K] at this;exact this.elim
  rw [bd.1] at hm;simp only [Bool.false_eq_true,if_false,Dv] at hm;rw [if_pos ⟨by omega,hm.2.2.2.1⟩];exact⟨_,_,_,_,_,rfl⟩
 ·exact⟨_,_,_,_,_,rfl⟩
 ·exact⟨_,_,_,_,_,rfl⟩
 ·exact absurd rfl (a0 _)
 ·exact absurd rfl a1
 ·exact absurd rfl (a2 _ _)
 all_goals first | exact⟨_,_,_,_,_,rfl⟩ | exact absurd rfl (a7 _ _)
end
section
variable {P:Program}{F:Fam}{B:Base}{gs:Array Goroutine}{w w':World}{sl:Option (Nat×Nat)}{t:Trace}{φ:Nat->Nx}{r:Nat->Rk}{bt:Nat->Bool}{S:Nat->St}{Sh:Nat->Prop}{j:Nat}{c:Bool}{v wt' sm v₁ wt₁ sm₁:Nat}{m m₁:M4}{q q₁:Nat}{f f₁:Nat->Value}
theorem Xj(w:World)(v wt sm:Nat):(F.put w v wt sm).heap.size=w.heap.size:=by simp [Fam.put]
theorem Po(w:World)(v wt sm:Nat){b:Nat}(h:b≠F.wg):(F.put w v wt sm).heap[b]? =w.heap[b]? :=by simp [Fam.put,Array.getElem?_setIfInBounds_ne (Ne.symm h)]
theorem Zy(w:World)(v wt sm:Nat)(h:F.wg<w.heap.size):F.WG (F.put w v wt sm) v wt sm:=by simp [Fam.WG,Fam.put,h]
theorem Wp(w:World)(m:M4)(q:Nat):(F.FC w m q).heap.size=w.heap.size:=by simp [Fam.FC]
theorem OV(w:World)(m:M4)(q:Nat){b:Nat}(h:b≠F.mu):(F.FC w m q).heap[b]? =w.heap[b]? :=by simp [Fam.FC,Array.getElem?_setIfInBounds_ne (Ne.symm h)]
theorem YJ(w:World)(m:M4)(q:Nat)(h:F.mu<w.heap.size):F.MU (F.FC w m q) m q:=by simp [Fam.MU,Fam.FC,h]
theorem Wt(w:World)(f:Nat->Value):(F.G5 w f).heap.size=w.heap.size:=by simp [Fam.G5]
theorem OU(w:World)(f:Nat->Value){b:Nat}(h:b≠F.fd):(F.G5 w f).heap[b]? =w.heap[b]? :=by simp [Fam.G5,Array.getElem?_setIfInBounds_ne (Ne.symm h)]
theorem Yy(w:World)(f:Nat->Value)(h:F.fd<w.heap.size):F.FD (F.G5 w f) f:=by simp [Fam.FD,Fam.G5,h]
theorem Z0{p:Ph}{s:St}(h:p≠ .Gm):Fam.Jd p s=s:=by cases p <;> first | rfl | exact absurd rfl h
theorem BW.heap{t:Trace}{w w':World}{N:Nat}{S:Nat->St}{Sh:Nat->Prop}(h:BW t w N S Sh)(hw:w'.heap=w.heap):BW t w' N S Sh:=by
 have:=h.mute (u:= #[]) (w':=w') (g:=0) (by simp) (by simp) (by simp) hw;simpa using this
theorem Inv.act(h:Inv P F B gs w t φ r bt S Sh j c v wt' sm m q f)(bY:∀k v E E',Le E E'->F.msg k v E->F.msg k v E'){i:Nat}{g:Goroutine}(hi:gs[i]? =some g){p:Ph}(K:φ i= .ph p)(Z:(i==0)=Fam.CB p){s₀:St}(bZ:Cf (loc (.ph p) (S i)) s₀)(ap:Stop P F p g s₀)
  {es:Array Event} {Y:Nx} (O:F.act p v wt' sm=some ((v₁,wt₁,sm₁),es,Y)):Ie P F B gs w sl t i (mu F gs.size φ m q r bt):=by
 have U:i<gs.size:=(Array.getElem?_eq_some_iff.1 hi).1;obtain⟨g',b0,b1,a4⟩:=ap.law.act _ _ _ _ _ _ _ _ O;obtain⟨n1,n2,b2,b3,n5,b4,b5,b6⟩:=Zz O;obtain⟨al,e2,b7⟩:=Zv p O;have a5:=h.B9.F4 F.wg h.HP;have cu:=h.size;have cv:=h.CF.pos;have a6:i≠0->Fam.CB p=false:=λe=>by rw [← Z];simp [e]
 have a7:(p= .HO∨∃j,p= .HE j)->i=0:=by
  intro V;have:Fam.CB p=true:=by rcases V with rfl | ⟨j,rfl⟩ <;> rfl
  rw [this] at Z;simpa using Z
 have a8:i=0∨B.N0<=i:=by
  rcases h.Et U with e | ⟨_,d,hd,_⟩ | ⟨k,_,e,_,_⟩
  ·exact .inl e
  ·rw [K] at hd;cases hd
  ·exact .inr (by omega)
 let s':St:=if Fam.CN p=true then S i else s₀
 have aq:Fam.CN p=true->s'=S i:=λe=>by simp [s',e]
 have ac:Fam.CN p=false->s'=s₀:=λe=>by simp [s',e]
 have a9:Fam.CN p=false->Cf (S i) s₀:=λe=>by simpa [loc,Hv,e] using bZ
 have hle:Le (S i).E s'.E:=by
  cases e:Fam.CN p with
  | true=>rw [aq e];exact .refl _
  | false=>rw [ac e];exact λb o aw=>(a9 e).ext b o aw
 have bb:BW t w gs.size (upd S i s') Sh:=by
  cases e:Fam.CN p with
  | true=>rw [aq e,MQ];exact h.B9
  | false=>rw [ac e];exact h.B9.ghost U (a9 e)
 have b8:BW (t++MemOp.ofEvents i g.frame.fn g.frame.place es) (F.put w v₁ wt₁ sm₁) gs.size (upd S i s') Sh:=by
  refine bb.ext (h.ED.noRace h.B9.clean U a8 λe he=>(al e he).toS a7) (λop ay a az b hb=>?_) (λop ay=>?_) (Xj ..) (λb hb=>Po _ _ _ _ λe=>hb (e▸h.HP))
  ·obtain⟨e,he,rfl⟩:=mem_ofEvents ay;obtain⟨⟨b',ag,a0⟩,_⟩:=(al e he).1 a az;rw [hb] at ag;cases ag;rcases a0 with rfl | rfl
   ·exact h.HP
   ·exact h.Is
  ·obtain⟨e,he,rfl⟩:=mem_ofEvents ay;exact b7 e he _ a5
 have b9:stepG P (i==0) g w= .go g' (F.put w v₁ wt₁ sm₁) es:=by rw [Z];exact b0 w h.wg
 have ca:CE F B.N0 (gs.size+c.toNat) j c (Cw c gs.size (upd φ i Y)) v₁ wt₁ sm₁ false:=by
  by_cases e:i=0
  ·subst e;cases c with
   | false=>
    have:=h.CF.act (i:=0) (by omega) (by rw [I6];exact K) O;rw [I6] at this;rw [I6];exact this
   | true=>
    have:=h.CF.act (i:=gs.size) (by simp) (by rw [JC];exact K) O
    rwa [XB (by omega)] at this
  ·have:=h.CF.act (i:=i) (by omega) (by rw [IA e (by omega)];exact K) O
   rwa [MZ e (by omega)] at this
 have cb:ES F B.N0 B.t0 gs.size j (upd φ i Y) (upd S i s') (t++MemOp.ofEvents i g.frame.fn g.frame.place es):=by
  refine h.ED.app U (by rw [K];exact e2) (λe he=>(al e he).keep a7 h.JU h.JR) (.inl a8) (λk am bd e he a b az hb hw=>?_) (λk am e bd=>?_)
  ·obtain⟨⟨b',ag,a0⟩,_⟩:=(al e he).1 a az;rw [hb] at ag;cases ag;have be:B.N0+k<gs.size:=by omega
   rcases a0 with rfl | rfl
   ·exact(h.B9.sh _ be _ h.HP).2
   ·exact(h.B9.sh _ be _ h.Is).2
  ·have bi:i≠0:=by omega
   have bn:GC F k (.ph p):=by
    rcases h.Et U with cc | ⟨_,d,hd,_⟩ | ⟨k',_,cw,_,hw⟩
    ·exact absurd cc bi
    ·rw [K] at hd;cases hd
    ·obtain rfl:k'=k:=by omega
     rwa [K] at hw
   rcases b4 (a6 bi) bd with a2 | rfl
   ·refine .inl ⟨by rw [K];exact a2,by rw [aq (QH bn a2)],λρ a3=>?_⟩;refine a3.appOwn _ _ es λm e he=>?_;rw [h.ED.deaf _ U,K];exact WU p O bn a2 m e he
   ·refine .inr ⟨t.size,h.ED.Me,?_,?_⟩
    ·simp only [Fam.act] at O;cases O;exact .new (by rw [h.ED.deaf _ U,K];rfl) _ _
    ·simp only [Fam.act] at O;cases O;rw [ac rfl];intro b hb x a bo cd hw;have ce:MemOp.ofEvents i g.frame.fn g.frame.place #[Fam.CH (.releaseMerge F.sA)]= #[{g:=i,fn:=g.frame.fn,pos:=g.frame.place,act:= .mark (.releaseMerge F.sA)}]:=by rw [ofEvents_eq];simp [Fam.CH,MemAct.ofEvent]
     rw [ce] at bo ⊢;obtain⟨op,aw,bv⟩:=touch_of bo;rcases getElem?_append_cases aw with⟨_,cf⟩ | ⟨_,bw⟩
     ·have cg:=bb.kE i U b (by rw [upd_same,ac rfl];exact hb) x a (by rw [touchAt_of cf];exact bv) cd hw;have ci:(t++ #[({g:=i,fn:=g.frame.fn,pos:=g.frame.place,act:= .mark (.releaseMerge F.sA)}:MemOp)])[t.size]? =some {g:=i,fn:=g.frame.fn,pos:=g.frame.place,act:= .mark (.releaseMerge F.sA)}:=by simp
      exact .inr (cg.hb_new (Nat.le_refl _) ci rfl)
     ·simp at bw;subst bw;cases bv
 have ck:∀k,k<j->stored (upd φ i Y (B.N0+k))->F.msg k (f k) (upd S i s' (B.N0+k)).E:=by
  intro k am bx;by_cases e:B.N0+k=i
  ·rw [e,upd_same];have:=h.Io k am (by rw [e,K];exact b5 (a6 (by omega)));rw [e] at this;exact bY _ _ _ _ hle this
  ·rw [upd_ne _ _ e] at bx ⊢;exact h.Io k am bx
 have cm:LI gs.size (upd φ i Y) m q:=h.lock.other U (λk l e=>b3 k l (by rw [K] at e;exact Nx.ph.inj e)) (λk l e=>by subst e;exact(n1 _ rfl).2.2.2 k l rfl);have cn:∀q,Y= .ph q->loc (.ph q) s'=Fam.Jd p s₀:=by
  intro q e;obtain⟨_,bz,co,_⟩:=n1 q e;cases V:Fam.CN q with
  | true=>
   have:loc (.ph q) s'= .quiet:=by simp [loc,Hv,V]
   rw [this];rcases bz V with rfl | e
   ·rfl
   ·rw [ap.law.quiet e];cases p <;> rfl
  | false=>
   obtain⟨a1,cp⟩:=co V;rw [Z0 cp,ac a1];simp [loc,Hv,V]
 have fin:∀(ρ:Rk),Gt P F (i==0) Y ρ true g' (loc Y s')->Ie P F B gs w sl t i (mu F gs.size φ m q r bt):=λρ cq=>
  h.go' (f₁:=f) hi b9 ca cm cb cq b8 (Zy _ _ _ _ a5) (by show(F.put w v₁ wt₁ sm₁).heap[F.mu]? =_;rw [Po _ _ _ _ h.Mg];exact h.Jb) (by show(F.put w v₁ wt₁ sm₁).heap[F.fd]? =_;rw [Po _ _ _ _ h.JU];exact h.F8)
   (λa b=>⟨ap.law.II (.inl (n2 a b)),b1⟩) (λa b=>absurd b a) ck (λ_=>b6) (λe=>by subst e;exact hle) rfl (.refl _) rfl λcy=>TS U (by rw [K];exact ae O)
 cases Y with
 | ph q=>
  obtain⟨ρ,a3⟩:=a4;refine fin ρ ?_;obtain⟨cr,bz,_,_⟩:=n1 q rfl;refine .walk (by rw [Z,cr]) (λV=>by simp [loc,Hv,V]) ?_;rw [cn q rfl,Z];exact a3
 | gone d=>
  obtain⟨ct,V⟩:=a4;exact fin (chain ct) (.gone (by rw [Z];exact(b2 d rfl).1) V)
theorem Zx{l:LP}{m m':M4}{q q':Nat}{es:Array Event}{o:Option LP}(K:(m',q',es,o)∈F.BX l m q):q'<=q∨∃b,l= .ER b:=by
 cases l <;> simp only [Fam.BX,List.mem_singleton,Prod.mk.injEq,List.not_mem_nil] at K
 case ER b=>exact .inr ⟨b,rfl⟩
 case G4=>split at K <;> simp only [List.mem_singleton,Prod.mk.injEq] at K <;> exact .inl (by omega)
 case Cj sv aw it old=>
  simp only [Fam.Fq,List.mem_append] at K;left;rcases K with K | K
  ·split at K
   ·split at K
    ·simp only [List.mem_singleton] at K;split at K <;> simp only [Prod.mk.injEq] at K <;> omega
    ·simp only [List.mem_singleton,Prod.mk.injEq] at K;omega
   ·simp at K
  ·split at K
   ·split at K
    ·simp only [List.mem_singleton,Prod.mk.injEq] at K;omega
    ·simp only [List.mem_cons,List.not_mem_nil,or_false,Prod.mk.injEq] at K;rcases K with K | K <;> omega
   ·simp only [List.mem_singleton,Prod.mk.injEq] at K;omega
 case FP=>
  simp only [List.mem_cons,List.not_mem_nil,or_false,Prod.mk.injEq] at K;left;rcases K with K | K <;> omega
 case Es sv=>split at K <;> simp only [List.mem_singleton,Prod.mk.injEq] at K <;> exact .inl (by omega)
 case EC old=>split at K <;> simp only [List.mem_singleton,Prod.mk.injEq] at K <;> exact .inl (by omega)
 all_goals exact .inl (by omega)
theorem W4{l:LP}{m m':M4}{q q':Nat}{es:Array Event}{o:Option LP}(K:(m',q',es,o)∈F.BX l m q):(∀p,o=some p->Gq p->Gq l)/\(o=none->Gq l):=by
 cases l <;> simp only [Fam.BX,List.mem_singleton,Prod.mk.injEq,List.not_mem_nil] at K
 case G4=>split at K <;> simp only [List.mem_singleton,Prod.mk.injEq] at K <;> obtain⟨-,-,-,rfl⟩:=K <;> simp [Gq]
 case Cj sv aw it old=>
  simp only [Fam.Fq,List.mem_append] at K;rcases K with K | K
  ·split at K
   ·split at K
    ·simp only [List.mem_singleton] at K;split at K <;> simp only [Prod.mk.injEq] at K <;> obtain⟨-,-,-,rfl⟩:=K <;> simp [Gq]
    ·simp only [List.mem_singleton,Prod.mk.injEq] at K;obtain⟨-,-,-,rfl⟩:=K;simp [Gq]
   ·simp at K
  ·split at K
   ·split at K
    ·simp only [List.mem_singleton,Prod.mk.injEq] at K;obtain⟨-,-,-,rfl⟩:=K;simp [Gq]
    ·simp only [List.mem_cons,List.not_mem_nil,or_false,Prod.mk.injEq] at K;rcases K with⟨-,-,-,rfl⟩ | ⟨-,-,-,rfl⟩ <;> simp [Gq]
   ·simp only [List.mem_singleton,Prod.mk.injEq] at K;obtain⟨-,-,-,rfl⟩:=K;simp [Gq]
 case FP=>
  simp only [List.mem_cons,List.not_mem_nil,or_false,Prod.mk.injEq] at K;rcases K with⟨-,-,-,rfl⟩ | ⟨-,-,-,rfl⟩ <;> simp [Gq]
 case Cv sv=>obtain⟨-,-,-,rfl⟩:=K;cases sv <;> simp [Gq]
 case Es sv=>split at K <;> simp only [List.mem_singleton,Prod.mk.injEq] at K <;> obtain⟨-,-,-,rfl⟩:=K <;> simp [Gq]
 all_goals first
  | (obtain⟨-,-,-,rfl⟩:=K;simp [Gq];done)
  | (exact⟨λ_ _ _=>trivial,λ_=>trivial⟩)
theorem Inv.BX(h:Inv P F B gs w t φ r bt S Sh j c v wt' sm m q f)(bd:∀k v E E',Le E E'->F.msg k v E->F.msg k v E'){i:Nat}{g:Goroutine}(hi:gs[i]? =some g){k:Nat}{l:LP}(K:φ i= .ph (.lk k l))(be:l≠ .Fu)(ac:(i==0)=false){s₀:St}(a1:Cf (S i) s₀)(a2:Stop P F (.lk k l) g s₀)
  (bi:∀sv,l= .Cv sv->q≠0):Ie P F B gs w sl t i (mu F gs.size φ m q r bt):=by
 have O:i<gs.size:=(Array.getElem?_eq_some_iff.1 hi).1;have aw:=h.lock.ok O K h.small bi;obtain⟨m',q',es,o,g',ag,U,bn,V,bo,bv⟩:=a2.law.lk k l rfl be w m q h.Jb aw;obtain⟨al,e2,bw⟩:=Yo U;have a3:=h.B9.F4 F.mu h.Is;have ce:=h.size;have cf:=h.CF.pos;have Y:i≠0:=by simpa using ac
 obtain⟨k',bx,a4,_,a5⟩:∃k',k'<j/\i=B.N0+k'/\i≠0/\GC F k' (φ i):=by
  rcases h.Et O with e | ⟨_,d,hd,_⟩ | e
  ·exact absurd e Y
  ·rw [K] at hd;cases hd
  ·exact e
 rw [K] at a5;obtain rfl:k=k':=a5;have bz:BW t w gs.size (upd S i s₀) Sh:=h.B9.ghost O a1;have bY:BW (t++MemOp.ofEvents i g.frame.fn g.frame.place es) ag gs.size (upd S i s₀) Sh:=by
  have:BW (t++MemOp.ofEvents i g.frame.fn g.frame.place es) (F.FC w m' q') gs.size (upd S i s₀) Sh:=by
   refine bz.ext (h.ED.noRace h.B9.clean O (.inr (by omega)) λe he=>(al e he).toS (λx=>x.elim)) (λop ay a az b hb=>?_) (λop ay=>?_) (Wp ..) (λb hb=>OV _ _ _ λe=>hb (e▸h.Is))
   ·obtain⟨e,he,rfl⟩:=mem_ofEvents ay;obtain⟨⟨b',Z,a0⟩,_⟩:=(al e he).1 a az;rw [hb] at Z;cases Z;rcases a0 with rfl | rfl
    ·exact h.HP
    ·exact h.Is
   ·obtain⟨e,he,rfl⟩:=mem_ofEvents ay;exact bw e he _ a3
  exact this.heap V.1
 have bZ:cU (.ph (Fam.Db k o))=1/\cL (.ph (Fam.Db k o))=0/\cS (.ph (Fam.Db k o))=0/\GC F k (.ph (Fam.Db k o))/\(∀a,Nx.ph (Fam.Db k o)≠ .ph (.G2 a))/\Fam.CB (Fam.Db k o)=false/\Fam.CN (Fam.Db k o)=false/\¬late (.ph (Fam.Db k o)):=by
  cases o with
  | none=>exact⟨rfl,rfl,rfl,trivial,by simp [Fam.Db],rfl,rfl,λx=>x⟩
  | some p=>exact⟨rfl,rfl,rfl,rfl,by simp [Fam.Db],rfl,rfl,λx=>x⟩
 obtain⟨b0,x2,b1,b2,b3,b4,a6,b5⟩:=bZ;have b6:CE F B.N0 (gs.size+c.toNat) j c (Cw c gs.size (upd φ i (.ph (Fam.Db k o)))) v wt' sm false:=by
  have am:Cw c gs.size φ (B.N0+k)= .ph (.lk k l):=by rw [← a4,IA Y (by omega)];exact K
  have:=h.CF.Il (v':=v) (wt':=wt') (sm':=sm) (cl':=false) bx (x:= .ph (Fam.Db k o)) b2 (λa=>by rw [am];simp) b3 (by rw [am,b0];rfl) λL S' a7 a8=>by
   rw [am,x2] at a7;rw [am,b1] at a8;have b7:L=_:=a7;have b8:S'=_:=a8;rw [b7,b8];exact h.CF.mode
  rwa [← a4,MZ Y (by omega)] at this
 have b9:ES F B.N0 B.t0 gs.size j (upd φ i (.ph (Fam.Db k o))) (upd S i s₀) (t++MemOp.ofEvents i g.frame.fn g.frame.place es):=by
  refine h.ED.app O (by rw [K];rw [show FF (.ph (.lk k l))=dl l from rfl,e2];cases o <;> rfl) (λe he=>(al e he).keep (λx=>x.elim) h.JU h.JR) (.inl (.inr (by omega))) (λk' ap a9 e he a b az hb hw=>?_) (λk' ap e a9=>absurd a9 b5);obtain⟨⟨b',Z,a0⟩,_⟩:=(al e he).1 a az;rw [hb] at Z;cases Z;have bb:B.N0+k'<gs.size:=by omega
  rcases a0 with rfl | rfl
  ·exact(h.B9.sh _ bb _ h.HP).2
  ·exact(h.B9.sh _ bb _ h.Is).2
 obtain⟨ρ,ca⟩:=bv;have cb:loc (.ph (Fam.Db k o)) s₀=s₀:=by simp [loc,Hv,a6]
 refine h.go' (f₁:=f) hi (by rw [ac];exact bn) b6 (h.lock.step O K h.small aw U) b9 (ρ:=ρ) (by rw [cb];exact .walk (by rw [ac,b4]) (λe=>by rw [a6] at e;cases e) (by rw [ac];exact ca)) bY ?_ ?_ ?_ (λa b=>absurd b a) (λa b=>?_) (λk' ap aq=>?_) (λe=>absurd e Y) (λe=>absurd e Y) (V.2.1) V.2.2.1 V.2.2.2 λcg=>aL O K U aw
 ·show ag.heap[F.wg]? =_;rw [V.1,OV _ _ _ (Ne.symm h.Mg)];exact h.wg
 ·show ag.heap[F.mu]? =_;rw [V.1];exact YJ _ _ _ a3
 ·show ag.heap[F.fd]? =_;rw [V.1,OV _ _ _ h.JR];exact h.F8
 ·rcases Zx U with e | ⟨cc,rfl⟩
  ·omega
  ·exact⟨a2.law.II (.inr ⟨k,cc,rfl⟩),bo⟩
 ·by_cases e:B.N0+k'=i
  ·rw [e,upd_same] at aq ⊢;obtain rfl:k'=k:=by omega
   have cd:Gq l:=by
    obtain⟨a,b⟩:=W4 U;cases o with
    | none=>exact b rfl
    | some p=>exact a p rfl aq
   have:=h.Io k' ap (by rw [e,K];exact cd);rw [e] at this;exact bd _ _ _ _ (λb o U=>a1.ext b o U) this
  ·rw [upd_ne _ _ e] at aq ⊢;exact h.Io k' ap aq
end
section
variable {P:Program}{F:Fam}{B:Base}{gs gs':Array Goroutine}{w w':World}{sl:Option (Nat×Nat)}{t:Trace}{φ:Nat->Nx}{r:Nat->Rk}{bt:Nat->Bool}{S:Nat->St}{Sh:Nat->Prop}{j:Nat}{c:Bool}{v wt' sm v₁ wt₁ sm₁:Nat}{m m₁:M4}{q q₁:Nat}{f f₁:Nat->Value}
theorem Inv.store(h:Inv P F B gs w t φ r bt S Sh j c v wt' sm m q f){i:Nat}{g:Goroutine}(hi:gs[i]? =some g){k:Nat}(O:φ i= .ph (.lk k .Fu))(ac:(i==0)=false){s₀:St}(a4:Cf (S i) s₀)(a5:Stop P F (.lk k .Fu) g s₀):
  Ie P F B gs w sl t i (mu F gs.size φ m q r bt):=by
 have U:i<gs.size:=(Array.getElem?_eq_some_iff.1 hi).1;obtain⟨v0,a6,g',bY,a7,a8⟩:=a5.law.store k rfl;have aw:=h.B9.F4 F.fd h.IJ;have bZ:=h.size;have b0:=h.CF.pos;have V:i≠0:=by simpa using ac
 obtain⟨k',ag,Y,_,ay⟩:∃k',k'<j/\i=B.N0+k'/\i≠0/\GC F k' (φ i):=by
  rcases h.Et U with e | ⟨_,d,hd,_⟩ | e
  ·exact absurd e V
  ·rw [O] at hd;cases hd
  ·exact e
 rw [O] at ay;obtain rfl:k=k':=ay;have Z:∀e∈(#[⟨.cell ⟨F.fd,k,none⟩,true,false⟩]:Array Event),∀a,(MemAct.ofEvent e).touch? =some a->a=⟨.cell ⟨F.fd,k,none⟩,true,.plain⟩:=by
  intro e he a K;simp at he;subst he;simp [MemAct.ofEvent,MemAct.touch?] at K;exact K.symm
 have az:∀e∈(#[⟨.cell ⟨F.fd,k,none⟩,true,false⟩]:Array Event),e.loc≠ .mark (.release F.sA):=by
  intro e he;simp at he;subst he;simp
 have a9:∀e∈(#[⟨.cell ⟨F.fd,k,none⟩,true,false⟩]:Array Event),EvS F B.N0 j i e:=λe he=>
  ⟨λa K=>by have:=Z e he a K;subst this;exact⟨F.fd,rfl,.inr ⟨rfl,k,ag,Y,rfl,rfl⟩⟩,az e he⟩
 have bb:BW t w gs.size (upd S i s₀) Sh:=h.B9.ghost U a4;have bd:BW (t++MemOp.ofEvents i g.frame.fn g.frame.place #[⟨.cell ⟨F.fd,k,none⟩,true,false⟩]) (F.G5 w (upd f k v0)) gs.size (upd S i s₀) Sh:=by
  refine bb.ext (h.ED.noRace h.B9.clean U (.inr (by omega)) a9) (λop al a be b hb=>?_) (λop al=>?_) (Wt ..) (λb hb=>OU _ _ λe=>hb (e▸h.IJ))
  ·obtain⟨e,he,rfl⟩:=mem_ofEvents al;have:=Z e he a be;subst this;have:b=F.fd:=by simpa [CO] using hb.symm
   subst this;exact h.IJ
  ·obtain⟨e,he,rfl⟩:=mem_ofEvents al;simp at he;subst he;simp [MemAct.ofEvent,MemAct.low,Loc.low,aw]
 have bi:CE F B.N0 (gs.size+c.toNat) j c (Cw c gs.size (upd φ i (.ph (.lk k .Gr)))) v wt' sm false:=by
  have am:Cw c gs.size φ (B.N0+k)= .ph (.lk k .Fu):=by rw [← Y,IA V (by omega)];exact O
  have:=h.CF.Il (v':=v) (wt':=wt') (sm':=sm) (cl':=false) ag (x:= .ph (.lk k .Gr)) rfl (λa=>by rw [am];simp) (by simp) (by rw [am];rfl) λL S' a0 a1=>by
   rw [am] at a0 a1;have bn:L=_:=a0;have bo:S'=_:=a1;rw [bn,bo];exact h.CF.mode
  rwa [← Y,MZ V (by omega)] at this
 have bv:ES F B.N0 B.t0 gs.size j (upd φ i (.ph (.lk k .Gr))) (upd S i s₀) (t++MemOp.ofEvents i g.frame.fn g.frame.place #[⟨.cell ⟨F.fd,k,none⟩,true,false⟩]):=by
  refine h.ED.app U (by rw [O];rfl) (λe he=>⟨λa b K hb bw=>?_,λa K hb=>?_,az e he⟩) (.inl (.inr (by omega))) (λk' ap a2 e he a b K hb hw=>?_) (λk' ap e a2=>a2.elim)
  ·have:=Z e he a K;subst this;have aq:b=F.fd:=by simpa [CO] using hb.symm
   subst aq;rcases bw with e | e
   ·exact absurd e h.JU
   ·exact absurd e h.JR
  ·have:=Z e he a K;subst this;exact⟨k,ag,Y,rfl,rfl⟩
  ·have:=Z e he a K;subst this;have aq:b=F.fd:=by simpa [CO] using hb.symm
   subst aq;exact(h.B9.sh (B.N0+k') (by omega) _ h.IJ).2
 obtain⟨ρ,bx⟩:=a8;have bz:LI gs.size (upd φ i (.ph (.lk k .Gr))) m q:=by
  refine h.lock.same U (λf=>?_) trivial;rw [O];by_cases e:f .Fu=f .Gr
  ·exact .inl e
  ·right;refine⟨?_,?_,?_,?_,?_,?_,?_,?_⟩ <;> rintro rfl <;> exact e rfl
 refine h.go' (f₁:=upd f k v0) hi (by rw [ac];exact a7 w f h.F8) bi bz bv (ρ:=ρ) (.walk (by rw [ac];rfl) (λe=>by cases e) (by rw [ac];exact bx)) bd ?_ ?_ (Yy _ _ aw) (λa b=>absurd b a) (λa b=>absurd b a) (λk' ap a3=>?_) (λe=>absurd e V) (λe=>absurd e V) rfl (.refl _) rfl λb1=>TS U (by rw [O];simp [wt,He])
 ·show(F.G5 w (upd f k v0)).heap[F.wg]? =_;rw [OU _ _ (Ne.symm h.JU)];exact h.wg
 ·show(F.G5 w (upd f k v0)).heap[F.mu]? =_;rw [OU _ _ (Ne.symm h.JR)];exact h.Jb
 ·by_cases e:k'=k
  ·subst e;rw [← Y,upd_same,upd_same];exact a6
  ·rw [upd_ne _ _ e];rw [upd_ne _ _ (by omega)] at a3 ⊢;exact h.Io k' ap a3
theorem UL{g g' o:Goroutine}(h:g'.status= .blocked):woken P g g' w o=o:=by
 unfold woken;rw [if_neg (by simp [h])]
theorem ES.ZC{N0 t0 N:Nat}(h:ES F N0 t0 N j φ S t){i:Nat}{s':St}(U:∀k,k<j->late (φ (N0+k))->N0+k≠i):ES F N0 t0 N j φ (upd S i s') t:=
 ⟨h.deaf,h.above,h.plain,h.said,h.F8,h.over,h.norel,h.Me,λk K O=>by rw [upd_ne _ _ (U k K O)];exact h.rel k K O⟩
theorem Inv.block(h:Inv P F B gs w t φ r bt S Sh j c v wt' sm m q f){i:Nat}{g:Goroutine}(hi:gs[i]? =some g){p:Ph}(K:φ i= .ph p)(a0:bt i=true)(Z:(i==0)=Fam.CB p){s₀:St}(am:Cf (S i) s₀)(ac:Stop P F p g s₀)
  (ag:(p= .Fs/\sm=0)∨((∃k sv,p= .lk k (.Cv sv))/\q=0)):Ie P F B gs w sl t i (mu F gs.size φ m q r bt):=by
 have V:i<gs.size:=(Array.getElem?_eq_some_iff.1 hi).1;have a5:=h.size;have a1:stepG P (i==0) g w= .go {g with status:= .blocked} w #[]:=by
  rw [Z];rcases ag with⟨rfl,rfl⟩ | ⟨⟨k,sv,rfl⟩,rfl⟩
  ·exact ac.law.ET rfl w v wt' h.wg
  ·exact ac.law.Cv k sv rfl w m h.Jb
 have Y:Pn p:=by
  rcases ag with⟨rfl,_⟩ | ⟨⟨k,sv,rfl⟩,_⟩
  ·exact .inl rfl
  ·exact .inr ⟨k,sv,rfl⟩
 have a2:=Qt Y;have ap:=runT_crowd_go (P:=P) (sl:=sl) (i:=i) hi a1;have a3:(gs.map (woken P g {g with status:= .blocked} w)).setIfInBounds i {g with status:= .blocked}=gs.setIfInBounds i {g with status:= .blocked}:=by
  have:(woken P g {g with status:= .blocked} w)=id:=by funext o;exact UL rfl
  rw [this,Array.map_id]
 rw [a3,Mz] at ap;have O:(gs.setIfInBounds i {g with status:= .blocked}).size=gs.size:=by simp
 have aq:t++(#[]:Trace)=t:=by simp
 have a4:∀k,k<j->late (φ (B.N0+k))->B.N0+k≠i:=by
  intro k aw ay e;rw [e,K] at ay;rcases Y with rfl | ⟨k',sv,rfl⟩
  ·rcases h.Et V with aq | ⟨_,d,hd,_⟩ | ⟨k',_,_,_,hw⟩
   ·have:=h.CF.pos;omega
   ·rw [K] at hd;cases hd
   ·rw [K] at hw;exact hw
  ·exact ay
 refine⟨_,_,_,_,ap,.inl ⟨φ,r,upd bt i false,upd S i s₀,Sh,j,c,v,wt',sm,m,q,f,?_,?_⟩⟩
 ·rw [aq];refine⟨by rw [O];exact h.CF,by rw [O];exact h.lock,by rw [O];exact h.ED.ZC a4,λa o U=>?_,by rw [O];exact h.B9.ghost V am,h.HP,h.Is,h.IJ,h.Mg,h.JU,h.JR,h.HM,h.mn,h.wg,h.Jb,h.F8,λa az hb=>?_,λk aw al=>?_,?_,h.tape,h.os,h.output⟩
  ·by_cases e:a=i
   ·subst e;rw [Array.getElem?_setIfInBounds_self_of_lt V] at U;obtain rfl:=Option.some.inj U;rw [upd_same,upd_same,K];have:loc (.ph p) s₀=s₀:=by simp [loc,Hv,a2]
    rw [this];exact .blk Y Z ac
   ·rw [Array.getElem?_setIfInBounds_ne (Ne.symm e)] at U;rw [upd_ne _ _ e,upd_ne _ _ e];exact h.Kx a o U
  ·by_cases e:a=i
   ·subst e;rcases ag with⟨rfl,rfl⟩ | ⟨⟨k,sv,rfl⟩,rfl⟩
    ·have:a=0:=by simpa [Fam.CB] using Z
     subst this;exact .inl ⟨rfl,K,rfl⟩
    ·exact .inr ⟨⟨k,sv,K⟩,rfl⟩
   ·rw [upd_ne _ _ e] at hb;rw [O] at az;exact h.blk a az hb
  ·by_cases e:B.N0+k=i
   ·rw [e,K] at al;rcases Y with rfl | ⟨k',sv,rfl⟩ <;> exact al.elim
   ·rw [upd_ne _ _ e];exact h.Io k aw al
  ·by_cases e:0=i
   ·subst e;rw [upd_same];exact λb o U=>am.ext b o (h.le b o U)
   ·rw [upd_ne _ _ e];exact h.le
 ·rw [O];have:=sumTo_upd bt false bit V;rw [a0] at this;exact .inr ⟨rfl,.inr ⟨rfl,.inr ⟨rfl,rfl,.inr ⟨rfl,by show(sumTo gs.size λa=>bit (upd bt i false a))<sumTo gs.size λa=>bit (bt a);simp only [bit] at this ⊢;simp only [if_true,Bool.false_eq_true,if_false] at this;omega⟩⟩⟩⟩
theorem LI.push{N:Nat}(h:LI N φ m q)(Y:0<N){p0:Ph}{j:Nat}(O:∀k p,φ 0≠ .ph (.lk k p))(U:∀k p,p0≠ .lk k p):LI (N+1) (upd (upd φ N (.ph (.lk j .FT))) 0 (.ph p0)) m q:=by
 have V:LI (N+1) (upd φ N (.ph (.lk j .FT))) m q:=by
  have e:∀f,f LP.FT=0->Sg f (N+1) (upd φ N (.ph (.lk j .FT)))=Sg f N φ:=by
   intro f Z;unfold Sg;simp only [sumTo];have:=sumTo_upd_out φ (.ph (.lk j .FT)) (Dc f) (i:=N) (j:=N) (Nat.le_refl _);rw [upd_same];show _+f .FT=_;omega
  refine⟨by rw [e pH rfl,e pN rfl,e pZ rfl,e pV rfl,e pT rfl,e pQ rfl,e pD rfl,e pX rfl];exact h.ln,λa ac=>?_⟩;by_cases K:a=N
  ·subst K;rw [upd_same];trivial
  ·rw [upd_ne _ _ K];exact h.loc a (by omega)
 exact V.other (by omega) (by rw [upd_ne _ _ (by omega)];exact O) (λk p e=>U k p (Nx.ph.inj e))
theorem Inv.spawn(h:Inv P F B gs w t φ r bt S Sh j c v wt' sm m q f){g:Goroutine}(hi:gs[0]? =some g){K:Nat}(Z:φ 0= .ph (.FG K)){s₀:St}(bd:Cf (S 0) s₀)(bv:Stop P F (.FG K) g s₀):
  Ie P F B gs w sl t 0 (mu F gs.size φ m q r bt):=by
 have V:0<gs.size:=(Array.getElem?_eq_some_iff.1 hi).1;obtain⟨rfl,cr,rfl⟩:K=j/\j<F.n/\c=false:=by
  obtain⟨p,be,_,hh⟩:=h.main;rw [Z] at be;cases be;rcases hh with⟨e,hm⟩ | ⟨_,hm⟩
  ·exact⟨hm.1,hm.2.1,e⟩
  ·exact hm.elim
 obtain⟨g',child,ct,cu,bw,bx,bz⟩:=bv.law.go _ rfl;have bY:=h.size;have cv:=h.CF.pos;have a3:=runT_crowd_spawn (P:=P) (sl:=sl) (i:=0) hi (show stepG P (0==0) g w=_ from bw w);rw [Mz] at a3;generalize bZ:({g:=0,fn:=g.frame.fn,pos:=g.frame.place,act:= .go gs.size}:MemOp)=x at a3;generalize b0:({g:=gs.size,fn:=child.frame.fn,pos:=g.frame.place,act:= .start}:MemOp)=y at a3;have al:x.g=0/\x.act= .go gs.size:=by subst bZ;exact⟨rfl,rfl⟩
 have am:y.g=gs.size/\y.act= .start:=by subst b0;exact⟨rfl,rfl⟩
 have b1:((#[]:Trace).push x).push y= #[x,y]:=rfl;have ag:((gs.setIfInBounds 0 g').push child).size=gs.size+1:=by simp
 have b2:Fam.CB (F.Eu K)=true/\Fam.CN (F.Eu K)=false/\FF (.ph (F.Eu K))=0/\(∀k p,F.Eu K≠ .lk k p):=by
  unfold Fam.Eu;split <;> exact⟨rfl,rfl,rfl,by simp⟩
 obtain⟨b3,x2,b4,b5⟩:=b2;let φ':Nat->Nx:=upd (upd φ gs.size (.ph (F.start K))) 0 (.ph (F.Eu K));have f0:φ' 0= .ph (F.Eu K):=upd_same _ _ _;have ap:φ' gs.size= .ph (F.start K):=by show upd _ _ _ _=_;rw [upd_ne _ _ (by omega),upd_same]
 have aq:∀a,a≠0->a≠gs.size->φ' a=φ a:=λa b6 a6=>by show upd _ _ _ _=_;rw [upd_ne _ _ b6,upd_ne _ _ a6]
 have hu:∀op∈(#[x,y]:Array MemOp),op.act.touch? =none/\∀m,op.act≠ .mark m:=by
  intro op O;simp only [List.mem_toArray,List.mem_cons,List.not_mem_nil,or_false] at O;rcases O with rfl | rfl
  ·rw [al.2];exact⟨rfl,by simp⟩
  ·rw [am.2];exact⟨rfl,by simp⟩
 have aw:=h.CF.spawn (by rw [I6];exact Z);rw [I6] at aw;simp only [Bool.toNat_false,Nat.add_zero] at aw;have a7:∃ay,CE F B.N0 (gs.size+1+ay.toNat) (K+1) ay (Cw ay (gs.size+1) φ') v wt' sm false:=by
  by_cases e:K+1=F.n
  ·refine⟨true,?_⟩;have a8:F.Fp K= .GG:=by unfold Fam.Fp;rw [if_pos e]
   have e2:F.Eu K= .Dl:=by unfold Fam.Eu;rw [if_pos e]
   have:=aw.Zl (by rw [upd_same,a8]);have b7:Cw true (gs.size+1) φ'=upd (upd (upd (upd φ gs.size (.ph (F.start K))) 0 (.ph (F.Fp K))) (gs.size+1) (.ph .Dl)) 0 (.ph (.FA [] [])):=by
    funext a;unfold Cw;by_cases a9:a=gs.size+1
    ·subst a9;rw [if_pos ⟨rfl,rfl⟩,upd_ne _ _ (by omega),upd_same,f0,e2]
    ·rw [if_neg (by simp [a9])];by_cases ac:a=0
     ·subst ac;rw [if_pos ⟨rfl,rfl⟩,upd_same]
     ·rw [if_neg (by simp [ac]),upd_ne _ _ ac,upd_ne _ _ a9];show upd _ _ _ _=_;rw [upd_ne _ _ ac,upd_ne _ _ ac]
   rw [b7];exact this
  ·refine⟨false,?_⟩;have a8:F.Fp K=F.Eu K:=by unfold Fam.Fp Fam.Eu;rw [if_neg e,if_neg e]
   rw [a8] at aw;rw [I6];exact aw
 obtain⟨ay,a7⟩:=a7;have bi:BW t w gs.size (upd S 0 s₀) Sh:=h.B9.ghost V bd;have b8:BW (t++ #[x,y]) w gs.size (upd S 0 s₀) Sh:=by
  refine bi.ext (λsaid=>?_) (λop O a az=>by rw [(hu op O).1] at az;cases az) (λop O=>?_) rfl λ_ _=>rfl
  ·have e:t++ #[x,y]=(t++ #[x])++ #[y]:=by apply Array.ext';simp
   rw [e];exact noRace_append (g:=gs.size) (noRace_append (g:=0) (h.B9.clean said) (λop O=>by simp at O;subst O;exact al.1) λz a _ op O b hb _=>by rw [(hu op (by simp at O ⊢;exact .inl O)).1] at hb;cases hb)
    (λop O=>by simp at O;subst O;exact am.1) λz a _ op O b hb _=>by rw [(hu op (by simp at O ⊢;exact .inr O)).1] at hb;cases hb
  ·simp only [List.mem_toArray,List.mem_cons,List.not_mem_nil,or_false] at O;rcases O with rfl | rfl
   ·rw [al.2];trivial
   ·rw [am.2];trivial
 have b9:Deaf t 0=0:=by rw [h.ED.deaf 0 V,Z];rfl
 have ca:BW (t++ #[x,y]) w (gs.size+1) (upd (upd S 0 s₀) gs.size ⟨s₀.E,λ_=>none,false⟩) Sh:=by
  refine b8.push (i:=0) V (E:=s₀.E) (λb o a0=>by rw [upd_same];exact a0) λb hb z a cb cc cd=>?_;have hold:touchAt t z=some a:=by
   obtain⟨op,a0,bb⟩:=touch_of cb;rcases getElem?_append_cases a0 with⟨_,ce⟩ | ⟨_,cf⟩
   ·rw [touchAt_of ce];exact bb
   ·rw [(hu op cf).1] at bb;cases bb
  exact fork_knows al am b9 (h.ED.above _ (Nat.le_refl _)) (bi.kE 0 V b (by rw [upd_same];exact hb) z a hold cc cd)
 have bn:∀k,k<K->upd (upd S 0 s₀) gs.size ⟨s₀.E,λ_=>none,false⟩ (B.N0+k)=S (B.N0+k):=λk bo=>by rw [upd_ne _ _ (by omega),upd_ne _ _ (by omega)]
 have cg:ES F B.N0 B.t0 (gs.size+1) (K+1) φ' (upd (upd S 0 s₀) gs.size ⟨s₀.E,λ_=>none,false⟩) (t++ #[x,y]):=by
  refine h.ED.spawn V bY (λa az=>?_) (by rw [ap];rfl) (by rw [Z];rfl) (λk bo a4=>?_) al am
  ·by_cases e:a=0
   ·subst e;rw [f0,Z,b4];rfl
   ·rw [aq a e (by omega)]
  ·by_cases e:k=K
   ·subst e;rw [show B.N0+k=gs.size by omega,ap] at a4;exact a4.elim
   ·rw [aq _ (by omega) (by omega)] at a4;exact⟨by omega,a4,by rw [bn k (by omega)]⟩
 obtain⟨ci,ck⟩:=bz;obtain⟨cm,cn⟩:=bx;have a2:∀{α:Type} (f:Nat->α) (a b:α),upd (upd f 0 a) gs.size b 0=a:=λf a b=>by rw [upd_ne _ _ (by omega),upd_same]
 have co:∀s:St,loc (.ph (F.Eu K)) s=s:=λs=>by simp [loc,Hv,x2]
 refine⟨_,_,_,_,a3,.inl ⟨φ',upd (upd r 0 ci) gs.size cm,upd (upd bt 0 true) gs.size true,upd (upd S 0 s₀) gs.size ⟨s₀.E,λ_=>none,false⟩,Sh,K+1,ay,v,wt',sm,m,q,f,?_,?_⟩⟩
 ·rw [b1];refine⟨by rw [ag];exact a7,by rw [ag];exact h.lock.push V (λk p e=>by rw [Z] at e;cases e) b5,by rw [ag];exact cg,λa o Y=>?_,by rw [ag];exact ca,h.HP,h.Is,h.IJ,h.Mg,h.JU,h.JR,h.HM,(by rw [f0];unfold Fam.Eu;split <;> simp),h.wg,h.Jb,h.F8,λa az hb=>?_,λk bo a5=>?_,?_,h.tape,h.os,h.output⟩
  ·by_cases e:a=0
   ·subst e;rw [Array.getElem?_push_lt (by simpa using V)] at Y;simp at Y;subst Y;rw [f0,a2,a2,a2,co];exact .walk b3.symm (λq=>by rw [x2] at q;cases q) ck
   ·by_cases U:a=gs.size
    ·subst U;have:child=o:=by
      rw [show gs.size=(gs.setIfInBounds 0 g').size by simp,Array.getElem?_push_size] at Y;exact Option.some.inj Y
     subst this;rw [ap,upd_same,upd_same,upd_same];have cp:(gs.size==0)=false:=by rw [beq_eq_false_iff_ne];omega
     rw [cp];exact .walk rfl (λq=>by cases q) cn
    ·rw [aq a e U,upd_ne _ _ U,upd_ne _ _ e,upd_ne _ _ U,upd_ne _ _ e,upd_ne _ _ U,upd_ne _ _ e];have:gs[a]? =some o:=by
      rw [Array.getElem?_push] at Y;simp [U] at Y;simpa [Array.getElem?_setIfInBounds_ne (Ne.symm e)] using Y
     exact h.Kx a o this
  ·rw [ag] at az;by_cases e:a=0
   ·subst e;rw [a2] at hb;cases hb
   ·by_cases U:a=gs.size
    ·subst U;rw [upd_same] at hb;cases hb
    ·rw [upd_ne _ _ U,upd_ne _ _ e] at hb;rcases h.blk a (by omega) hb with⟨ac,_⟩ | ⟨⟨k,sv,a6⟩,cq⟩
     ·exact absurd ac e
     ·exact .inr ⟨⟨k,sv,by rw [aq a e U];exact a6⟩,cq⟩
  ·by_cases e:k=K
   ·subst e;rw [show B.N0+k=gs.size by omega,ap] at a5;exact a5.elim
   ·rw [aq _ (by omega) (by omega)] at a5;rw [bn k (by omega)];exact h.Io k (by omega) a5
  ·rw [a2];exact h.le.trans λb o a0=>bd.ext b o a0
 ·rw [ag];refine aR ?_;simp only [sumTo];rw [ap];have a1:=sumTo_upd (upd φ gs.size (.ph (F.start K))) (.ph (F.Eu K)) (wt F.n) V;rw [upd_ne _ _ (by omega),Z] at a1;have cw:=sumTo_upd_out φ (.ph (F.start K)) (wt F.n) (i:=gs.size) (j:=gs.size) (Nat.le_refl _);have cy:wt F.n (.ph (F.start K))=23:=rfl;have cz:wt F.n (.ph (.FG K))=5*F.n+85+50*(F.n - K):=rfl;have cA:wt F.n (.ph (F.Eu K))+30<=5*F.n+85+50*(F.n - K):=by
   unfold Fam.Eu;split <;> simp only [wt] <;> omega
  show(sumTo gs.size λi=>wt F.n (upd (upd φ gs.size (.ph (F.start K))) 0 (.ph (F.Eu K)) i))+_<_;omega
end
theorem BW.final{t:Trace}{w:World}{N:Nat}{S:Nat->St}{Sh:Nat->Prop}(h:BW t w N S Sh)(al:0<N){s':St}{fd:Nat}
  (Y:∀b o,s'.E b=some o->w.heap[b]? =some o/\¬Sh b/\∀x a,touchAt t x=some a->CO a.loc=some b->a.write=true->Knows t 0 x)
  (Z:∀b o,s'.H b=some o->w.heap[b]? =some o/\(¬Sh b∨b=fd)/\∀x a,touchAt t x=some a->CO a.loc=some b->Knows t 0 x)
  (hd:∀b,s'.E b≠none->s'.H b=none) (am:s'.E fd=none):BW t w N (lone s') (λb=>Sh b/\b≠fd):=by
 have l0:lone s' 0=s':=rfl;have ln:∀i,i≠0->lone s' i= .quiet:=λi hi=>by simp [lone,hi]
 have V:∀i b,i≠0->(lone s' i).E b=none:=λi b hi=>by rw [ln i hi];rfl
 have U:∀i b,i≠0->(lone s' i).H b=none:=λi b hi=>by rw [ln i hi];rfl
 refine⟨λi hi=>?_,λa b ap hb ag x O=>?_,λi hi b hb=>?_,λb hb=>h.F4 b hb.1,h.clean,h.low,λi hi b hb x a O ac=>?_,λi hi b hb x a O ac hw=>?_⟩
 ·by_cases e:i=0
  ·subst e;rw [l0];exact⟨λb o K=>(Y b o K).1,λb o K=>(Z b o K).1,hd⟩
  ·exact⟨λb o K=>(by rw [V i b e] at K;cases K),λb o K=>(by rw [U i b e] at K;cases K),λb hb=>U i b e⟩
 ·by_cases e:b=0
  ·subst e;rw [U a x ag] at O;exact absurd rfl O
  ·exact⟨U b x e,V b x e⟩
 ·by_cases e:i=0
  ·subst e;rw [l0];constructor
   ·cases O:s'.H b with
    | none=>rfl
    | some o=>rcases(Z b o O).2.1 with q | q;exact absurd hb.1 q;exact absurd q hb.2
   ·cases O:s'.E b with
    | none=>rfl
    | some o=>exact absurd hb.1 (Y b o O).2.1
  ·exact⟨U i b e,V i b e⟩
 ·by_cases e:i=0
  ·subst e;obtain⟨o,K⟩:=HW (x:=s'.H b) hb;exact(Z b o K).2.2 x a O ac
  ·rw [U i b e] at hb;exact absurd rfl hb
 ·by_cases e:i=0
  ·subst e;obtain⟨o,K⟩:=HW (x:=s'.E b) hb;exact(Y b o K).2.2 x a O ac hw
  ·rw [V i b e] at hb;exact absurd rfl hb
section
variable {P:Program}{F:Fam}{B:Base}{gs gs':Array Goroutine}{w w':World}{sl:Option (Nat×Nat)}{t:Trace}{φ:Nat->Nx}{r:Nat->Rk}{bt:Nat->Bool}{S:Nat->St}{Sh:Nat->Prop}{j:Nat}{c:Bool}{v wt' sm v₁ wt₁ sm₁:Nat}{m m₁:M4}{q q₁:Nat}{f f₁:Nat->Value}
theorem Inv.over(h:Inv P F B gs w t φ r bt S Sh j c v wt' sm m q f)(cd:∀k v E E',Le E E'->F.msg k v E->F.msg k v E'){g:Goroutine}(hi:gs[0]? =some g)(a8:φ 0= .ph .F5){s₀:St}(bY:Cf (S 0) s₀)(al:Stop P F .F5 g s₀)(ce:Mu):
  Ie P F B gs w sl t 0 ce:=by
 classical
 have ac:0<gs.size:=(Array.getElem?_eq_some_iff.1 hi).1;have cw:=h.size;have cy:=h.CF.pos;obtain rfl:c=true:=by
  obtain⟨p,bZ,_,hh⟩:=h.main;rw [a8] at bZ;cases bZ;rcases hh with⟨_,hm⟩ | ⟨e,_⟩
  ·exact hm.elim
  ·exact e
 have cz:j=F.n:=h.CF.cj rfl;have a9:∀i,i≠0->i<gs.size->∃d,φ i= .gone d:=by
  intro i bb a2;rcases h.Et a2 with e | ⟨_,d,hd,_⟩ | ⟨k,Y,cf,_,_⟩
  ·exact absurd e bb
  ·exact⟨d,hd⟩
  ·have:=h.CF.YK rfl (.inr (.inr (.inl (by rw [show B.N0+F.n=gs.size by omega,JC];exact a8)))) k Y;rw [← cf,IA bb (by omega)] at this;cases U:φ i with
   | gone d=>exact⟨d,rfl⟩
   | ph p=>rw [U] at this;exact this.elim
 obtain⟨g',cg,ci⟩:=al.law.fin rfl;have b0:=runT_crowd_go (P:=P) (sl:=sl) (i:=0) hi (show stepG P (0==0) g w=_ from cg w);have b1:Deaf t 0=0:=by rw [h.ED.deaf 0 ac,a8];rfl
 have bd:MemOp.ofEvents 0 g.frame.fn g.frame.place #[Fam.CH (.acquire F.sA)]= #[{g:=0,fn:=g.frame.fn,pos:=g.frame.place,act:= .mark (.acquire F.sA)}]:=by rw [ofEvents_eq];simp [Fam.CH,MemAct.ofEvent]
 generalize hu:MemOp.ofEvents 0 g.frame.fn g.frame.place #[Fam.CH (.acquire F.sA)]=u at b0;have am:∀op∈u,op.act.touch? =none/\op.g=0/\op.act.low w.heap.size:=by
  intro op ap;rw [← hu,bd] at ap;simp at ap;subst ap;exact⟨rfl,rfl,h.B9.F4 F.wg h.HP⟩
 have a3:(t++u)[t.size]? =some {g:=0,fn:=g.frame.fn,pos:=g.frame.place,act:= .mark (.acquire F.sA)}:=by rw [← hu,bd];simp
 have ck:(t++u).heard t.size:=⟨0,by simp [Trace.g?,a3],by rw [deaf_old (Nat.le_refl _)];exact b1⟩;have cm:(t++u).g? t.size=some 0:=by simp [Trace.g?,a3]
 have cn:∀x,B.t0<=x->(t++u).act? x≠some (.mark (.release F.sA)):=Ot h.ED.norel λop ap e=>by rw [← hu,bd] at ap;simp at ap;subst ap;cases e
 have be:∀k,k<F.n->∃ρ,ρ<t.size/\RelBy F.sA t (B.N0+k) ρ/\KE t (S (B.N0+k)).E ρ/\HappensBefore (t++u) ρ t.size:=by
  intro k Y;obtain⟨d,hd⟩:=a9 (B.N0+k) (by omega) (by omega);obtain⟨ρ,a,b,e⟩:=h.ED.rel k (by omega) (by rw [hd];trivial);have a4:ρ<t.size:=lt_of_act? b.act;refine⟨ρ,a4,b,e,.single (.inr ⟨.marked a4 (.inr (by rw [act?_old a4];exact b.act)) (by rw [act?_of a3]) λz V ag=>cn z (by omega),(heard_old a4).2 b.heard,ck⟩)⟩
 have b2:∀{x ρ},Before t x ρ->HappensBefore (t++u) ρ t.size->Knows (t++u) 0 x:=λV ag=>⟨t.size,_,a3,rfl,.inr ((V.app u).hb ag)⟩;have b3:∀{x k},k<F.n->t.g? x=some (B.N0+k)->t.counts x->Knows (t++u) 0 x:=by
  intro x k Y Z aq;obtain⟨ρ,V,ag,_,a1⟩:=be k Y;have hle:x<=ρ:=Nat.le_of_not_lt λay=>ag.after x ay Z aq;refine b2 (ρ:=ρ) ?_ a1;rcases Nat.lt_or_ge x ρ with U | U
  ·exact .inr (.single (.inl ⟨U,_,Z,ag.g⟩))
  ·exact .inl (by omega)
 have hold:∀{y a},touchAt (t++u) y=some a->touchAt t y=some a:=by
  intro y a U;obtain⟨op,O,bi⟩:=touch_of U;rcases getElem?_append_cases O with⟨ay,bn⟩ | ⟨_,bo⟩
  ·rw [touchAt_of bn];exact bi
  ·rw [(am op bo).1] at bi;cases bi
 have aw:BW t w gs.size (upd S 0 s₀) Sh:=h.B9.ghost ac bY;have bv:BW (t++u) w gs.size (upd S 0 s₀) Sh:=aw.mute (g:=0) (λop O=>(am op O).2.1) (λop O=>(am op O).1) (λop O=>(am op O).2.2) rfl;let K:Nat->Obj->Prop:=λb o=>s₀.E b=some o∨∃k,k<F.n/\(S (B.N0+k)).E b=some o;have bw:∀b o,K b o->w.heap[b]? =some o:=by
  rintro b o (V | ⟨k,Y,V⟩)
  ·exact(aw.fits 0 ac).e b o (by rw [upd_same];exact V)
  ·exact(h.B9.fits (B.N0+k) (by omega)).e b o V
 let E':LH:=λb=>if hb:∃o,K b o then some (Classical.choose hb) else none
 have bx:∀b o,E' b=some o->K b o:=by
  intro b o O;simp only [E'] at O;split at O
  ·rename_i hb;have:=Classical.choose_spec hb;rw [Option.some.inj O] at this;exact this
  ·cases O
 have b4:∀b o,K b o->E' b=some o:=by
  intro b o O;have hb:∃o,K b o:=⟨o,O⟩;have co:E' b=some (Classical.choose hb):=by simp only [E'];rw [dif_pos hb]
  have e2:=bw b _ (Classical.choose_spec hb);rw [bw b o O] at e2;rw [co,← Option.some.inj e2]
 have b5:Le s₀.E E':=λb o O=>b4 b o (.inl O);have cp:∀k,k<F.n->Le (S (B.N0+k)).E E':=λk Y b o O=>b4 b o (.inr ⟨k,Y,O⟩);have b6:∀b o,K b o->¬Sh b:=by
  rintro b o (V | ⟨k,Y,V⟩) hb
  ·have:=(aw.sh 0 ac b hb).2;rw [upd_same,V] at this;cases this
  ·have:=(h.B9.sh (B.N0+k) (by omega) b hb).2;rw [V] at this;cases this
 have bz:E' F.fd=none:=by
  cases U:E' F.fd with
  | none=>rfl
  | some o=>exact absurd h.IJ (b6 _ _ (bx _ _ U))
 have b7:∀b,E' b≠none->s₀.H b=none:=by
  intro b hb;obtain⟨o,O⟩:=HW hb;rcases bx b o O with V | ⟨k,Y,V⟩
  ·have:=(aw.fits 0 ac).d b (by rw [upd_same,V];simp)
   rwa [upd_same] at this
  ·cases U:s₀.H b with
   | none=>rfl
   | some o'=>
    have:=(aw.hh 0 (B.N0+k) ac (by omega) (by omega) b (by rw [upd_same,U];simp)).2;rw [upd_ne _ _ (by omega),V] at this;cases this
 have cq:∀k,k<F.n->F.msg k (f k) E':=λk Y=>by
  obtain⟨d,hd⟩:=a9 (B.N0+k) (by omega) (by omega);exact cd _ _ _ _ (cp k Y) (h.Io k (by omega) (by rw [hd];trivial))
 have cr:=ci E' f b5 bz b7 cq;have b8:((gs.map (woken P g g' w)).setIfInBounds 0 g').size=gs.size:=by simp
 have ct:BW (t++u) w gs.size (lone ⟨E',F.Jw s₀.H f,false⟩) (λb=>Sh b/\b≠F.fd):=by
  refine bv.final ac (λb o O=>?_) (λb o O=>?_) (λb hb=>?_) bz
  ·have Y:=bx b o O;refine⟨bw b o Y,b6 b o Y,λx a U az hw=>?_⟩;rcases Y with V | ⟨k,Y,V⟩
   ·exact bv.kE 0 ac b (by rw [upd_same,V];simp) x a U az hw
   ·obtain⟨ρ,_,_,cu,a1⟩:=be k Y;exact b2 (cu b (by rw [V];simp) x a (hold U) az hw) a1
  ·simp only [Fam.Jw] at O;split at O
   ·rename_i e;subst e;cases O;refine⟨h.F8,.inr rfl,λx a U az=>?_⟩;rcases h.ED.F8 x a (hold U) az with z | ⟨k,Y,Z,aq,_⟩
    ·exact(z 0 ac (.inl rfl)).app u
    ·exact b3 (by omega) Z aq
   ·refine⟨(aw.fits 0 ac).h b o (by rw [upd_same];exact O),.inl λhb=>?_,λx a U az=>bv.kH 0 ac b (by rw [upd_same,O];simp) x a U az⟩;have:=(aw.sh 0 ac b hb).1;rw [upd_same,O] at this;cases this
  ·simp only [Fam.Jw];rw [if_neg (λe=>by subst e;exact hb bz)];exact b7 b hb
 have cv:∀i g,i≠0->gs[i]? =some g->∃q d,φ i= .gone d/\QuitsD P q d g:=by
  intro i g hi Z;obtain⟨d,hd⟩:=a9 i hi (Array.getElem?_eq_some_iff.1 Z).1;have al:=h.Kx i g Z;rw [hd] at al;generalize U:Nx.gone d=x at al;generalize loc x (S i)=s at al;generalize r i=ρ at al;generalize bt i=cA at al;cases al with
  | gone _ a5=>cases U;exact⟨_,_,hd,a5⟩
  | _=>cases U
 have a5:∀i,∃q,∀g,i≠0->gs[i]? =some g->QuitsD P q (Deaf t i) g:=by
  intro i;by_cases hi:i≠0/\i<gs.size
  ·obtain⟨q,d,V,ag⟩:=cv i _ hi.1 (Array.getElem?_eq_getElem hi.2);refine⟨q,λg _ Z=>?_⟩;rw [Array.getElem?_eq_getElem hi.2] at Z;obtain rfl:=Option.some.inj Z;rw [h.ED.deaf i hi.2,V];exact ag
  ·exact⟨0,λg V ag=>absurd ⟨V,(Array.getElem?_eq_some_iff.1 ag).1⟩ hi⟩
 have b9:∀i,i≠0->Deaf (t++u) i=Deaf t i:=λi hi=>Deaf_other t (Ne.symm hi) u λop O=>(am op O).2.1;refine⟨_,_,_,_,b0,.inr ⟨λi=>Classical.choose (a5 i),λb=>Sh b/\b≠F.fd,g',⟨E',F.Jw s₀.H f,false⟩,⟨by simp [ac],⟨λi x bb U=>?_,λi a2=>?_⟩,by rw [b8];exact ct,λx a6 Z a0 aq=>?_,?_⟩,cr,?_,h.tape,h.os,h.output⟩⟩
 ·have a0:i≠0:=by omega
  rw [Array.getElem?_setIfInBounds_ne (Ne.symm a0),Array.getElem?_map] at U;obtain⟨o',bn,rfl⟩:=Option.map_eq_some_iff.1 U;have ca:=Classical.choose_spec (a5 i) o' a0 bn;rw [woken_quitsD ca,b9 i a0];exact ca
 ·rw [b8] at a2;rw [b9 i (by omega)];exact h.ED.above i a2
 ·have:=OF h.ED.over (u:=u) (N0:=B.N0) (N:=gs.size) (λop O=> .inl (am op O).2.1) x a6 Z a0 aq;rcases this with z | ⟨z1,cB⟩
  ·exact z
  ·have a7:x<t.size:=by
    rcases Nat.lt_or_ge x t.size with z | z
    ·exact z
    ·obtain⟨op,O,cb⟩:=Option.map_eq_some_iff.1 Z;rcases getElem?_append_cases O with⟨ay,_⟩ | ⟨_,bo⟩
     ·exact ay
     ·rw [(am op bo).2.1] at cb;exact absurd cb.symm a0
   obtain⟨cC,z,cD,cE,cF⟩:=b3 (k:=a6 - B.N0) (by omega) (by rw [← g?_old (u:=u) a7,Z];congr 1;omega) ((counts_old a7).1 aq);refine⟨t.size,cm,?_⟩;obtain⟨ρ,V,ag,_,a1⟩:=be (a6 - B.N0) (by omega);have cc:t.g? x=some (B.N0+(a6 - B.N0)):=by rw [← g?_old (u:=u) a7,Z];congr 1;omega
   have hle:x<=ρ:=Nat.le_of_not_lt λay=>ag.after x ay cc ((counts_old a7).1 aq);have hb:Before t x ρ:=by
    rcases Nat.lt_or_ge x ρ with U | U
    ·exact .inr (.single (.inl ⟨U,_,cc,ag.g⟩))
    ·exact .inl (by omega)
   exact(hb.app u).hb a1
 ·have:=Deaf_own t 0 g.frame.fn g.frame.place #[Fam.CH (.acquire F.sA)];rw [hu] at this;rw [this,b1];rfl
 ·exact(h.le.trans λb o O=>bY.ext b o O).trans b5
end
theorem LN.busy{m:M4}{h rn rs v t s d x:Nat}(Y:LN m 0 h rn rs v t s d x)(al:1<=s):1<=h+rn+rs+v+t+d+x:=by
 obtain⟨O,Z,ac⟩:=Y;cases hm:m.s with
 | true=>have:=(ac hm).2.2.2.1;rw [← O] at this;omega
 | false=>
  obtain⟨a1,am,K,ap,ag⟩:=Z hm;cases V:m.l with
  | true=>rw [V] at O;simp at O;omega
  | false=>
   cases U:m.k with
   | true=>rw [U] at K;simp at K;omega
   | false=>
    rw [U] at K;simp at K;have:=ag V U (by omega);omega
section
variable {P:Program}{F:Fam}{B:Base}{gs gs':Array Goroutine}{w w':World}{sl:Option (Nat×Nat)}{t:Trace}{φ:Nat->Nx}{r:Nat->Rk}{bt:Nat->Bool}{S:Nat->St}{Sh:Nat->Prop}{j:Nat}{c:Bool}{v wt' sm v₁ wt₁ sm₁:Nat}{m m₁:M4}{q q₁:Nat}{f f₁:Nat->Value}
theorem Wy{N:Nat}{f:Nat->Nat}(h:1<=sumTo N f):∃i,i<N/\1<=f i:=by
 induction N with
 | zero=>simp [sumTo] at h
 | succ N K=>
  simp only [sumTo] at h;by_cases e:1<=f N
  ·exact⟨N,by omega,e⟩
  ·obtain⟨i,hi,O⟩:=K (by omega);exact⟨i,by omega,O⟩
theorem Inv.runs(h:Inv P F B gs w t φ r bt S Sh j c v wt' sm m q f):∃(i:Nat) (g:Goroutine),gs[i]? =some g/\g.status= .running:=by
 have bx:=h.CF.pos;have bz:=h.size;have ap:0<gs.size:=by omega
 have ac:∀i (hi:i<gs.size) p,φ i= .ph p->bt i=true->∃(i:Nat) (g:Goroutine),gs[i]? =some g/\g.status= .running:=by
  intro i hi p U hb;refine⟨i,_,Array.getElem?_eq_getElem hi,?_⟩;have K:=h.Kx i _ (Array.getElem?_eq_getElem hi);rw [U,hb] at K;generalize loc (Nx.ph p) (S i)=s at K;generalize a6:Nx.ph p=x at K;generalize a7:true=b at K;generalize gs[i]=o at K ⊢;generalize r i=ρ at K;cases K with
  | walk _ _ aq=>exact aq.running
  | blk _ _ _=>cases a7
  | gone _ _=>cases a6
 obtain⟨p0,Z,a8,hh⟩:=h.main;cases aw:bt 0 with
 | true=>exact ac 0 ap p0 Z aw
 | false=>
  obtain⟨U,bY⟩:φ 0= .ph .Fs/\sm=0:=by
   rcases h.blk 0 ap aw with⟨_,a,b⟩ | ⟨⟨k,sv,a⟩,_⟩
   ·exact⟨a,b⟩
   ·rw [Z] at a;cases a;cases a8
  rw [U] at Z;cases Z;obtain⟨rfl⟩:c=true:=by
   rcases hh with⟨_,hm⟩ | ⟨e,_⟩
   ·exact hm.elim
   ·exact e
  have aq:j=F.n:=h.CF.cj rfl;have ay:=h.CF.mode;rw [if_pos rfl,show B.N0+F.n=gs.size by omega,JC,U] at ay;obtain⟨a9,_,_⟩:=ay;have ag:=h.CF.cnt;have az:Cw true gs.size φ 0= .ph (.FA [] []):=by simp [Cw];omega
  rw [az] at ag;simp only [pend,Nat.add_zero] at ag;have hex:∃i,i<gs.size+1/\1<=cU (Cw true gs.size φ i)+cL (Cw true gs.size φ i)+cS (Cw true gs.size φ i):=by
   apply Classical.byContradiction;intro bb;have al:∀i,i<gs.size+1->cU (Cw true gs.size φ i)=0/\cL (Cw true gs.size φ i)=0/\cS (Cw true gs.size φ i)=0:=λi hi=>by
    have:¬1<=cU (Cw true gs.size φ i)+cL (Cw true gs.size φ i)+cS (Cw true gs.size φ i):=λq=>bb ⟨i,hi,q⟩;omega
   have zero:∀f:Nat->Nat,(∀i,i<gs.size+1->f i=0)->sumTo (gs.size+1) f=0:=λf bd=>by
    have:=sumTo_le (f:=f) (c:=0) (j:=gs.size+1) (λi hi=>by rw [bd i hi];exact Nat.le_refl _);omega
   have z1:=zero (λi=>cU (Cw true gs.size φ i)) λi hi=>(al i hi).1;have bZ:=zero (λi=>cL (Cw true gs.size φ i)) λi hi=>(al i hi).2.1;have b0:=zero (λi=>cS (Cw true gs.size φ i)) λi hi=>(al i hi).2.2;simp only [Bool.toNat_true] at a9 ag;omega
  obtain⟨i,hi,O⟩:=hex;have a0:i≠0:=by rintro rfl;rw [az] at O;simp [cU,cL,cS] at O
  have be:i≠gs.size:=by rintro rfl;rw [JC,U] at O;simp [cU,cL,cS] at O
  rw [IA a0 be] at O;have am:i<gs.size:=by omega
  cases a1:φ i with
  | gone d=>rw [a1] at O;simp [cU,cL,cS] at O
  | ph pi=>
   cases a2:bt i with
   | true=>exact ac i am pi a1 a2
   | false=>
    obtain⟨⟨k,sv,bi⟩,bn⟩:(∃k sv,φ i= .ph (.lk k (.Cv sv)))/\q=0:=by
     rcases h.blk i am a2 with⟨e,_⟩ | e
     ·exact absurd e a0
     ·exact e
    subst bn;have bo:1<=Sg pQ gs.size φ:=by
     have:=le_sumTo (f:=λa=>Dc pQ (φ a)) am;have e:Dc pQ (φ i)=1:=by rw [bi];rfl
     simp only [e] at this;exact this
    have hb:=h.lock.ln.busy bo;have bv:1<=Sg (λp=>(((((pH p+pN p)+pZ p)+pV p)+pT p)+pD p)+pX p) gs.size φ:=by
     rw [Jx,Jx,Jx,Jx,Jx,Jx];exact hb
    obtain⟨a,a3,V⟩:=Wy bv;cases Y:φ a with
    | gone d=>rw [Y] at V;simp [Dc] at V
    | ph bw=>
     rw [Y] at V;cases bw <;> (try (simp [Dc] at V;done))
     rename_i k' l;cases a4:bt a with
     | true=>exact ac a a3 _ Y a4
     | false=>
      rcases h.blk a a3 a4 with⟨e,a5,_⟩ | ⟨⟨b1,b2,e⟩,_⟩
      ·subst e;rw [Y] at a5;cases a5
      ·rw [Y] at e;cases e;simp [Dc,pH,pN,pZ,pV,pT,pD,pX] at V
theorem Inv.step(h:Inv P F B gs w t φ r bt S Sh j c v wt' sm m q f)(al:∀k v E E',Le E E'->F.msg k v E->F.msg k v E'):
  ∃gs' w' aq u,stepT P (crowd gs w sl)=(.next (crowd gs' w' aq),u)/\
  ((∃φ' r' a5 S' bi am bn v' bo sm' m' q' bv,Inv P F B gs' w' (t++u) φ' r' a5 S' bi am bn v' bo sm' m' q' bv/\Mu.lt (mu F gs'.size φ' m' q' r' a5) (mu F gs.size φ m q r bt))∨P5 P F B gs' w' (t++u)):=by
 have b9:=h.size;have bw:∀x∈gs,awake x:=by
  intro x K;obtain⟨i,hi,rfl⟩:=Array.mem_iff_getElem.1 K;exact(h.Kx i _ (Array.getElem?_eq_getElem hi)).awake
 obtain⟨i,g,d,aq,hi,a6,bx⟩:=crowd_pick (P:=P) (w:=w) (sl:=sl) bw h.runs
 suffices Ie P F B gs (w.at d) aq t i (mu F gs.size φ m q r bt) by
  obtain⟨gs',w',bz,u,aw,ay⟩:=this;exact⟨gs',w',bz,u,bx.trans aw,ay⟩
 have O:=h.at_ d;have a7:i<gs.size:=(Array.getElem?_eq_some_iff.1 hi).1;have Z:=h.Kx i g hi;generalize K:φ i=x at Z;generalize a8:r i=ρ at Z;generalize hb:bt i=b at Z;generalize a9:loc x (S i)=s at Z;cases Z with
 | blk _ _ _=>cases a6
 | gone hm bb=>exact O.slip hi a6 K a8 hm bb
 | @walk p _ _ _ hm bb az=>
  have bY:JQ (Stop P F p) g s∨∃f,ρ= .node f/\(∀w,Fits s w->∃g' s' w' es,stepG P (i==0) g w= .go g' w' es/\Jr P (i==0) (JQ (Stop P F p)) (f w) g' s'/\Fits s' w'/\Fr s w s' w'/\(∀e∈es,Ev s w w' e)/\(s= .quiet->s'= .quiet/\w'=w/\es= #[])):=by
   cases ρ with
   | leaf=>exact .inl az
   | node f=>
    rcases az with q | ⟨_,q⟩
    ·exact .inl q
    ·exact .inr ⟨f,rfl,q⟩
  rcases bY with⟨s₀,bd,U⟩ | ⟨f0,rfl,hgo⟩
  ·subst a9;have V:Fam.CN p=false->Cf (S i) s₀:=λe=>by simpa [loc,Hv,e] using bd
   by_cases c1:∃k l,p= .lk k l
   ·obtain⟨k,l,rfl⟩:=c1;by_cases c2:l= .Fu
    ·subst c2;exact O.store hi K hm (V rfl) U
    by_cases c3:(∃sv,l= .Cv sv)/\q=0
    ·obtain⟨⟨sv,rfl⟩,c3⟩:=c3;exact O.block hi K hb hm (V rfl) U (.inr ⟨⟨k,sv,rfl⟩,c3⟩)
    exact O.BX al hi K c2 hm (V rfl) U λsv e a0=>c3 ⟨⟨sv,e⟩,a0⟩
   by_cases c2:∃am,p= .FG am
   ·obtain⟨am,rfl⟩:=c2;have ac:i=0:=by simpa [Fam.CB] using hm
    subst ac;exact O.spawn hi K (V rfl) U
   by_cases c3:p= .F5
   ·subst c3;have ac:i=0:=by simpa [Fam.CB] using hm
    subst ac;exact O.over al hi K (V rfl) U _
   by_cases c4:p= .Fs/\sm=0
   ·obtain⟨rfl,c4⟩:=c4;exact O.block hi K hb hm (V rfl) U (.inl ⟨rfl,c4⟩)
   have bZ:∃a1,a1<gs.size+c.toNat/\Cw c gs.size φ a1= .ph p:=by
    by_cases e:i=0
    ·subst e;cases c with
     | false=>exact⟨0,by omega,by rw [I6];exact K⟩
     | true=>exact⟨gs.size,by simp,by rw [JC];exact K⟩
    ·exact⟨i,by omega,by rw [IA e (by omega)];exact K⟩
   have b0:p= .Fs->sm=1:=by
    rintro rfl;have ac:i=0:=by simpa [Fam.CB] using hm
    subst ac;obtain⟨p0,ag,_,hh⟩:=h.main;rw [K] at ag;cases ag;obtain rfl:c=true:=by
     rcases hh with⟨_,hm⟩ | ⟨e,_⟩
     ·exact hm.elim
     ·exact e
    have az:=h.CF.cj rfl;have be:=h.CF.mode;rw [if_pos rfl,show B.N0+F.n=gs.size by omega,JC,K] at be;obtain⟨ca,_⟩:=be;have:sm≠0:=λq=>c4 ⟨rfl,q⟩;omega
   obtain⟨a1,b1,b2⟩:=bZ;have ap:(∀k,p≠ .G2 k)/\p≠ .GG/\(∀a2 vs,p≠ .FA a2 vs)/\p≠ .Hu:=by
    by_cases e:i=0
    ·subst e;have a3:=h.mn;rw [K] at a3;obtain⟨p0,ag,_,hh⟩:=h.main;rw [K] at ag;cases ag;refine⟨λk e=>?_,λe=>?_,λa2 vs e=>?_,λe=>?_⟩
     ·subst e;rcases hh with⟨_,Y⟩ | ⟨_,Y⟩ <;> exact Y.elim
     ·subst e;exact a3.1 rfl
     ·subst e;rcases hh with⟨e,Y⟩ | ⟨_,Y⟩
      ·have:=Y.2;rw [e] at this;cases this
      ·exact Y.elim
     ·subst e;exact a3.2 rfl
    ·rcases h.Et a7 with a0 | ⟨_,d,hd,_⟩ | ⟨k',cb,cc,_,hw⟩
     ·exact absurd a0 e
     ·rw [K] at hd;cases hd
     ·rw [K] at hw;refine⟨λk e=>?_,λe=>?_,λa2 vs e=>?_,λe=>?_⟩ <;> subst e
      ·exact absurd hw.2 Bool.false_ne_true
      all_goals exact hw.elim
   obtain⟨v',w',sm',es,cd,b3⟩:=h.CF.enabled b1 b2 ap.1 (λk e=>c2 ⟨k,e⟩) ap.2.1 ap.2.2.1 ap.2.2.2 b0 c3 λk l e=>c1 ⟨k,l,e⟩;exact O.act al hi K hm bd U b3
  ·subst a9;have b4:Fits (loc (.ph p) (S i)) (w.at d):=by
    have:=O.B9.fits i a7;unfold loc;split
    ·exact⟨λb o a4=>(by cases a4),λb o a4=>(by cases a4),λb hb=>rfl⟩
    ·exact this
   obtain⟨g',s',w',es,aw,ay,b5,b6,b7,b8⟩:=hgo (w.at d) b4;exact O.own al hi K hm aw ay b5 b6 b7 b8 (by rw [a8];exact⟨f0,_,rfl,rfl⟩)
theorem Inv.run(Y:∀k v E E',Le E E'->F.msg k v E->F.msg k v E'):∀(K:Mu) (gs:Array Goroutine) (w:World) (sl:Option (Nat×Nat)) (t:Trace) (φ:Nat->Nx) (r:Nat->Rk) (bt:Nat->Bool) (S:Nat->St) (Sh:Nat->Prop) (j:Nat) (c:Bool) (v wt' sm:Nat) (m:M4) (q:Nat) (f:Nat->Value),
  mu F gs.size φ m q r bt=K->Inv P F B gs w t φ r bt S Sh j c v wt' sm m q f->∃n gs' w' O U,runNT P n (crowd gs w sl) t=(.next (crowd gs' w' O),U)/\P5 P F B gs' w' U:=by
 intro K
 induction K using Mu.wf.induction with
 | _ K Z=>
  intro gs w sl t φ r bt S Sh j c v wt' sm m q f ac h;obtain⟨gs',w',O,u,V,hh⟩:=h.step (sl:=sl) Y;rcases hh with⟨φ',r',ag,S',al,am,ap,v',aq,sm',m',q',aw,ay,az⟩ | a0
  ·obtain⟨n,a1,a2,a3,a4,a5,a6⟩:=Z _ (ac▸az) gs' w' O (t++u) φ' r' ag S' al am ap v' aq sm' m' q' aw rfl ay;exact⟨n+1,a1,a2,a3,a4,MC V a5,a6⟩
  ·exact⟨1,gs',w',O,t++u,MC V rfl,a0⟩
end
def Jq(H:LH)(a b c:Nat):LH:=λx=>if x=c then none else if x=b then none else if x=a then none else H x
theorem YN{P:Program}(F:Fam){Q:GP}{g:Goroutine}{s:St}{f₀:Nat->Value}(aw:1<=F.n)(a5:F.n<134217728)(a6:∀k v E E',Le E E'->F.msg k v E->F.msg k v E')
  (ay:F.mu≠F.wg) (az:F.fd≠F.wg) (a0:F.fd≠F.mu) (Z:s.H F.wg=some (F.HL 0 0)) (ac:s.H F.mu=some (F.HN 0 0)) (al:s.H F.fd=some (F.Iq f₀))
  (a7:Way P true (Stop P F (.F3 0)) g ⟨s.E,Jq s.H F.wg F.mu F.fd,false⟩) (a8:∀g s,F.fin g s->(Gi P).ok Q g s):(Gi P).ok Q g s:=by
 intro gs w sl t q Sh hC;have V:0<gs.size:=(Array.getElem?_eq_some_iff.1 hC.main).1;let s1:St:={s with H:=λb=>if b=F.wg then none else s.H b}
 let s2:St:={s with H:=λb=>if b=F.mu then none else s1.H b}
 have a1:lone s 0=s:=rfl;have c1:BW t w gs.size (upd (lone s) 0 s1) (λb=>Sh b∨b=F.wg):=by
  have:=hC.B9.share (i:=0) V (b₀:=F.wg) (o₀:=F.HL 0 0) (by rw [a1];exact Z);exact this
 have c2:BW t w gs.size (upd (upd (lone s) 0 s1) 0 s2) (λb=>(Sh b∨b=F.wg)∨b=F.mu):=by
  have:=c1.share (i:=0) V (b₀:=F.mu) (o₀:=F.HN 0 0) (by rw [upd_same];simp [s1,ay,ac]);refine this.congr λi hi=>?_;by_cases e:i=0
  ·subst e;simp only [upd_same];exact⟨rfl,rfl⟩
  ·have h:∀(f:Nat->St) (x:St),upd f 0 x i=f i:=λf x=>upd_ne f x e;constructor <;> simp only [h]
 have c3:BW t w gs.size (upd (upd (upd (lone s) 0 s1) 0 s2) 0 ⟨s.E,Jq s.H F.wg F.mu F.fd,false⟩) (λb=>((Sh b∨b=F.wg)∨b=F.mu)∨b=F.fd):=by
  have:=c2.share (i:=0) V (b₀:=F.fd) (o₀:=F.Iq f₀) (by rw [upd_same];simp [s2,s1,az,a0,al]);refine this.congr λi hi=>?_;by_cases e:i=0
  ·subst e;simp only [upd_same];exact⟨rfl,rfl⟩
  ·have h:∀(f:Nat->St) (x:St),upd f 0 x i=f i:=λf x=>upd_ne f x e;constructor <;> simp only [h]
 have Y:∀b,s.H b≠none->∀x a,touchAt t x=some a->CO a.loc=some b->Knows t 0 x:=λb hb=>hC.B9.kH 0 V b (by rw [a1];exact hb);have am:=hC.B9.fits 0 V;obtain⟨ρ,a9⟩:=a7;let φ:Nat->Nx:=λi=>if i=0 then .ph (.F3 0) else .gone (Deaf t i)
 have z:∀f:Nx->Nat,(∀d,f (.gone d)=0)->f (.ph (.F3 0))=0->(sumTo gs.size λi=>f (φ i))=0:=by
  intro f a2 a3;have:=sumTo_le (f:=λi=>f (φ i)) (c:=0) (j:=gs.size) λi _=>by
   show f (φ i)<=0;by_cases e:i=0
   ·simp [φ,e,a3]
   ·simp [φ,e,a2]
  omega
 have O:∀f:LP->Nat,Sg f gs.size φ=0:=λf=>z (Dc f) (λ_=>rfl) rfl;have bb:∀i,(upd (upd (upd (lone s) 0 s1) 0 s2) 0 ⟨s.E,Jq s.H F.wg F.mu F.fd,false⟩) i=if i=0 then⟨s.E,Jq s.H F.wg F.mu F.fd,false⟩ else .quiet:=by
  intro i;by_cases e:i=0
  ·subst e;rw [upd_same];rfl
  ·rw [upd_ne _ _ e,upd_ne _ _ e,upd_ne _ _ e];simp [lone,e]
 have bd:F.HL (Fam.word 0 0) (0:Nat)=F.HL 0 0:=by simp [Fam.word]
 have be:F.HN M4.zero.num (0:Nat)=F.HN 0 0:=by simp [M4.num,M4.zero]
 have a4:∀i,i<gs.size->(i=0∨gs.size<=i)->i=0:=λi hi ag=>by omega
 have bi:Inv P F ⟨gs.size,t.size,s.E,w⟩ gs w t φ (λi=>if i=0 then ρ else chain (q i)) (λ_=>true) (upd (upd (upd (lone s) 0 s1) 0 s2) 0 ⟨s.E,Jq s.H F.wg F.mu F.fd,false⟩) (λb=>((Sh b∨b=F.wg)∨b=F.mu)∨b=F.fd) 0 false 0 0 0 M4.zero 0 f₀:=by
  refine⟨?_,⟨?_,λi hi=>?_⟩,⟨λi hi=>?_,λi hi=>hC.lv.above i hi,λx a b K hb ap U i hi ag=>?_,λx a b K hb ap U=>?_,λx a K hb=> .inl λi hi ag=>?_,λx g bn bo bv=> .inl (hC.over x g bn bo bv),λx K e=>?_,Nat.le_refl _,λk U=>by omega⟩,λi g' aq=>?_,c3,.inl (.inl (.inr rfl)),.inl (.inr rfl),.inr rfl,ay,az,a0,a5,by simp [φ],?_,?_,am.h _ _ al,λi hi hb=>(by cases hb),λk U=>(by omega),?_,rfl,.refl _,rfl⟩
  ·rw [I6];refine⟨V,aw,by omega,by simp,Nat.zero_le _,by simp,⟨.F3 0,rfl,rfl,aw,rfl⟩,λi a2 a3=>?_,λk U=>by omega,by simp,?_,by simp [φ,pend],?_,λk U=>by omega,.nil,λk U=>by cases U⟩
   ·have:i≠0:=by omega
    simp [φ,this,Nq]
   ·have:=z cU (λ_=>rfl) rfl;simp only [Bool.toNat_false,Nat.add_zero];rw [this];simp [φ,pend]
   ·simp only [Bool.false_eq_true,if_false,Dv];exact⟨z cL (λ_=>rfl) rfl,z cS (λ_=>rfl) rfl,trivial,trivial,trivial⟩
  ·rw [O,O,O,O,O,O,O,O];simp [LN,M4.zero]
  ·by_cases e:i=0
   ·simp [φ,e,NJ]
   ·simp [φ,e,NJ]
  ·by_cases e:i=0
   ·subst e;simp [φ,FF];exact hC.hears
   ·simp [φ,e,FF]
  ·obtain rfl:=a4 i hi ag;rcases ap with rfl | rfl
   ·exact Y _ (by rw [Z];simp) x a K hb
   ·exact Y _ (by rw [ac];simp) x a K hb
  ·rcases ap with rfl | rfl
   ·exact Y _ (by rw [Z];simp) x a K hb
   ·exact Y _ (by rw [ac];simp) x a K hb
  ·obtain rfl:=a4 i hi ag;exact Y _ (by rw [al];simp) x a K hb
  ·have:=lt_of_act? e;have cf:t.size<=x:=K;omega
  ·rw [bb];by_cases e:i=0
   ·subst e;rw [hC.main] at aq;obtain rfl:=Option.some.inj aq;simp only [if_true,φ];exact .walk rfl (λh=>by cases h) a9
   ·have hm:(i==0)=false:=by rw [beq_eq_false_iff_ne];exact e
    simp only [e,if_false,φ];exact .gone hm (hC.lv.old i g' (by omega) aq)
  ·show w.heap[F.wg]? =_;rw [bd];exact am.h _ _ Z
  ·show w.heap[F.mu]? =_;rw [be];exact am.h _ _ ac
  ·rw [upd_same];exact Le.refl _
 obtain⟨n,gs',w',bw,bx,bz,q',bY,g',s',bZ,b0,hle,b1,b2,b3⟩:=Inv.run a6 _ _ _ sl _ _ _ _ _ _ _ _ _ _ _ _ _ _ rfl bi;obtain⟨n2,b4,w2,b5,t2,b6,b7,g2,b8,k1,b9,ca,cb,cc,cd,ce⟩:=a8 g' s' b0 gs' w' bw bx q' bY bZ;refine⟨n+n2,b4,w2,b5,t2,b6,b7,g2,b8,?_,b9,ca,λb o h=>cb b o (hle b o h),cc.trans b1,b2.trans cd,ce.trans b3⟩;rw [runNT_add,bz];exact k1
end Pal
namespace Pal
open Go Go.Conc
variable {ops:Ao_}{i:Nat}{rest:List Nat}{d:Option Tmp}{f:FuncId}{args:Array Operand}{ats:Array TypeId}{ty:TypeId}{pp:String}{af:Ae_}{g:On_}{vs:Lv_}{p q:Ph}
section
variable {P:Program}{F:Fam}{J:Judge P}{Q:GP}{n:Nat}{L L':Env}{ds:Ld_}{k:Li_}{cs:Lf_}{s s':St}{b:Frame}{main:Bool}
theorem BN(hb:b.roundOf=none)(T:Av_)(todo:Li_):fr b T ds todo=b.at ⟨T,ds⟩ todo:=by simp [fr,Frame.at,hb]
theorem KL(hb:b.roundOf=none)(T:Av_)(todo:Li_):El b T ds todo={b.at ⟨T,ds⟩ todo with mode:= .returning}:=by simp [El,Frame.at,hb]
theorem Ex(T:Av_)(ds:Ld_)(x:Operand):(⟨T,ds⟩:Act).eval x=BA T x:=by cases x <;> rfl
theorem DZ(T:Av_)(ds:Ld_)(d:Option Tmp)(v:Value):(⟨T,ds⟩:Act).put d v=⟨CL T d v,ds⟩:=by cases d <;> rfl
def JO(J:Judge P)(Q:GP)(b:Frame)(n:Nat)(L:Env)(ds:Ld_)(cs:Lf_)(s:St):Prop:=
 ∀T,Has n L T->∀todo,J.ok Q (G (El b T ds todo) cs) s
theorem JL.out(K:b.roundOf=none)(h:JO J Q b n L ds cs s):JL J Q b n L ds [] cs s:=λT O=>
 Judge.Dg V (λw=>by simp [G,stepG,stepG.exec,fr,El,K]) (h T O [])
theorem GR(K:b.roundOf=none)(h:JO J Q b n L ds cs s):JL J Q b n L ds (.code .ret::k) cs s:=λT O=>
 Judge.Dg V (λw=>by simp [G,stepG,stepG.exec,fr,El,K]) (h T O (.code .ret::k))
theorem JO.leave{c:Frame}{v:Value}(O:b.kind= .normal)(K:BB P b.fn L n s v)(h:J.ok Q (G (c.finish v) cs) s):JO J Q b n L [] (c::cs) s:=λT U todo=>by
 obtain⟨fn,V,K⟩:=K
 exact Judge.leave O V (K T U) h
theorem JO.leaveD{c:Frame}{fn:Func}(O:b.kind= .deferred)(U:P.funcs[b.fn]? =some fn)(K:fn.results= #[])(V:c.mode= .returning∨c.mode= .panicking [goexitEntry])(h:J.ok Q (G c cs) s):JO J Q b n L [] (c::cs) s:=λT Z todo=>by
 refine Judge.Dg rfl (λw=>?_) h
 have Y:=results_none K T P w
 have e2:=λ(x:Array Event)=>events_results_none (P:=P) (w:=w) K T x
 rcases V with e | e <;> simp [G,stepG,unwind,El,U,Y,e2,doReturn,O,GStep.after,seen_none,e,goexitEntry]
theorem JO.enter{f:FuncId}{fn:Func}{c:Code}{vs:Lv_}(O:b.roundOf=none)(V:P.funcs[f]? =some fn)(Y:(fn.name== "runtime.NumGoroutine")=false)(hb:fn.body=some c)(al:vs.length<=fn.ntmps)
  (h:∀T,Has n L T->∀todo,JL J Q (baseD f) fn.ntmps (F1 0 vs) [] [.code c] (El b T ds todo::cs) s):JO J Q b n L (dcall f vs.toArray::ds) cs s:=λT Z todo=>by
 refine Judge.Dg rfl (λw=>?_) (h T Z todo (vs.toArray++Array.replicate (fn.ntmps - vs.length) undef) ⟨by simp;omega,λt v ac=>?_⟩)
 ·rw [KL O,stepG_unwind_enter (a:=⟨T,dcall f vs.toArray::ds⟩) rfl V Y hb,KL O]
  rw [BN (b:=baseD f) rfl];simp
 ·obtain⟨_,K⟩:=Jj ac;have ag:t<vs.length:=by
   rcases Nat.lt_or_ge t vs.length with U | U
   ·exact U
   ·simp at K;have:=(List.getElem?_eq_some_iff.1 K).1;omega
  rw [Array.getD_eq_getD_getElem?,Array.getElem?_append_left (by simpa using ag)];simp at K;simp [K]
theorem JL.defer{ops:Ao_}{i:Nat}{rest:List Nat}{d:Option Tmp}{f:FuncId}{args:Array Operand}{ats:Array TypeId}{ty:TypeId}{p:String}{af:Ae_}{g:On_}{vs:Lv_}
  (U:ops[i]? =some ⟨d,.defer ⟨.value (.func f),args,ats⟩,ty,p,af,g⟩) (V:b.roundOf=none) (hw:AR L ops ⟨d,.defer ⟨.value (.func f),args,ats⟩,ty,p,af,g⟩=some true) (K:((b.kind != .early)&&Bg n d)=true)
  (Y:evs L args.toList=some vs) (h:JL J Q b n (As L d undef) (dcall f vs.toArray::ds) (.inRegion ops rest::k) cs s):
  JL J Q b n L ds (.inRegion ops (i::rest)::k) cs s:=λT O=>by
 simp only [Bool.and_eq_true] at K
 have Z:args.map (BA T)=vs.toArray:=by
  rw [← FY O.F2 Y];apply Array.ext';simp
 refine Judge.oper U (B6 O hw) (by simpa using K.1) (.inl V) ?_;have hd:execOp (BA T) ⟨d,.defer ⟨.value (.func f),args,ats⟩,ty,p,af,g⟩= .pure (.defer (dcall f vs.toArray)):=by
  simp only [execOp,resolve,bind,Sem.bind,Deferred.ofValue,BA,pure,dcall];rw [Z];simp
 rw [hd];exact h _ (O.put K.2 undef)
def KV:Ph->Bool
 | .G2 _ | .FG _ | .GG | .FA _ _ | .Hu | .Fs | .F5 | .lk _ _=>false
 | _=>true
theorem Iw{p:Ph}{g:Goroutine}(K:KV p=true)(V:g.status= .running)(Y:g.offers=none)(O:if Fam.CN p=true then s= .quiet else s.q=false)(Z:p= .Fc->mayWake P g=true)
  (h:∀v wt sm v' wt' sm' es U,F.act p v wt sm=some ((v',wt',sm'),es,U)->∃g',(∀w,F.WG w v wt sm->stepG P (Fam.CB p) g w= .go g' (F.put w v' wt' sm') es)/\g'.status= .running/\Mh P (Stop P F) (Fam.CB p) U g' (Fam.Jd p s)):Stop P F p g s:=
 GK.stop {
  run:=V
  offers:=Y
  quiet:=λe=>by rw [if_pos e] at O;exact O
  live:=λe=>by rw [if_neg (by rw [e];simp)] at O;exact O
  act:=h
  II:=λe=>by rcases e with e | ⟨k,b,e⟩;exact Z e;subst e;cases K
  ET:=λe=>by subst e;cases K
  go:=λj e=>by subst e;cases K
  lk:=λk l e=>by subst e;cases K
  Cv:=λk sv e=>by subst e;cases K
  store:=λk e=>by subst e;cases K
  fin:=λe=>by subst e;cases K}
theorem KP{w:World}{v wt sm:Nat}(h:F.WG w v wt sm):F.put w v wt sm=w:=by
 unfold Fam.put;have:w.heap.setIfInBounds F.wg (F.HL (Fam.word v wt) sm)=w.heap:=by
  apply Array.ext_getElem?;intro i;by_cases e:F.wg=i
  ·subst e;unfold Fam.WG at h;have O:F.wg<w.heap.size:=by
    rcases Nat.lt_or_ge F.wg w.heap.size with K | K
    ·exact K
    ·simp [Array.getElem?_eq_none K] at h
   rw [Array.getElem?_setIfInBounds_self_of_lt O,h]
  ·rw [Array.getElem?_setIfInBounds_ne e]
 rw [this]
theorem Iy{w:World}{v wt sm:Nat}(h:F.WG w v wt sm):w.cell? F.sA=some (.int .u64 (Fam.word v wt))/\w.cell? F.mA=some (.int .u32 sm)/\w.frozen? F.sA=false/\w.frozen? F.mA=false:=by
 unfold Fam.WG Fam.HL at h;refine⟨?_,?_,?_,?_⟩
 ·simp [World.cell?,Fam.sA,h]
 ·simp [World.cell?,Fam.mA,h]
 ·simp [World.frozen?,Fam.sA,h]
 ·simp [World.frozen?,Fam.mA,h]
theorem MH{w:World}{v wt sm v' wt':Nat}(h:F.WG w v wt sm):w.setCell F.sA (.int .u64 (Fam.word v' wt'))=F.put w v' wt' sm:=by
 unfold Fam.put World.setCell;congr 1;apply Array.ext_getElem?;intro i;unfold Fam.WG Fam.HL at h;rw [Array.getElem?_modify];have O:F.wg<w.heap.size:=by
  rcases Nat.lt_or_ge F.wg w.heap.size with K | K
  ·exact K
  ·simp [Array.getElem?_eq_none K] at h
 by_cases e:F.wg=i
 ·subst e;rw [Array.getElem?_setIfInBounds_self_of_lt O,h];simp [Fam.sA,Fam.HL]
 ·rw [Array.getElem?_setIfInBounds_ne e];simp [Fam.sA,e]
theorem QP{w:World}{v wt sm sm':Nat}(h:F.WG w v wt sm):w.setCell F.mA (.int .u32 sm')=F.put w v wt sm':=by
 unfold Fam.put World.setCell;congr 1;apply Array.ext_getElem?;intro i;unfold Fam.WG Fam.HL at h;rw [Array.getElem?_modify];have O:F.wg<w.heap.size:=by
  rcases Nat.lt_or_ge F.wg w.heap.size with K | K
  ·exact K
  ·simp [Array.getElem?_eq_none K] at h
 by_cases e:F.wg=i
 ·subst e;rw [Array.getElem?_setIfInBounds_self_of_lt O,h];simp [Fam.mA,Fam.HL]
 ·rw [Array.getElem?_setIfInBounds_ne e];simp [Fam.mA,e]
structure BI (P:Program) (f:FuncId) (e:Av_->Sem Value):Prop where
 h:∃fn,P.funcs[f]? =some fn/\(fn.name== "runtime.NumGoroutine")=false/\fn.body.isNone=true/\Extern.findNext fn=none/\Extern.find fn=some e
theorem JM{T:Av_}(K:Has n L T)(O:evs L args.toList=some vs):args.map (⟨T,ds⟩:Act).eval=vs.toArray:=by
 have:(⟨T,ds⟩:Act).eval=BA T:=funext λx=>Ex T ds x;rw [this,← FY K.F2 O];apply Array.ext';simp
theorem LJ{m:Mark}(Y:KV p=true)(Z:if Fam.CN p=true then s= .quiet else s.q=false)(ac:p≠ .Fc)(ag:∀v wt sm,F.act p v wt sm=some ((v,wt,sm),#[Fam.CH m],.ph q))(al:Fam.Jd p s=s)
  (am:ops[i]? =some ⟨d,.call ⟨.value (.func f),args,ats⟩,ty,pp,af,g⟩) (O:b.roundOf=none) (hw:AR L ops ⟨d,.call ⟨.value (.func f),args,ats⟩,ty,pp,af,g⟩=some true) (K:((b.kind != .early)&&Bg n d)=true)
  (hm:∀x,m≠ .extern x) (he:BI P f (λ_=>do mark m;pure Extern.Race.none_))
  (h:JL (AY P (Fam.CB p)) (Stop P F q) b n (As L d (.tuple #[])) ds (.inRegion ops rest::k) cs s):
  JL (AY P (Fam.CB p)) (Stop P F p) b n L ds (.inRegion ops (i::rest)::k) cs s:=λT U=>by
 simp only [Bool.and_eq_true] at K
 obtain⟨fn,ap,aq,hb,aw,he⟩:=he.h
 refine(AY P _).stop (Iw Y rfl rfl Z (λe=>absurd e ac) λv wt sm v' wt' sm' es az V=>?_)
 rw [ag] at V;cases V
 refine⟨_,λw ay=>?_,rfl,by rw [al];exact h _ (U.put K.2 _)⟩
 rw [BN O,BN O,stepG_mark0 (a:=⟨T,ds⟩) m hm am (B6 U hw) (by simpa using K.1) rfl ap aq hb aw he,KP ay,DZ]
 rfl
theorem Oo{mk:Addr->Mark}{ad:Addr}(Y:KV p=true)(Z:if Fam.CN p=true then s= .quiet else s.q=false)(ac:p≠ .Fc)(ag:∀v wt sm,F.act p v wt sm=some ((v,wt,sm),#[Fam.CH (mk ad)],.ph q))
  (al:ops[i]? =some ⟨d,.call ⟨.value (.func f),args,ats⟩,ty,pp,af,g⟩) (U:b.roundOf=none) (hw:AR L ops ⟨d,.call ⟨.value (.func f),args,ats⟩,ty,pp,af,g⟩=some true) (K:((b.kind != .early)&&Bg n d)=true)
  (hm:∀ad x,mk ad≠ .extern x) (he:BI P f (Extern.Race.marked mk)) (am:evs L args.toList=some vs) (ap:vs[0]? =some (.pointer (some ad)))
  (h:JL (AY P (Fam.CB p)) (Stop P F q) b n (As L d (.tuple #[])) ds (.inRegion ops rest::k) cs (Fam.Jd p s)):
  JL (AY P (Fam.CB p)) (Stop P F p) b n L ds (.inRegion ops (i::rest)::k) cs s:=λT O=>by
 simp only [Bool.and_eq_true] at K
 obtain⟨fn,aq,aw,hb,ay,he⟩:=he.h
 refine(AY P _).stop (Iw Y rfl rfl Z (λe=>absurd e ac) λv wt sm v' wt' sm' es a0 V=>?_)
 rw [ag] at V;cases V
 refine⟨_,λw az=>?_,rfl,h _ (O.put K.2 _)⟩
 rw [BN U,BN U,stepG_markAt (a:=⟨T,ds⟩) mk hm al (B6 O hw) (by simpa using K.1) rfl aq aw hb ay he (ad:=ad) (by rw [JM O am];simpa using ap),KP az,DZ]
 rfl
end
variable {E:LH}{S:List Seg}{j l:Nat}{o':Obj}
section
variable {H:LH}{o:Obj}
theorem I0(am:Ap E H S)(V:S[j]? =some [(l,o)])(o':Obj):(Aj E H S).upd l o'=Aj E H (S.set j [(l,o')])/\Ap E H (S.set j [(l,o')]):=by
 obtain⟨K,Y⟩:=Gk am V;have U:=Nd.iff.1 Y;have Z:E l=none:=(U.2 (l,o) (by simp)).1;have ap:H l=none:=(U.2 (l,o) (by simp)).2;have ac:Nd E H (S.set j []).flatten:=J7.Nd.left Y;have aq:∀q∈(S.set j []).flatten,q.1≠l:=λq O e=>by
  have:=U.1;rw [List.map_append,List.nodup_append] at this;exact this.2.2 q.1 (List.mem_map_of_mem O) l (by simp) e
 have ag:Bl (S.set j []).flatten H l=none:=by
  have key:∀(B:List (Nat×Obj)),(∀q∈B,q.1≠l)->Bl B H l=none:=by
   intro B
   induction B with
   | nil=>intro _;exact ap
   | cons q B aw=>
    intro O;obtain⟨c,ay⟩:=q;have al:l≠c:=λe=>O (c,ay) (by simp) e.symm;have K:=aw λq' az=>O q' (List.mem_cons_of_mem _ az);simp only [Bl]
    first
    | rw [if_neg al];exact K
    | rw [if_neg (Ne.symm al)];exact K
  exact key _ aq
 have f1:=Jo (E:=E) (H:=H) (B:=(S.set j []).flatten) (r:=l) Z ag o ac;have f2:=Jo (E:=E) (H:=H) (B:=(S.set j []).flatten) (r:=l) Z ag o' ac;obtain⟨a0,g2⟩:=H5 (seg:= [(l,o)]) V f2.1;refine⟨?_,g2⟩;rw [K,← a0,← f1.2,← f2.2];unfold St.upd;congr 1;funext x;by_cases a1:x=l <;> simp [a1]
end
variable {P:Program}{J:Judge P}{Q:Gs_}{L:Env}{ds:Ld_}{k:Li_}{cs:Lf_}
section
variable {b:Frame}{n:Nat}{H:LH}
theorem Judge.ET{α:Type}{g:Goroutine}{g':α->Goroutine}{s:St}(x:Sem α)(Z:s.q=false)(ac:g.status= .running)
  (ag:∀w a w',x.run P w= .ok a w'->∃es,stepG P J.main g w= .go (g' a) w' es/\∀e∈es,e∈x.events P w #[])
  (h:lp P x s (λa s'=>J.ok Q (g' a) s') (λ_ _=>False)):J.ok Q g s:=by
 refine J.step ⟨ac,λw f=>?_,λe=>by subst e;cases Z⟩;obtain⟨s',O,U,V,K⟩:=MT _ h f;cases Y:x.run P w with
 | ok a w'=>
  rw [Y] at O U V K;simp only [Kp] at O U V;obtain⟨es,he,hm⟩:=ag w a w' Y;exact⟨g' a,s',w',es,he,K,O,U,λe al=>V e (hm e al)⟩
 | halt a w'=>rw [Y] at K;exact K.elim
theorem MJ{r:Loop}{s:St}{K:Loop->St->Prop}{X:Halt->St->Prop}(h:s.get l=some (.loop r))(k:K r s):lp P (Instr.getLoop l) s K X:=by
 unfold Instr.getLoop getObj;simp only [bind,Sem.bind,lp];exact⟨_,h,V,k⟩
theorem UZ{r:Loop}{T:Av_}(j:Nat)(K:Ap E H S)(O:S[j]? =some [(l,.loop r)])(U:(r.state== .busy)=false)(V:r.pending=none)
  (h:Ap E H (S.set j [(l,.loop {r with state:= .exhausted})])->J.ok Q (G (fr b T ds k) cs) (Aj E H (S.set j [(l,.loop {r with state:= .exhausted})]))):
  J.ok Q (G (fr b T ds (.endRangeFunc l::k)) cs) (Aj E H S):=by
 obtain⟨Y,Z⟩:=I0 K O (.loop {r with state:= .exhausted});have ac:lp P (Instr.endLoop l) (Aj E H S) (λa s'=>a=none/\s'=Aj E H (S.set j [(l,.loop {r with state:= .exhausted})])) (λ_ _=>False):=by
  unfold Instr.endLoop;refine Ar _ _ (MJ (C6 (i:=0) K O rfl) ?_);rw [if_neg (by rw [U];simp)];have ag:(Aj E H S).H l=some (.loop r):=by
   have:=C6 (i:=0) K O rfl;have al:E l=none:=Np K O;unfold St.get at this;rw [show(Aj E H S).E l=none from al] at this;exact this
  simp only [bind,Sem.bind,lp,setObj,pure];refine⟨⟨_,ag,rfl⟩,rfl,V,?_⟩;exact Y
 refine Judge.ET (g':=λam=>G (fr b T ds ((am.map Item.code).toList++k)) cs) (Instr.endLoop l) rfl rfl (λw a w' ap=>?_) (DO _ ac (λa s' ⟨aq,aw⟩=>by subst aq aw;exact h Z) (λ_ _ h=>h));refine⟨seen P b.fn ((Instr.endLoop l).events P w #[])++ #[],?_,λe he=>?_⟩
 ·simp [G,stepG,stepG.exec,fr,ap,GStep.after]
 ·exact mem_seen (by simpa using he)
def Uf(l:Nat)(f:FuncId):Frame:={(default:Frame) with fn:=f,kind:= .normal,roundOf:=some l}
theorem EM.yield{r:Loop}{t:Tmp}{v:Value}{B:Seg}{R:Value->LH->Seg->Prop}{i:Nat}(K:B[i]? =some (l,.loop r))(O:r.params= #[t])
  (h:∀(Q:Gs_) (U:Frame) (cs:Lf_) (H:LH),Ap E H [B]->(∀w E' S' B',Le E E'->S'.flatten=B'->R w E' B'->Ap E' H S'->J.ok Q (G (U.finish w) cs) (Aj E' H S'))->
   J.ok Q (G (fr (Uf l r.fn) (r.tmps.setIfInBounds t v) [] [.code r.assign,.beginRound,.code r.body]) (U::cs)) (Aj E H [B])):
  EM J (.func (.yield l) #[] #[]) [v] E B R:=λH V Q c cs Y=>by
 have Z:(mk E H B).get l=some (.loop r):=Oi V K
 simp only [Deferred.ofValue,bind,Sem.bind,pure,invoke]
 unfold Instr.yield
 refine Ar _ _ (MJ Z ?_)
 have ac:¬((#[]:Av_)++ [v].toArray).size≠r.params.size:=by rw [O];simp
 rw [if_neg ac];have e2:((r.params.zip ((#[]:Av_)++ [v].toArray)).foldl (λtmps (t,a)=>tmps.setIfInBounds t a) r.tmps)=r.tmps.setIfInBounds t v:=by rw [O];simp [Array.zip,Array.zipWith,Array.zipWithMAux]
 simp only [lp,pure];have ag:mk E H B=Aj E H [B]:=by unfold Aj;simp
 rw [e2,ag];exact h Q c cs H (by unfold Ap;simpa using V) λw E' S' B' hle K al am=>by
  subst K;exact Y w _ ⟨E',S'.flatten,hle,al,am,rfl⟩
theorem JL.beginRound{r:Loop}(j:Nat)(U:b.roundOf=some l)(V:b.kind= .normal)(K:Ap E H S)(O:S[j]? =some [(l,.loop r)])(Y:r.state= .ready)
  (h:Ap E H (S.set j [(l,.loop {r with state:= .busy})])->JL J Q b n L ds k cs (Aj E H (S.set j [(l,.loop {r with state:= .busy})]))):
  JL J Q b n L ds (.beginRound::k) cs (Aj E H S):=λT Z=>by
 obtain⟨ac,ag⟩:=I0 K O (.loop {r with state:= .busy})
 have al:lp P (Instr.beginRound l) (Aj E H S) (λ_ s'=>s'=Aj E H (S.set j [(l,.loop {r with state:= .busy})])) (λ_ _=>False):=by
  unfold Instr.beginRound;refine Ar _ _ (MJ (C6 (i:=0) K O rfl) ?_);have am:(Aj E H S).H l=some (.loop r):=by
   have:=C6 (i:=0) K O rfl;have ap:E l=none:=Np K O;unfold St.get at this;rw [show(Aj E H S).E l=none from ap] at this;exact this
  simp only [bind,Sem.bind,lp,setObj,pure,Y];exact⟨⟨_,am,rfl⟩,rfl,ac⟩
 refine Judge.ET (g':=λ_=>G (fr b T ds k) cs) (Instr.beginRound l) rfl rfl (λw a w' aq=>?_) (DO _ al (λa s' aw=>by subst aw;exact h ag T Z) (λ_ _ h=>h));refine⟨seen P b.fn ((Instr.beginRound l).events P w #[])++ #[],?_,λe he=>?_⟩
 ·simp [G,stepG,stepG.exec,fr,stepG.apply,U,V,aq,GStep.after,Frame.finish]
 ·exact mem_seen (by simpa using he)
theorem IE{o:Obj}{seg:Seg}(K:Ap E H S)(O:S[j]? =some ((l,o)::seg)):(Aj E H S).H l=some o:=by
 have:=C6 (i:=0) K O V;have U:E l=none:=Np K O;unfold St.get at this;rw [show(Aj E H S).E l=none from U] at this;exact this
theorem JL.endRound{r:Loop}{c:Frame}(j:Nat)(U:b.roundOf=some l)(V:b.kind= .normal)(K:Ap E H S)(O:S[j]? =some [(l,.loop r)])
  (h:Ap E H (S.set j [(l,.loop {r with state:= .ready,pending:=none})])->J.ok Q (G (c.finish (.bool true)) cs) (Aj E H (S.set j [(l,.loop {r with state:= .ready,pending:=none})]))):
  JL J Q b n L [] [] (c::cs) (Aj E H S):=λT ap=>by
 obtain⟨Y,Z⟩:=I0 K O (.loop {r with state:= .ready,pending:=none})
 have ac:lp P (Instr.endRound l none) (Aj E H S) (λa s'=>a= .bool true/\s'=Aj E H (S.set j [(l,.loop {r with state:= .ready,pending:=none})])) (λ_ _=>False):=by
  unfold Instr.endRound;refine Ar _ _ (MJ (C6 (i:=0) K O rfl) ?_);simp only [bind,Sem.bind,lp,setObj,pure];exact⟨⟨_,IE K O,rfl⟩,rfl,rfl,Y⟩
 refine Judge.ET (g':=λv=>G (c.finish v) cs) (Instr.endRound l none) rfl rfl (λw a w' ag=>?_) (DO _ ac (λa s' ⟨al,am⟩=>by subst al am;exact h Z) (λ_ _ h=>h));refine⟨seen P b.fn ((Instr.endRound l none).events P w #[])++ #[],?_,λe he=>?_⟩
 ·simp [G,stepG,stepG.exec,fr,U,V,ag,GStep.after,doReturn]
 ·exact mem_seen (by simpa using he)
theorem JL.rangeFunc{x:Operand}{params:Array Tmp}{as O:Code}{f:FuncId}{caps:Lv_}(ap:b.roundOf=none)(aq:b.kind≠ .early)(ac:ev L x=some (.func (.func f) #[] caps.toArray))(hb:Du P f=true)(aw:Ap E H S)
  (h:∀K l T,Has n L T->Ap E H (S++ [[(K,.deferred (some []))]]++ [[(l,.loop ⟨.ready,none,b.fn,T,params,as,O,K⟩)]])->
   J.ok Q (G (Frame.enter P f (.func (.yield l) #[] #[]::caps).toArray .normal) (fr b T (⟨.collected K,#[]⟩::ds) (.inRangeFunc l::k)::cs)) (Aj E H (S++ [[(K,.deferred (some []))]]++ [[(l,.loop ⟨.ready,none,b.fn,T,params,as,O,K⟩)]]))):
  JL J Q b n L ds (.code (.rangeFunc x params as O)::k) cs (Aj E H S):=λT ag=>by
 have ay:lp P (Instr.enterLoop b.fn T params as O b.roundOf) (Aj E H S) (λq s'=>∃K,q.2= [⟨.collected K,#[]⟩]/\Ap E H (S++ [[(K,.deferred (some []))]]++ [[(q.1,.loop ⟨.ready,none,b.fn,T,params,as,O,K⟩)]])/\s'=Aj E H (S++ [[(K,.deferred (some []))]]++ [[(q.1,.loop ⟨.ready,none,b.fn,T,params,as,O,K⟩)]])) (λ_ _=>False):=by
  unfold Instr.enterLoop;rw [ap];simp only [newObj,bind,Sem.bind,lp,pure];refine⟨rfl,λK V Y=>?_⟩;obtain⟨Z,az⟩:=Jo V Y (.deferred (some [])) aw;obtain⟨p1,p2⟩:=Fh Z;have a0:(Aj E H S).upd K (.deferred (some []))=Aj E H (S++ [[(K,.deferred (some []))]]):=by rw [← p1,← az];rfl
  rw [a0];refine⟨rfl,λl a1 a2=>?_⟩;obtain⟨a3,a4⟩:=Jo a1 a2 (.loop ⟨.ready,none,b.fn,T,params,as,O,K⟩) p2;obtain⟨p3,p4⟩:=Fh a3;exact⟨K,rfl,p4,by rw [← p3,← a4];rfl⟩
 refine Judge.ET (g':=λq=>G (Frame.enter P f (.func (.yield q.1) #[] #[]::caps).toArray .normal) (fr b T (q.2++ds) (.inRangeFunc q.1::k)::cs)) (Instr.enterLoop b.fn T params as O b.roundOf) rfl rfl (λw a w' a5=>?_) (DO _ ay (λa s' ⟨K,V,Y,Z⟩=>by subst Z;simp only [V];exact h K a.1 T ag Y) (λ_ _ h=>h));obtain⟨l,mk⟩:=a;have a6:BA T x= .func (.func f) #[] caps.toArray:=ag.ev ac;obtain⟨fn,U,a7,al⟩:∃fn,P.funcs[f]? =some fn/\(fn.name== "runtime.NumGoroutine")=false/\fn.body.isNone=false:=by
  unfold Du at hb;cases U:P.funcs[f]? with
  | none=>rw [U] at hb;cases hb
  | some fn=>
   rw [U] at hb;simp only [Bool.and_eq_true,Bool.not_eq_true'] at hb;exact⟨fn,rfl,hb.1,by cases ac:fn.body <;> simp_all⟩
 refine⟨seen P b.fn ((Instr.enterLoop b.fn T params as O b.roundOf).events P w #[])++ #[],?_,λe he=>?_⟩
 ·have am:=Rt (b:=b) (ds:=mk++ds) T (.inRangeFunc l::k);simp only [fr] at am;have a8:¬fn.name= "runtime.NumGoroutine" :=by simpa using a7
  have a9:¬fn.body=none:=by intro e;rw [e] at al;cases al
  have bb:BA T (.const (.func (.yield l) #[] #[]))= .func (.yield l) #[] #[]:=rfl;simp [G,stepG,stepG.exec,fr,a5,GStep.after,stepG.apply,resolve,am,a6,Deferred.ofValue,invoke,callFunc,U,a8,a9,aq,bb,seen_none]
 ·exact mem_seen (by simpa using he)
theorem JO.collected{K:Nat}(j:Nat)(ap:b.roundOf=none)(O:Ap E H S)(U:S[j]? =some [(K,.deferred (some []))])
  (h:Ap E H (S.set j [(K,.deferred none)])->JO J Q b n L ds cs (Aj E H (S.set j [(K,.deferred none)]))):JO J Q b n L (⟨.collected K,#[]⟩::ds) cs (Aj E H S):=λT V todo=>by
 obtain⟨Y,Z⟩:=I0 O U (.deferred none)
 have ac:lp P (Instr.takeDeferred K) (Aj E H S) (λa s'=>a= []/\s'=Aj E H (S.set j [(K,.deferred none)])) (λ_ _=>False):=by
  unfold Instr.takeDeferred getObj;simp only [bind,Sem.bind,lp,setObj,pure];exact⟨_,C6 (i:=0) O U rfl,rfl,⟨_,IE O U,rfl⟩,rfl,rfl,Y⟩
 refine Judge.ET (g':=λl=>G (El b T (l++ds) todo) cs) (Instr.takeDeferred K) rfl rfl (λw a w' ag=>?_) (DO _ ac (λa s' ⟨al,am⟩=>by subst al am;exact h Z T V todo) (λ_ _ h=>h));refine⟨seen P b.fn ((Instr.takeDeferred K).events P w #[])++ #[],?_,λe he=>?_⟩
 ·simp [G,stepG,unwind,El,ag,GStep.after]
 ·exact mem_seen (by simpa using he)
def Kr(f:FuncId)(args caps:Av_):Deferred:={target:= .fn (.func f) caps,args:=args}
theorem JO.Pq{f:FuncId}{fn:Func}{c:Code}{vs caps:Lv_}(am:b.roundOf=none)(O:P.funcs[f]? =some fn)(V:(fn.name== "runtime.NumGoroutine")=false)(hb:fn.body=some c)(Y:(vs++caps).length<=fn.ntmps){s:St}
  (h:∀T,Has n L T->∀todo,JL J Q (baseD f) fn.ntmps (F1 0 (vs++caps)) [] [.code c] (El b T ds todo::cs) s):JO J Q b n L (Kr f vs.toArray caps.toArray::ds) cs s:=λT Z todo=>by
 have ac:¬fn.name= "runtime.NumGoroutine" :=by simpa using V
 refine Judge.Dg rfl (λw=>?_) (h T Z todo ((vs++caps).toArray++Array.replicate (fn.ntmps - (vs++caps).length) undef) ⟨by simp;simp at Y;omega,λt v ag=>?_⟩)
 ·rw [BN (b:=baseD f) rfl];have:=enter_atD (P:=P) (vs++caps).toArray O hb;simp only [List.size_toArray] at this;rw [← this];simp [G,stepG,unwind,callDeferred,El,Kr,invoke,callFunc,O,ac,hb,GStep.after,seen_none]
 ·obtain⟨_,K⟩:=Jj ag;have al:t<(vs++caps).length:=by
   rcases Nat.lt_or_ge t (vs++caps).length with U | U
   ·exact U
   ·simp only [Nat.sub_zero] at K;have:=(List.getElem?_eq_some_iff.1 K).1;omega
  rw [Array.getD_eq_getD_getElem?,Array.getElem?_append_left (by simpa using al)];simp only [Nat.sub_zero] at K;rw [List.getElem?_toArray,K];rfl
theorem VI{ops:Ao_}{i:Nat}{rest:List Nat}{d:Option Tmp}{x:Operand}{f:FuncId}{caps:Lv_}{args:Array Operand}{ats:Array TypeId}{ty:TypeId}{p:String}{af:Ae_}{g:On_}{vs:Lv_}{s:St}
  (U:ops[i]? =some ⟨d,.defer ⟨.value x,args,ats⟩,ty,p,af,g⟩) (V:b.roundOf=none) (hw:AR L ops ⟨d,.defer ⟨.value x,args,ats⟩,ty,p,af,g⟩=some true) (O:((b.kind != .early)&&Bg n d)=true)
  (Y:ev L x=some (.func (.func f) #[] caps.toArray)) (Z:evs L args.toList=some vs) (h:JL J Q b n (As L d undef) (Kr f vs.toArray caps.toArray::ds) (.inRegion ops rest::k) cs s):
  JL J Q b n L ds (.inRegion ops (i::rest)::k) cs s:=λT K=>by
 simp only [Bool.and_eq_true] at O
 have ac:args.map (BA T)=vs.toArray:=by
  rw [← FY K.F2 Z];apply Array.ext';simp
 refine Judge.oper U (B6 K hw) (by simpa using O.1) (.inl V) ?_;have hd:execOp (BA T) ⟨d,.defer ⟨.value x,args,ats⟩,ty,p,af,g⟩= .pure (.defer (Kr f vs.toArray caps.toArray)):=by
  simp only [execOp,resolve,bind,Sem.bind,Deferred.ofValue,K.ev Y,pure,Kr];rw [ac];simp
 rw [hd];exact h _ (K.put O.2 undef)
end
variable {s:St}{ρ:Operand->Value}{x y z:Operand}{t u e:TypeId}{a:Option Addr}{c:Nat}
section
variable {p:String}
theorem ML(K:P.underlying t=some (.slice e))(O:ρ x= .slice a l c)(U:ρ (.const (.slice none 0 0))= .slice none 0 0):Yl P ⟨d,.binOp .eql t x (.const (.slice none 0 0)) u,ty,p,af,g⟩ ρ s (.bool a.isNone):=by
 refine EN (sm:=do eqGuard .eql t x (.const (.slice none 0 0)) (ρ x) (ρ (.const (.slice none 0 0)));binOp .eql t (ρ x) (ρ (.const (.slice none 0 0)))) rfl ?_
 rw [O,U];have V:lp P (eqGuard .eql t x (.const (.slice none 0 0)) (.slice a l c) (.slice none 0 0)) s (λ_ s'=>s'=s) (λ_ _=>False):=by
  simp [eqGuard,lp,pure]
 refine Ar _ _ (DO _ V ?_ (λ_ _ h=>h));rintro _ _ rfl;have hb:binOp .eql t (.slice a l c) (.slice none 0 0)=(do pure (.bool (← Op.equal t (.slice a l c) (.slice none 0 0)))):=rfl
 rw [hb];refine Ar (x:=Op.equal t (.slice a l c) (.slice none 0 0)) _ ?_;unfold Op.equal Op.maxDepth Op.equalIn;refine Ar _ _ (Ce K ?_);cases a <;> exact⟨rfl,rfl⟩
end
section
variable {b:Frame}{n:Nat}
end
variable {listed:Array Bool}
variable {v:Value}
section
variable {b:Frame}{n:Nat}{m fuel:Nat}{H:LH}
variable {p:String}
end
def IH(P:Program)(d:Nat):GP:=λg _=>∃q,QuitsD P q d g
def K1(P:Program):Frame:={(default:Frame) with fn:=P.funcs.size,defers:= [],mode:= .panicking [goexitEntry]}
section
variable {P:Program}{F:Fam}{J:Judge P}{Q:GP}{n:Nat}{L L':Env}{ds:Ld_}{k:Li_}{cs:Lf_}{s s':St}{b:Frame}{main:Bool}
theorem Lv.quits{d:Nat}:∀{m:Nat} {g:Goroutine},Lv P (IH P d) m g->∃q,QuitsD P q d g
 | 0,_,h=>h
 | m+1,_,h=>by
  rcases h with h | ⟨K,g',O,h⟩
  ·exact h
  ·obtain⟨q,U⟩:=h.quits;exact⟨q+1,.ctl K O U⟩
theorem Oc{d:Nat}{g:Goroutine}(h:(HZ P).ok (IH P d) g .quiet):∃q,QuitsD P q d g:=by
 obtain⟨m,hm⟩:=h V;exact hm.quits
theorem VF:(HZ P).ok (IH P 0) (G (K1 P) []) .quiet:=by
 refine Judge.Dg (g':={frame:=K1 P,callers:= [],status:= .finished,dying:=none}) V (λw=>?_) ((HZ P).stop ⟨0,V,V⟩);have K:(default:Frame).todo= []:=V;have O:∀(m:FrameMode),Frame.catches P {fn:=P.funcs.size,tmps:=(default:Frame).tmps,todo:= [],defers:= [],mode:=m,kind:=(default:Frame).kind,roundOf:=(default:Frame).roundOf}=false:=λm=>by simp [Frame.catches]
 simp [G,stepG,unwind,K1,goexitEntry,K,O]
theorem RU{ops:Ao_}{i:Nat}{rest:List Nat}{d:Option Tmp}{f:FuncId}{args:Array Operand}{ats:Array TypeId}{ty:TypeId}{pp:String}{af:Ae_}{g:On_}{T:Av_}{e:Av_->Sem Value}
  (K:ops[i]? =some ⟨d,.call ⟨.value (.func f),args,ats⟩,ty,pp,af,g⟩) (he:BI P f e):mayWake P (G (fr b T ds (.inRegion ops (i::rest)::k)) cs)=true:=by
 obtain⟨fn,O,_,hb,_⟩:=he.h;have U:fn.body.isSome=false:=by cases h:fn.body <;> simp_all
 simp [mayWake,G,fr,K,Frame.eval,O,U]
theorem Xf{v wt:Nat}(K:1<=v)(O:v<2147483648)(U:wt<=1):IntKind.u64.wrap (Fam.word v wt+18446744069414584320)=Fam.word (v - 1) wt:=by
 simp only [Fam.word,Fam.KK,IntKind.wrap,IntKind.bits,IntKind.signed];simp;omega
theorem XF{v:Nat}(h:v<2147483647):IntKind.u64.wrap (Fam.word v 0+4294967296)=Fam.word (v+1) 0:=by
 simp only [Fam.word,Fam.KK,IntKind.wrap,IntKind.bits,IntKind.signed];simp;omega
theorem word_inj{v v' wt:Nat}(h:Fam.word v wt=Fam.word v' wt):v=v':=by
 simp only [Fam.word,Fam.KK] at h;omega
theorem XN(ac:ops[i]? =some ⟨d,.call ⟨.value (.func f),#[x,y],ats⟩,ty,pp,af,g⟩)(Y:b.roundOf=none)(hw:AR L ops ⟨d,.call ⟨.value (.func f),#[x,y],ats⟩,ty,pp,af,g⟩=some true)(O:((b.kind != .early)&&Bg n d)=true)
  (he:BI P f (Extern.Atomic.update (Op.intArith .add) .u64 true)) (ag:ev L x=some (.pointer (some F.sA))) (al:ev L y=some (.int .u64 18446744069414584320))
  (am:JL (AY P false) (Stop P F .GD) b n (As L d (.int .u64 (Fam.word 0 1))) ds (.inRegion ops rest::k) cs .quiet)
  (ap:∀v wt:Nat,v<2147483647->wt<=1->¬(v=0/\wt=1)->JL (HZ P) (IH P 1) b n (As L d (.int .u64 (Fam.word v wt))) ds (.inRegion ops rest::k) cs .quiet):
  JL (AY P false) (Stop P F .Ha) b n L ds (.inRegion ops (i::rest)::k) cs .quiet:=λT K=>by
 simp only [Bool.and_eq_true] at O
 obtain⟨fn,aq,aw,hb,ay,he⟩:=he.h
 refine(AY P _).stop (Iw rfl rfl rfl rfl (by simp) λv wt sm v' wt' sm' es az U=>?_)
 simp only [Fam.act] at U
 split at U
 ·rename_i V
  cases U;refine⟨G (fr b (CL T d (.int .u64 (Fam.word (v - 1) wt))) ds (.inRegion ops rest::k)) cs,λw Z=>?_,rfl,?_⟩
  ·obtain⟨c1,_,c3,_⟩:=Iy Z;rw [BN Y,BN Y];show stepG P false _ w=_;rw [stepG_add_atomic (a:=⟨T,ds⟩) ac (B6 K hw) (by simpa using O.1) rfl aq aw hb ay .u64 he (by rw [Ex];exact K.ev ag) (by rw [Ex];exact K.ev al) c1 c3,Xf V.1 V.2.1 V.2.2,MH Z,DZ]
   rfl
  ·split
   ·rename_i e;obtain⟨rfl,rfl⟩:=e;exact am _ (K.put O.2 _)
   ·rename_i e;exact Oc (ap (v - 1) wt (by omega) V.2.2 (by omega) _ (K.put O.2 _))
 ·cases U
theorem X9{j:Nat}(ac:s.q=false)(ag:ops[i]? =some ⟨d,.call ⟨.value (.func f),#[x,y],ats⟩,ty,pp,af,g⟩)(Y:b.roundOf=none)(hw:AR L ops ⟨d,.call ⟨.value (.func f),#[x,y],ats⟩,ty,pp,af,g⟩=some true)(O:((b.kind != .early)&&Bg n d)=true)
  (he:BI P f (Extern.Atomic.update (Op.intArith .add) .u64 true)) (al:ev L x=some (.pointer (some F.sA))) (am:ev L y=some (.int .u64 4294967296))
  (ap:JL (AY P true) (Stop P F (.Im j)) b n (As L d (.int .u64 (Fam.word 1 0))) ds (.inRegion ops rest::k) cs s)
  (aq:∀v:Nat,1<=v->v<2147483647->JL (AY P true) (Stop P F (.GM j)) b n (As L d (.int .u64 (Fam.word (v+1) 0))) ds (.inRegion ops rest::k) cs s):
  JL (AY P true) (Stop P F (.Ik j)) b n L ds (.inRegion ops (i::rest)::k) cs s:=λT K=>by
 simp only [Bool.and_eq_true] at O
 obtain⟨fn,aw,ay,hb,az,he⟩:=he.h
 refine(AY P _).stop (Iw rfl rfl rfl ac (by simp) λv wt sm v' wt' sm' es a0 U=>?_)
 simp only [Fam.act] at U
 split at U
 ·rename_i V
  obtain⟨V,rfl⟩:=V;cases U;refine⟨G (fr b (CL T d (.int .u64 (Fam.word (v+1) 0))) ds (.inRegion ops rest::k)) cs,λw Z=>?_,rfl,?_⟩
  ·obtain⟨c1,_,c3,_⟩:=Iy Z;rw [BN Y,BN Y];show stepG P true _ w=_;rw [stepG_add_atomic (a:=⟨T,ds⟩) ag (B6 K hw) (by simpa using O.1) rfl aw ay hb az .u64 he (by rw [Ex];exact K.ev al) (by rw [Ex];exact K.ev am) c1 c3,XF V,MH Z,DZ]
   rfl
  ·split
   ·rename_i e;subst e;exact ap _ (K.put O.2 _)
   ·rename_i e;exact aq v (by omega) V _ (K.put O.2 _)
 ·cases U
theorem ZI(ag:KV p=true)(al:if Fam.CN p=true then s= .quiet else s.q=false)(am:p≠ .Fc)(ap:Fam.Jd p s=s)(aq:∀v wt sm r,F.act p v wt sm=some r->r.1=(v,wt,sm)/\r.2.1= #[Fam.Ca F.sA])
  (aw:ops[i]? =some ⟨d,.call ⟨.value (.func f),#[x],ats⟩,ty,pp,af,g⟩) (U:b.roundOf=none) (hw:AR L ops ⟨d,.call ⟨.value (.func f),#[x],ats⟩,ty,pp,af,g⟩=some true) (K:((b.kind != .early)&&Bg n d)=true)
  (he:BI P f (Extern.Atomic.loadT (.int .u64))) (ay:ev L x=some (.pointer (some F.sA)))
  (h:∀v wt sm r,F.act p v wt sm=some r->∃q,r.2.2= .ph q/\JL (AY P (Fam.CB p)) (Stop P F q) b n (As L d (.int .u64 (Fam.word v wt))) ds (.inRegion ops rest::k) cs s):
  JL (AY P (Fam.CB p)) (Stop P F p) b n L ds (.inRegion ops (i::rest)::k) cs s:=λT O=>by
 simp only [Bool.and_eq_true] at K
 obtain⟨fn,az,a0,hb,a1,he⟩:=he.h
 refine(AY P _).stop (Iw ag rfl rfl al (λe=>absurd e am) λv wt sm v' wt' sm' es a3 V=>?_)
 obtain⟨Y,e2⟩:=aq _ _ _ _ V
 obtain⟨q,Z,a2⟩:=h _ _ _ _ V
 simp only at Y e2 Z
 cases Y
 subst e2 Z
 refine⟨_,λw ac=>?_,rfl,by rw [ap];exact a2 _ (O.put K.2 _)⟩
 obtain⟨c1,_,_,_⟩:=Iy ac
 rw [BN U,BN U,stepG_load_atomic (a:=⟨T,ds⟩) aw (B6 O hw) (by simpa using K.1) rfl az a0 hb a1 .u64 he (by rw [Ex];exact O.ev ay) c1,KP ac,DZ]
 rfl
theorem Y4(Z:ops[i]? =some ⟨d,.call ⟨.value (.func f),#[x,y],ats⟩,ty,pp,af,g⟩)(V:b.roundOf=none)(hw:AR L ops ⟨d,.call ⟨.value (.func f),#[x,y],ats⟩,ty,pp,af,g⟩=some true)(U:((b.kind != .early)&&Bg n d)=true)
  (he:BI P f Extern.Atomic.storeT) (ac:ev L x=some (.pointer (some F.sA))) (ag:ev L y=some (.int .u64 0))
  (h:JL (AY P false) (Stop P F .Fc) b n (As L d (.tuple #[])) ds (.inRegion ops rest::k) cs .quiet):
  JL (AY P false) (Stop P F .GZ) b n L ds (.inRegion ops (i::rest)::k) cs .quiet:=λT K=>by
 simp only [Bool.and_eq_true] at U
 obtain⟨fn,al,am,hb,ap,he⟩:=he.h
 refine(AY P _).stop (Iw rfl rfl rfl rfl (by simp) λv wt sm v' wt' sm' es ay O=>?_)
 simp only [Fam.act] at O
 split at O
 ·rename_i aq
  obtain⟨rfl,rfl⟩:=aq;cases O;refine⟨_,λw Y=>?_,rfl,h _ (K.put U.2 _)⟩;obtain⟨c1,_,c3,_⟩:=Iy Y;have aw:(.int .u64 0:Value)= .int .u64 (Fam.word 0 0):=by simp [Fam.word]
  rw [BN V,BN V];show stepG P false _ w=_;rw [stepG_store_atomic (a:=⟨T,ds⟩) Z (B6 K hw) (by simpa using U.1) rfl al am hb ap he (by rw [Ex];exact K.ev ac) (by rw [Ex];exact K.ev ag) c1 c3,aw,MH Y,DZ]
  rfl
 ·cases O
theorem ah{m:Nat}(aw:s.q=false)(Z:ops[i]? =some ⟨d,.call ⟨.value (.func f),#[x,y,z],ats⟩,ty,pp,af,g⟩)(Y:b.roundOf=none)(hw:AR L ops ⟨d,.call ⟨.value (.func f),#[x,y,z],ats⟩,ty,pp,af,g⟩=some true)(U:((b.kind != .early)&&Bg n d)=true)
  (he:BI P f (Extern.Atomic.casT (.int .u64))) (ac:ev L x=some (.pointer (some F.sA))) (ag:ev L y=some (.int .u64 (Fam.word m 0))) (al:ev L z=some (.int .u64 (Fam.word m 1)))
  (ay:JL (AY P true) (Stop P F .Ir) b n (As L d (.bool true)) ds (.inRegion ops rest::k) cs s)
  (az:JL (AY P true) (Stop P F (.FQ (m - 1))) b n (As L d (.bool false)) ds (.inRegion ops rest::k) cs s):
  JL (AY P true) (Stop P F (.G7 m)) b n L ds (.inRegion ops (i::rest)::k) cs s:=λT K=>by
 simp only [Bool.and_eq_true] at U
 obtain⟨fn,am,ap,hb,aq,he⟩:=he.h
 refine(AY P _).stop (Iw rfl rfl rfl aw (by simp) λv wt sm v' wt' sm' es a1 O=>?_)
 simp only [Fam.act] at O
 split at O
 ·rename_i a0
  obtain⟨_,_,rfl⟩:=a0;split at O
  ·rename_i e;subst e;cases O;refine⟨_,λw V=>?_,rfl,ay _ (K.put U.2 _)⟩;obtain⟨c1,_,c3,_⟩:=Iy V;rw [BN Y,BN Y];show stepG P true _ w=_;rw [stepG_cas_hit (a:=⟨T,ds⟩) Z (B6 K hw) (by simpa using U.1) rfl am ap hb aq .u64 he (by rw [Ex];exact K.ev ac) (by rw [Ex];exact K.ev ag) (by rw [Ex];exact K.ev al) c1 c3,MH V,DZ]
   rfl
  ·rename_i e;cases O;refine⟨_,λw V=>?_,rfl,az _ (K.put U.2 _)⟩;obtain⟨c1,_,c3,_⟩:=Iy V;rw [BN Y,BN Y];show stepG P true _ w=_;rw [stepG_cas_miss (a:=⟨T,ds⟩) Z (B6 K hw) (by simpa using U.1) rfl am ap hb aq .u64 he (by rw [Ex];exact K.ev ac) (by rw [Ex];exact K.ev ag) (by rw [Ex];exact K.ev al) c1 c3 (λq=>e (word_inj q)),KP V,DZ]
   rfl
 ·cases O
theorem Xn{args:Array Operand}{vs:Lv_}(V:ops[i]? =some ⟨d,.call ⟨.value (.func f),args,ats⟩,ty,pp,af,g⟩)(Y:b.roundOf=none)(hw:AR L ops ⟨d,.call ⟨.value (.func f),args,ats⟩,ty,pp,af,g⟩=some true)(O:((b.kind != .early)&&Bg n d)=true)
  (he:BI P f Extern.Sync.semrelease) (ac:evs L args.toList=some vs) (ag:vs[0]? =some (.pointer (some F.mA)))
  (h:JL (HZ P) (IH P 1) b n (As L d (.tuple #[])) ds (.inRegion ops rest::k) cs .quiet):
  JL (AY P false) (Stop P F .Fc) b n L ds (.inRegion ops (i::rest)::k) cs .quiet:=λT U=>by
 simp only [Bool.and_eq_true] at O
 have al:=RU (P:=P) (b:=b) (ds:=ds) (k:=k) (cs:=cs) (rest:=rest) (T:=T) V he
 obtain⟨fn,am,ap,hb,aq,he⟩:=he.h
 refine(AY P _).stop (Iw rfl rfl rfl rfl (λ_=>al) λv wt sm v' wt' sm' es az K=>?_)
 simp only [Fam.act] at K
 split at K
 ·rename_i aw
  subst aw;cases K;refine⟨_,λw Z=>?_,rfl,Oc (h _ (U.put O.2 _))⟩;obtain⟨_,c2,_,c4⟩:=Iy Z;rw [BN Y,BN Y];show stepG P false _ w=_;rw [stepG_semrelease (a:=⟨T,ds⟩) V (B6 U hw) (by simpa using O.1) rfl am ap hb aq he (ad:=F.mA) (by rw [JM U ac];simpa using ag) c2 c4,DZ];have ay:IntKind.u32.wrap (((0:Nat):Int)+1)=((1:Nat):Int):=by decide
  rw [ay,QP Z]
 ·cases K
theorem Vk{args:Array Operand}{vs:Lv_}(ap:s.q=false)(Z:ops[i]? =some ⟨d,.call ⟨.value (.func f),args,ats⟩,ty,pp,af,g⟩)(V:b.roundOf=none)(hw:AR L ops ⟨d,.call ⟨.value (.func f),args,ats⟩,ty,pp,af,g⟩=some true)(Y:((b.kind != .early)&&Bg n d)=true)
  (he:BI P f Extern.Sync.semacquire) (aq:evs L args.toList=some vs) (aw:vs[0]? =some (.pointer (some F.mA)))
  (h:JL (AY P true) (Stop P F .G0) b n (As L d (.tuple #[])) ds (.inRegion ops rest::k) cs s):
  JL (AY P true) (Stop P F .Fs) b n L ds (.inRegion ops (i::rest)::k) cs s:=λT K=>by
 simp only [Bool.and_eq_true] at Y
 obtain⟨fn,ac,ag,hb,al,he⟩:=he.h
 have am:(args.map (⟨T,ds⟩:Act).eval)[0]? =some (.pointer (some F.mA)):=by rw [JM K aq];simpa using aw
 refine(AY P _).stop (GK.stop {
  run:=rfl,offers:=rfl,quiet:=(by simp [Fam.CN]),live:=λ_=>ap,act:=?_,II:=(by simp),ET:=?_,go:=(by simp),lk:=(by simp),Cv:=(by simp),store:=(by simp),fin:=(by simp)})
 ·intro v wt sm v' wt' sm' es a0 O;simp only [Fam.act] at O;split at O
  ·rename_i ay;subst ay;cases O;refine⟨_,λw U=>?_,rfl,h _ (K.put Y.2 _)⟩;obtain⟨_,c2,_,c4⟩:=Iy U;rw [BN V,BN V];show stepG P true _ w=_;rw [stepG_semacquire (a:=⟨T,ds⟩) Z (B6 K hw) (by simpa using Y.1) rfl ac ag hb al he (ad:=F.mA) am c2 (by decide) c4,DZ];have az:(((1:Nat):Int) - 1)=((0:Nat):Int):=by decide
   rw [az,QP U]
  ·cases O
 ·intro _ w v wt U;obtain⟨_,c2,_,c4⟩:=Iy U;rw [BN V];exact stepG_semacquire_wait (a:=⟨T,ds⟩) Z (B6 K hw) rfl ac ag hb al he (ad:=F.mA) am c2
theorem Sl{args:Array Operand}{vs:Lv_}(V:s.q=false)(Y:ops[i]? =some ⟨d,.call ⟨.value (.func f),args,ats⟩,ty,pp,af,g⟩)(U:b.roundOf=none)(hw:AR L ops ⟨d,.call ⟨.value (.func f),args,ats⟩,ty,pp,af,g⟩=some true)(K:((b.kind != .early)&&Bg n d)=true)
  (he:BI P f (Extern.Race.marked .acquire)) (Z:evs L args.toList=some vs) (ac:vs[0]? =some (.pointer (some F.sA)))
  (h:∀E' f,Le s.E E'->E' F.fd=none->(∀b,E' b≠none->s.H b=none)->(∀k,k<F.n->F.msg k (f k) E')->∀T,Has n (As L d (.tuple #[])) T->F.fin (G (fr b T ds (.inRegion ops rest::k)) cs) ⟨E',F.Jw s.H f,false⟩):
  JL (AY P true) (Stop P F .F5) b n L ds (.inRegion ops (i::rest)::k) cs s:=λT O=>by
 simp only [Bool.and_eq_true] at K
 obtain⟨fn,ag,al,hb,am,he⟩:=he.h
 refine(AY P _).stop (GK.stop {
  run:=rfl,offers:=rfl,quiet:=(by simp [Fam.CN]),live:=λ_=>V,act:=(by simp [Fam.act]),II:=(by simp),ET:=(by simp),go:=(by simp),lk:=(by simp),Cv:=(by simp),store:=(by simp),fin:=λ_=>?_})
 refine⟨_,λw=>?_,λE' f a1 ap aq aw=>h E' f a1 ap aq aw _ (O.put K.2 _)⟩
 rw [BN U,BN U,stepG_markAt (a:=⟨T,ds⟩) .acquire (by simp) Y (B6 O hw) (by simpa using K.1) rfl ag al hb am he (ad:=F.sA) (by rw [JM O Z];simpa using ac),DZ]
 rfl
end
section
variable {P:Program}{F:Fam}{J:Judge P}{Q:GP}{n:Nat}{L L':Env}{ds:Ld_}{k:Li_}{cs:Lf_}{s s':St}{b:Frame}{main:Bool}
theorem KG(T:Av_)(ds:Ld_):(⟨T,ds⟩:Act).eval=BA T:=funext λx=>Ex T ds x
theorem Xc{X:GP}{fn:Func}{c:Code}{vs:Lv_}{caps:Av_}{args:Av_}(O:P.funcs[f]? =some fn)(Y:(fn.name== "runtime.NumGoroutine")=false)(hb:fn.body=some c)(Z:args++caps=vs.toArray)(am:vs.length<=fn.ntmps)
  (h:JL (AY P false) X (baseD f) fn.ntmps (F1 0 vs) [] [.code c] [K1 P] s):Way P false X (born P {target:= .fn (.func f) caps,args:=args}) s:=by
 have ac:¬fn.name= "runtime.NumGoroutine" :=by simpa using Y
 refine Judge.Dg (J:=AY P false) rfl (λw=>?_) (h (vs.toArray++Array.replicate (fn.ntmps - vs.length) undef) ⟨by simp;omega,λt v ag=>?_⟩)
 ·show stepG P false _ w=_;have U:=enter_atD (P:=P) vs.toArray O hb;rw [BN (b:=baseD f) rfl];simp only [List.size_toArray] at U;simp [G,born,stepG,unwind,callDeferred,invoke,callFunc,O,ac,hb,GStep.after,seen_none,Z,K1,U]
 ·obtain⟨_,K⟩:=Jj ag;have al:t<vs.length:=by
   rcases Nat.lt_or_ge t vs.length with V | V
   ·exact V
   ·simp at K;have:=(List.getElem?_eq_some_iff.1 K).1;omega
  rw [Array.getD_eq_getD_getElem?,Array.getElem?_append_left (by simpa using al)];simp at K;simp [K]
theorem Zs{T:Av_}{args:Array Operand}{K:Go.Fn}{fi O:Av_}{as:Lv_}(U:Has n L T)(V:ev L x=some (.func K fi O))(Y:evs L args.toList=some as):
  execOp (BA T) ⟨d,.go ⟨.value x,args,ats⟩,ty,pp,af,g⟩= .pure (.spawn {target:= .fn K O,args:=fi++as.toArray}):=by
 have Z:args.map (BA T)=as.toArray:=by
  rw [← FY U.F2 Y];apply Array.ext';simp
 simp only [execOp,resolve,bind,Sem.bind,Deferred.ofValue,U.ev V,pure,Z]
theorem YQ{j:Nat}{args:Array Operand}{fi U:Av_}{as:Lv_}{V:FuncId}(ac:s.q=false)(ag:ops[i]? =some ⟨d,.go ⟨.value x,args,ats⟩,ty,pp,af,g⟩)(Y:b.roundOf=none)(hw:AR L ops ⟨d,.go ⟨.value x,args,ats⟩,ty,pp,af,g⟩=some true)(K:((b.kind != .early)&&Bg n d)=true)
  (al:ev L x=some (.func (.func V) fi U)) (am:evs L args.toList=some as)
  (ap:Way P false (Stop P F (F.start j)) (born P {target:= .fn (.func V) U,args:=fi++as.toArray}) ⟨s.E,λ_=>none,false⟩)
  (aq:JL (AY P true) (Stop P F (F.Eu j)) b n (As L d undef) ds (.inRegion ops rest::k) cs s):
  JL (AY P true) (Stop P F (.FG j)) b n L ds (.inRegion ops (i::rest)::k) cs s:=λT O=>by
 simp only [Bool.and_eq_true] at K
 have Z:=Zs (d:=d) (ats:=ats) (ty:=ty) (pp:=pp) (af:=af) (g:=g) O al am
 refine(AY P _).stop (GK.stop {
  run:=rfl,offers:=rfl,quiet:=(by simp [Fam.CN]),live:=λ_=>ac,act:=(by simp [Fam.act]),II:=(by simp),ET:=(by simp),go:=λaw e=>?_,lk:=(by simp),Cv:=(by simp),store:=(by simp),fin:=(by simp)})
 cases e
 refine⟨G (fr b (CL T d undef) ds (.inRegion ops rest::k)) cs,_,rfl,rfl,λw=>?_,ap,aq _ (O.put K.2 _)⟩
 rw [BN Y,BN Y,stepG_spawn (a:=⟨T,ds⟩) (w':=w) ag (B6 O hw) (by simpa using K.1) (by rw [KG,Z];rfl) rfl,listed_none (by rw [KG,Z];simp [Sem.events_pure']),DZ]
theorem JO.Sf{j:Nat}(V:s.q=false)(K:b.roundOf=none)(he:BI P f (λ_=>do mark .enable;pure Extern.Race.none_))
  (h:JO (AY P true) (Stop P F (.FG j)) b n L ds cs s):JO (AY P true) (Stop P F (.GM j)) b n L (dcall f #[]::ds) cs s:=λT Y todo=>by
 obtain⟨fn,Z,ac,hb,ag,he⟩:=he.h
 refine(AY P _).stop (Iw rfl rfl rfl V (by simp) λv wt sm v' wt' sm' es am O=>?_)
 simp only [Fam.act] at O
 cases O
 refine⟨G (El b T ds todo) cs,λw al=>?_,rfl,h T Y todo⟩
 rw [KL K,KL K,KP al]
 exact stepG_unwind_entry (a:=⟨T,dcall f #[]::ds⟩) (v:= .tuple #[]) (evs:= #[Fam.CH .enable]) rfl Z ac hb ag he (by simp [Extern.Race.none_]) (by simp;rfl) (by
  intro x U
  simp at U
  subst U
  exact⟨rfl,λg h=>by cases h⟩)
theorem JO.M6(K:b.roundOf=none)(he:BI P f (λ_=>do mark .enable;pure Extern.Race.none_))
  (h:JO (HZ P) (IH P 0) b n L ds cs .quiet):JO (HZ P) (IH P 1) b n L (dcall f #[]::ds) cs .quiet:=λT U todo=>by
 obtain⟨fn,V,Y,hb,Z,he⟩:=he.h
 refine(HZ P).stop ?_
 obtain⟨q,O⟩:=Oc (h T U todo)
 rw [KL K] at O
 rw [KL K]
 exact⟨q+1,QuitsD.unwind_mark (a:=⟨T,dcall f #[]::ds⟩) .enable rfl (by simp) rfl V Y hb Z he O⟩
end
def Uo:BinOp->Int->Int->Option Bool
 | .lss,m,m'=>some (decide (m<m'))
 | .leq,m,m'=>some (decide (m<=m'))
 | .gtr,m,m'=>some (decide (m'<m))
 | .geq,m,m'=>some (decide (m'<=m))
 | .eql,m,m'=>some (decide (m=m'))
 | .neq,m,m'=>some (decide (m≠m'))
 | _,_,_=>none
def Ko(L:Env):Op->Option Value
 | .move x=>ev L x
 | .assign x=>ev L x
 | .pick z x y=>match ev L z with
  | some (.bool true)=>ev L x
  | some (.bool false)=>ev L y
  | _=>none
 | .extract x i=>match ev L x with
  | some (.tuple vs)=>vs[i]?
  | _=>none
 | .nilCheck x=>match ev L x with
  | some (.pointer (some a))=>some (.pointer (some a))
  | _=>none
 | .binOp op _ x y _=>match ev L x with
  | some (.int kd m)=>match ev L y with
   | some (.int kd' m')=>if kd=kd' then(match Uo op m m' with | some t=>some (.bool t) | none=>none) else none
   | _=>none
  | _=>none
 | _=>none
theorem Yp{P:Program}{s:St}{ρ:Operand->Value}{d:Option Tmp}{x y:Operand}{t u ty:TypeId}{p:String}{af:Ae_}{g:On_}{kd:IntKind}{m m':Int}(K:ρ x= .int kd m)(O:ρ y= .int kd m'):Yl P ⟨d,.binOp .neq t x y u,ty,p,af,g⟩ ρ s (.bool (decide (m≠m'))):=by
 have h:=Yl.neq (P:=P) (s:=s) (d:=d) (t:=t) (u:=u) (ty:=ty) (p:=p) (af:=af) (g:=g) K O;simpa using h
theorem MX{P:Program}{L:Env}{ρ:Operand->Value}{s:St}{o:Oper}{v:Value}(K:EP L ρ)(h:Ko L o.op=some v):Yl P o ρ s v:=by
 obtain⟨d,op,ty,p,af,g⟩:=o;simp only at h;unfold Ko at h;split at h
 ·exact Yl.move (K _ _ h)
 ·exact Yl.assign (K _ _ h)
 ·split at h
  ·rename_i e;exact LB (K _ _ e) (K _ _ h)
  ·rename_i e;exact VS (K _ _ e) (K _ _ h)
  ·cases h
 ·split at h
  ·rename_i e;exact Yl.extract (K _ _ e) h
  ·cases h
 ·split at h
  ·rename_i e;cases h;exact Yl.nilCheck (K _ _ e)
  ·cases h
 ·split at h
  ·rename_i O;split at h
   ·rename_i U;split at h
    ·rename_i e;subst e;split at h
     ·rename_i e;cases h;unfold Uo at e;split at e
      ·cases e;exact Yl.lss (K _ _ O) (K _ _ U)
      ·cases e;exact Yl.leq (K _ _ O) (K _ _ U)
      ·cases e;exact Yl.gtr (K _ _ O) (K _ _ U)
      ·cases e;exact Yl.geq (K _ _ O) (K _ _ U)
      ·cases e;exact Yl.eql (K _ _ O) (K _ _ U)
      ·cases e;exact Yp (K _ _ O) (K _ _ U)
      ·cases e
     ·cases h
    ·cases h
   ·cases h
  ·cases h
 ·cases h
def I9:List Oper->Nat->Option Oper
 | [],_=>none
 | o::_,0=>some o
 | _::os,i+1=>I9 os i
theorem KU:∀(os:List Oper) (i:Nat),I9 os i=os[i]?
 | [],i=>by simp [I9]
 | _::_,0=>rfl
 | _::os,i+1=>by simp [I9,KU os i]
def NC(b:Frame)(n:Nat)(L:Env):Li_->Option (Li_×Env)
 | .code (.seq x y)::k=>some (.code x:: .code y::k,L)
 | .code (.block i c)::k=>some (.code c:: .inBlock i::k,L)
 | .code (.scope c)::k=>some (.code c:: .inScope c::k,L)
 | .code .skip::k=>some (k,L)
 | .code (.exit i)::k=>match exitTo i k with
  | some k'=>some (k',L)
  | none=>none
 | .code (.cond c x y)::k=>match ev L c with
  | some (.bool true)=>some (.code x::k,L)
  | some (.bool false)=>some (.code y::k,L)
  | _=>none
 | .code (.region _ ops false)::k=>some (.inRegion ops (List.range ops.size)::k,L)
 | .inBlock _::k=>some (k,L)
 | .inScope _::k=>some (k,L)
 | .inRegion _ []::k=>some (k,L)
 | .inRegion ops (i::rest)::k=>match I9 ops.toList i with
  | some ⟨d,op,ty,p,af,g⟩=>match AR L ops ⟨d,op,ty,p,af,g⟩ with
   | some true=>match BJ b n ⟨d,op,ty,p,af,g⟩ with
    | true=>match Ko L op with
     | some v=>match d with
      | some d=>some (.inRegion ops rest::k,(d,v)::L)
      | none=>some (.inRegion ops rest::k,L)
     | none=>none
    | false=>none
   | some false=>match Bg n d with
    | true=>match d with
     | some d=>some (.inRegion ops rest::k,(d,undef)::L)
     | none=>some (.inRegion ops rest::k,L)
    | false=>none
   | none=>none
  | none=>none
 | _=>none
def Nk(b:Frame)(n:Nat):Nat->Li_->Env->Option (Li_×Env)
 | 0,k,L=>some (k,L)
 | m+1,k,L=>match NC b n L k with
  | some (k',L')=>Nk b n m k' L'
  | none=>none
variable {L':Env}{k':Li_}
section
variable {b:Frame}{n:Nat}
theorem TB(h:NC b n L k=some (k',L'))(K:JL J Q b n L' ds k' cs s):JL J Q b n L ds k cs s:=by
 unfold NC at h;split at h
 ·cases h;exact JL.seq K
 ·cases h;exact JL.block K
 ·cases h;exact JL.scope K
 ·cases h;exact JL.skip K
 ·split at h
  ·rename_i e;cases h;exact JL.exit e K
  ·cases h
 ·split at h
  ·rename_i e;cases h;exact V7 e K
  ·rename_i e;cases h;exact Wo e K
  ·cases h
 ·cases h;exact JL.region K
 ·cases h;exact Lu K
 ·cases h;exact U2 K
 ·cases h;exact JL.done K
 ·split at h
  ·rename_i d op ty p af g O;rw [KU,Array.getElem?_toList] at O;split at h
   ·rename_i hw;split at h
    ·rename_i U;split at h
     ·rename_i v Y;cases d with
      | none=>cases h;exact A4 O hw U (λρ V=>MX V Y) K
      | some d=>cases h;exact A4 O hw U (λρ V=>MX V Y) K
     ·cases h
    ·cases h
   ·rename_i hw;split at h
    ·rename_i U;cases d with
     | none=>cases h;exact Ih O hw U K
     | some d=>cases h;exact Ih O hw U K
    ·cases h
   ·cases h
  ·cases h
 ·cases h
theorem JL.go(m:Nat)(h:Nk b n m k L=some (k',L'))(K:JL J Q b n L' ds k' cs s):JL J Q b n L ds k cs s:=by
 induction m generalizing k L with
 | zero=>cases h;exact K
 | succ m O=>
  unfold Nk at h;split at h
  ·rename_i e;exact TB e (O h)
  ·cases h
end
abbrev Ak(a o:Nat):Value:= .pointer (some ⟨a,o,none⟩)
abbrev sV{α:Type}(a:Option Addr)(l:List α)(c:Nat):Value:= .slice a l.length c
abbrev fV(n:Nat):Value:= .func (.func n) #[] #[]
abbrev nS:Value:= .slice none 0 0
abbrev A0(r:Nat):Option Addr:=some ⟨r,0,none⟩
open Go.Conc.Lib Go.ConcR.Gen
theorem FX{P:Program}{t:TypeId}{n:Nat}(h:∀w,Sem.run P (Go.sizeOf t) w= .ok n w):Bo P t=some n:=by
 have K:=h default;unfold Bo;simp only [Go.sizeOf,typeInfo,bind,Sem.bind,program,Sem.run] at K;cases hi:P.info? t with
 | none=>rw [hi] at K;simp [stuck,Sem.run,Sem.bind] at K
 | some i=>
  rw [hi] at K;simp [pure,Sem.bind,Sem.run] at K;simp [K]
section
variable {L:WgLink}(H:WgLib P L)
include H
theorem MB:BI P L.disable (λ_=>do mark .disable;pure Extern.Race.none_):=⟨⟨_,H.f_disable,x_disable_n L,x_disable_b L,x_disable_x L,x_disable_f L⟩⟩
theorem IS:BI P L.enable (λ_=>do mark .enable;pure Extern.Race.none_):=⟨⟨_,H.f_enable,x_enable_n L,x_enable_b L,x_enable_x L,x_enable_f L⟩⟩
theorem Qu:BI P L.relMerge (Extern.Race.marked .releaseMerge):=⟨⟨_,H.f_relMerge,x_relMerge_n L,x_relMerge_b L,x_relMerge_x L,x_relMerge_f L⟩⟩
theorem Od:BI P L.acquire (Extern.Race.marked .acquire):=⟨⟨_,H.f_acquire,x_acquire_n L,x_acquire_b L,x_acquire_x L,x_acquire_f L⟩⟩
theorem W7:BI P L.raceRead (Extern.Race.marked .read):=⟨⟨_,H.f_raceRead,x_raceRead_n L,x_raceRead_b L,x_raceRead_x L,x_raceRead_f L⟩⟩
theorem VZ:BI P L.raceWrite (Extern.Race.marked .write):=⟨⟨_,H.f_raceWrite,x_raceWrite_n L,x_raceWrite_b L,x_raceWrite_x L,x_raceWrite_f L⟩⟩
theorem SM:BI P L.addU64 (Extern.Atomic.update (Op.intArith .add) .u64 true):=⟨⟨_,H.f_addU64,x_addU64_n L,x_addU64_b L,x_addU64_x L,x_addU64_f L⟩⟩
theorem Xl:BI P L.loadU64 (Extern.Atomic.loadT (.int .u64)):=⟨⟨_,H.f_loadU64,x_loadU64_n L,x_loadU64_b L,x_loadU64_x L,x_loadU64_f L⟩⟩
theorem Wq:BI P L.storeU64 Extern.Atomic.storeT:=⟨⟨_,H.f_storeU64,x_storeU64_n L,x_storeU64_b L,x_storeU64_x L,x_storeU64_f L⟩⟩
theorem XK:BI P L.casU64 (Extern.Atomic.casT (.int .u64)):=⟨⟨_,H.f_casU64,x_casU64_n L,x_casU64_b L,x_casU64_x L,x_casU64_f L⟩⟩
theorem Wn:BI P L.semrelease Extern.Sync.semrelease:=⟨⟨_,H.f_semrelease,x_semrelease_n L,x_semrelease_b L,x_semrelease_x L,x_semrelease_f L⟩⟩
theorem U7:BI P L.semacquire Extern.Sync.semacquire:=⟨⟨_,H.f_semacquire,x_semacquire_n L,x_semacquire_b L,x_semacquire_x L,x_semacquire_f L⟩⟩
theorem QK:BI P L.inBubble (λ_=>pure (.bool false)):=⟨⟨_,H.f_inBubble,x_inBubble_n L,x_inBubble_b L,x_inBubble_x L,x_inBubble_f L⟩⟩
end
variable {tw:TypeId}
section
variable {P:Program}{F:Fam}{J:Judge P}{Q:GP}{n:Nat}{L L':Env}{ds:Ld_}{k:Li_}{cs:Lf_}{s s':St}{b:Frame}{main:Bool}
theorem Yl.to{o:Oper}{ρ:Operand->Value}{v v':Value}(h:Yl P o ρ s v)(e:v=v'):Yl P o ρ s v':=e▸h
theorem LL{ad:Addr}(aq:KV p=true)(aw:if Fam.CN p=true then s= .quiet else s.q=false)(ay:p≠ .Fc)(az:∀v wt sm,F.act p v wt sm=some ((v,wt,sm),#[],.ph q))(a0:Fam.Jd p s=s)
  (a1:ops[i]? =some ⟨d,.convert t u x,ty,pp,af,g⟩) (U:b.roundOf=none) (hw:AR L ops ⟨d,.convert t u x,ty,pp,af,g⟩=some true) (K:((b.kind != .early)&&Bg n d)=true)
  (V:P.underlying t=some (.pointer tw)) (hu:P.underlying u=some .unsafePointer) (Y:(P.info? tw).map (λi=>decide (i.size=0))=some false) (a2:ev L x=some (.pointer (some ad))) (hb:ad=F.sA∨ad=F.mA)
  (h:JL (AY P (Fam.CB p)) (Stop P F q) b n (As L d (.pointer (some ad))) ds (.inRegion ops rest::k) cs s):
  JL (AY P (Fam.CB p)) (Stop P F p) b n L ds (.inRegion ops (i::rest)::k) cs s:=λT O=>by
 simp only [Bool.and_eq_true] at K
 refine(AY P _).stop (Iw aq rfl rfl aw (λe=>absurd e ay) λv wt sm v' wt' sm' es a4 Z=>?_)
 rw [az] at Z;cases Z
 refine⟨_,λw ac=>?_,rfl,by rw [a0];exact h _ (O.put K.2 _)⟩
 obtain⟨ag,al⟩:∃ag,w.cell? ad=some ag:=by
  obtain⟨c1,c2,_,_⟩:=Iy ac;rcases hb with e | e <;> rw [e]
  ·exact⟨_,c1⟩
  ·exact⟨_,c2⟩
 have am:=run_convert_to_unsafe (P:=P) (w:=w) V hu Y al;have a3:=events_convert_to_unsafe (P:=P) (w:=w) V hu Y al;have ap:execOp (⟨T,ds⟩:Act).eval ⟨d,.convert t u x,ty,pp,af,g⟩=(do pure (Next.value (← Go.convert t u (.pointer (some ad))))):=by
  rw [KG];simp only [execOp,O.ev a2]
 rw [BN U,BN U,stepG_value (a:=⟨T,ds⟩) (v:= .pointer (some ad)) (w':=w) a1 (B6 O hw) (by simpa using K.1) (by rw [ap];simp [am,Result.andThen]),KP ac,DZ];have e2:listed P b.fn ⟨T,ds⟩ ⟨d,.convert t u x,ty,pp,af,g⟩ w= #[]:=by
  unfold listed;rw [ap];simp [am,a3,Result.evThen,seen_none]
 rw [e2]
end
section
variable {P:Program}{F:Fam}{J:Judge P}{Q:GP}{n:Nat}{L L':Env}{ds:Ld_}{k:Li_}{cs:Lf_}{s s':St}{b:Frame}{main:Bool}
def bL(P:Program)(b:Frame)(n:Nat)(L:Env)(d:Option Tmp)(ds:Ld_)(todo:Li_)(cs:Lf_)(U:Frame):Prop:=
 ∀(K:Judge P) (O:GP) (v:Value) (s':St),JL K O b n (As L d v) ds todo cs s'->K.ok O (G (U.finish v) cs) s'
theorem GX{fn:Func}{c:Code}(V:ops[i]? =some ⟨d,.call ⟨.value (.func f),args,ats⟩,ty,pp,af,g⟩)(hw:AR L ops ⟨d,.call ⟨.value (.func f),args,ats⟩,ty,pp,af,g⟩=some true)(O:((b.kind != .early)&&Bg n d)=true)
  (Y:P.funcs[f]? =some fn) (ag:(fn.name== "runtime.NumGoroutine")=false) (hb:fn.body=some c) (al:evs L args.toList=some vs) (a0:vs.length<=fn.ntmps)
  (h:∀Z:Frame,bL P b n L d ds (.inRegion ops rest::k) cs Z->JL J Q (base f) fn.ntmps (F1 0 vs) [] [.code c] (Z::cs) s):
  JL J Q b n L ds (.inRegion ops (i::rest)::k) cs s:=λT U=>by
 simp only [Bool.and_eq_true] at O
 have am:args.map (BA T)=vs.toArray:=by
  rw [← FY U.F2 al];apply Array.ext';simp
 refine Judge.oper V (B6 U hw) (by simpa using O.1) (.inr λc ap=>by cases ap) ?_;have aq:Du P f=true:=by unfold Du;rw [Y];simp [ag,hb]
 have hd:lp P (execOp (BA T) ⟨d,.call ⟨.value (.func f),args,ats⟩,ty,pp,af,g⟩) s (upon J Q b T ds ops i rest k cs d) (K0 J Q b T ds ops i rest k cs):=by
  simp only [execOp,resolve,bind,Sem.bind,Deferred.ofValue,BA,pure,invoke];have e: #[]++args.map (BA T)++ #[]=vs.toArray:=by rw [am];simp
  rw [e];refine IP aq ?_;have he:Frame.enter P f vs.toArray .normal=fr (base f) (vs.toArray++Array.replicate (fn.ntmps - vs.length) undef) [] [.code c]:=by
   simp [Frame.enter,fr,Y,hb,base];rfl
  show J.ok Q (G (Frame.enter P f vs.toArray .normal) _) s;rw [he];refine h _ (λa1 a2 v s' aw=>?_) _ ⟨by simp;omega,λt v ay=>?_⟩
  ·rw [Gf (o:=⟨d,.call ⟨.value (.func f),args,ats⟩,ty,pp,af,g⟩) _ _ _ _ _ V];exact aw _ (U.put O.2 v)
  ·obtain⟨_,K⟩:=Jj ay;have az:t<vs.length:=by
    rcases Nat.lt_or_ge t vs.length with ac | ac
    ·exact ac
    ·simp at K;have:=(List.getElem?_eq_some_iff.1 K).1;omega
   rw [Array.getD_eq_getD_getElem?,Array.getElem?_append_left (by simpa using az)];simp at K;simp [K]
 exact hd
theorem Yl.ext{e:Av_->Sem Value}{v:Value}{ρ:Operand->Value}(he:BI P f e)(O:args.map ρ=vs.toArray)(h:e vs.toArray= .pure v):Yl P ⟨d,.call ⟨.value (.func f),args,ats⟩,ty,pp,af,g⟩ ρ s v∨ρ (.func f)≠ .func (.func f) #[] #[]:=by
 by_cases K:ρ (.func f)= .func (.func f) #[] #[]
 ·left;obtain⟨fn,U,V,Y,Z,ac⟩:=he.h;unfold Yl;simp only [execOp,resolve,bind,Sem.bind,Deferred.ofValue,K,pure,invoke];have ag: #[]++args.map ρ++ #[]=vs.toArray:=by rw [O];simp
  rw [ag];have al:fn.body=none:=by simpa using Y
  simp only [callFunc,bind,Sem.bind,program,lp,U,V,al,Option.isNone_none,Bool.false_eq_true,if_false,if_true,mark,Z,ac,h,pure];exact⟨.inr ⟨f,rfl⟩,trivial,trivial⟩
 ·exact .inr K
theorem JL.ext{e:Av_->Sem Value}{v:Value}(O:ops[i]? =some ⟨d,.call ⟨.value (.func f),args,ats⟩,ty,pp,af,g⟩)(hw:AR L ops ⟨d,.call ⟨.value (.func f),args,ats⟩,ty,pp,af,g⟩=some true)(U:BJ b n ⟨d,.call ⟨.value (.func f),args,ats⟩,ty,pp,af,g⟩=true)
  (he:BI P f e) (V:evs L args.toList=some vs) (Y:e vs.toArray= .pure v) (h:JL J Q b n (As L d v) ds (.inRegion ops rest::k) cs s):JL J Q b n L ds (.inRegion ops (i::rest)::k) cs s:=
 A4 O hw U (λρ K=>by
  have Z:args.map ρ=vs.toArray:=by
   rw [← FY K V]
   apply Array.ext';simp
  rcases Yl.ext (s:=s) (d:=d) (ats:=ats) (ty:=ty) (pp:=pp) (af:=af) (g:=g) he Z Y with q | q
  ·exact q
  ·exact absurd (K (.func f) _ rfl) q) h
end
section
variable {P:Program}{L:WgLink}(H:WgLib P L){F:Fam}{n:Nat}{M:Env}{ds:Ld_}{k:Li_}{cs:Lf_}{s:St}{b:Frame}
include H
theorem W9(K:ops[i]? =some ⟨d,.call ⟨.value (.func L.uAdd),#[x,y],ats⟩,ty,pp,af,g⟩)(hw:AR M ops ⟨d,.call ⟨.value (.func L.uAdd),#[x,y],ats⟩,ty,pp,af,g⟩=some true)(O:((b.kind != .early)&&Bg n d)=true)
  (U:ev M x=some (.pointer (some F.sA))) (V:ev M y=some (.int .u64 18446744069414584320))
  (Y:JL (AY P false) (Stop P F .GD) b n (As M d (.int .u64 (Fam.word 0 1))) ds (.inRegion ops rest::k) cs .quiet)
  (Z:∀v wt:Nat,v<2147483647->wt<=1->¬(v=0/\wt=1)->JL (HZ P) (IH P 1) b n (As M d (.int .u64 (Fam.word v wt))) ds (.inRegion ops rest::k) cs .quiet):
  JL (AY P false) (Stop P F .Ha) b n M ds (.inRegion ops (i::rest)::k) cs .quiet:=by
 refine GX (vs:= [.pointer (some F.sA),.int .u64 18446744069414584320]) K hw O H.f_uAdd (nm_uAdd L) rfl (by simp [evs,U,V]) (Nat.le_of_ble_eq_true rfl) λam back=>JL.go 8 rfl (A4 rfl rfl rfl (λρ h=>Yl.fieldAddr H.underlying_tAU rfl (FX H.sizeOf_tU64) (h _ _ rfl)) ?_);refine JL.go 1 rfl (XN rfl rfl rfl rfl (SM H) rfl rfl ?_ λv wt ac ag al=>?_)
 ·refine A4 rfl rfl rfl (λρ h=>Yl.assign (h _ _ rfl)) (JL.done ?_);exact JL.ret rfl rfl (BB.one H.f_uAdd rfl rfl) (back _ _ _ _ Y)
 ·refine A4 rfl rfl rfl (λρ h=>Yl.assign (h _ _ rfl)) (JL.done ?_);exact JL.ret rfl rfl (BB.one H.f_uAdd rfl rfl) (back _ _ _ _ (Z v wt ac ag al))
theorem Xg{j:Nat}(K:s.q=false)(O:ops[i]? =some ⟨d,.call ⟨.value (.func L.uAdd),#[x,y],ats⟩,ty,pp,af,g⟩)(hw:AR M ops ⟨d,.call ⟨.value (.func L.uAdd),#[x,y],ats⟩,ty,pp,af,g⟩=some true)(U:((b.kind != .early)&&Bg n d)=true)
  (V:ev M x=some (.pointer (some F.sA))) (Y:ev M y=some (.int .u64 4294967296))
  (Z:JL (AY P true) (Stop P F (.Im j)) b n (As M d (.int .u64 (Fam.word 1 0))) ds (.inRegion ops rest::k) cs s)
  (ac:∀v:Nat,1<=v->v<2147483647->JL (AY P true) (Stop P F (.GM j)) b n (As M d (.int .u64 (Fam.word (v+1) 0))) ds (.inRegion ops rest::k) cs s):
  JL (AY P true) (Stop P F (.Ik j)) b n M ds (.inRegion ops (i::rest)::k) cs s:=by
 refine GX (vs:= [.pointer (some F.sA),.int .u64 4294967296]) O hw U H.f_uAdd (nm_uAdd L) rfl (by simp [evs,V,Y]) (Nat.le_of_ble_eq_true rfl) λam back=>JL.go 8 rfl (A4 rfl rfl rfl (λρ h=>Yl.fieldAddr H.underlying_tAU rfl (FX H.sizeOf_tU64) (h _ _ rfl)) ?_);refine JL.go 1 rfl (X9 K rfl rfl rfl rfl (SM H) rfl rfl ?_ λv ag al=>?_)
 ·refine A4 rfl rfl rfl (λρ h=>Yl.assign (h _ _ rfl)) (JL.done ?_);exact JL.ret rfl rfl (BB.one H.f_uAdd rfl rfl) (back _ _ _ _ Z)
 ·refine A4 rfl rfl rfl (λρ h=>Yl.assign (h _ _ rfl)) (JL.done ?_);exact JL.ret rfl rfl (BB.one H.f_uAdd rfl rfl) (back _ _ _ _ (ac v ag al))
theorem JL.uLoad(K:KV p=true)(O:if Fam.CN p=true then s= .quiet else s.q=false)(U:p≠ .Fc)(V:Fam.Jd p s=s)(Y:∀v wt sm r,F.act p v wt sm=some r->r.1=(v,wt,sm)/\r.2.1= #[Fam.Ca F.sA])(Z:ops[i]? =some ⟨d,.call ⟨.value (.func L.uLoad),#[x],ats⟩,ty,pp,af,g⟩)(hw:AR M ops ⟨d,.call ⟨.value (.func L.uLoad),#[x],ats⟩,ty,pp,af,g⟩=some true)(ac:((b.kind != .early)&&Bg n d)=true)
  (ag:ev M x=some (.pointer (some F.sA)))
  (h:∀v wt sm r,F.act p v wt sm=some r->∃q,r.2.2= .ph q/\JL (AY P (Fam.CB p)) (Stop P F q) b n (As M d (.int .u64 (Fam.word v wt))) ds (.inRegion ops rest::k) cs s):
  JL (AY P (Fam.CB p)) (Stop P F p) b n M ds (.inRegion ops (i::rest)::k) cs s:=by
 refine GX (vs:= [.pointer (some F.sA)]) Z hw ac H.f_uLoad (nm_uLoad L) rfl (by simp [evs,ag]) (Nat.le_of_ble_eq_true rfl) λaq back=>JL.go 8 rfl (A4 rfl rfl rfl (λρ h=>Yl.fieldAddr H.underlying_tAU rfl (FX H.sizeOf_tU64) (h _ _ rfl)) ?_);refine ZI K O U V Y rfl rfl rfl rfl (Xl H) rfl λv wt sm r al=>?_;obtain⟨q,am,ap⟩:=h v wt sm r al;refine⟨q,am,?_⟩
 ·refine A4 rfl rfl rfl (λρ h=>Yl.assign (h _ _ rfl)) (JL.done ?_);exact JL.ret rfl rfl (BB.one H.f_uLoad rfl rfl) (back _ _ _ _ ap)
theorem JL.uStore(K:ops[i]? =some ⟨d,.call ⟨.value (.func L.uStore),#[x,y],ats⟩,ty,pp,af,g⟩)(hw:AR M ops ⟨d,.call ⟨.value (.func L.uStore),#[x,y],ats⟩,ty,pp,af,g⟩=some true)(O:((b.kind != .early)&&Bg n d)=true)
  (U:ev M x=some (.pointer (some F.sA))) (V:ev M y=some (.int .u64 0))
  (h:JL (AY P false) (Stop P F .Fc) b n (As M d (.tuple #[])) ds (.inRegion ops rest::k) cs .quiet):
  JL (AY P false) (Stop P F .GZ) b n M ds (.inRegion ops (i::rest)::k) cs .quiet:=by
 refine GX (vs:= [.pointer (some F.sA),.int .u64 0]) K hw O H.f_uStore (nm_uStore L) rfl (by simp [evs,U,V]) (Nat.le_of_ble_eq_true rfl) λY back=>JL.go 3 rfl (A4 rfl rfl rfl (λρ h=>Yl.fieldAddr H.underlying_tAU rfl (FX H.sizeOf_tU64) (h _ _ rfl)) ?_);refine JL.go 1 rfl (Y4 rfl rfl rfl rfl (Wq H) rfl rfl ?_);exact JL.done (JL.fin rfl rfl (BB.none H.f_uStore rfl) (back _ _ _ _ h))
theorem JL.uCas{m:Nat}(K:s.q=false)(O:ops[i]? =some ⟨d,.call ⟨.value (.func L.uCas),#[x,y,z],ats⟩,ty,pp,af,g⟩)(hw:AR M ops ⟨d,.call ⟨.value (.func L.uCas),#[x,y,z],ats⟩,ty,pp,af,g⟩=some true)(U:((b.kind != .early)&&Bg n d)=true)
  (V:ev M x=some (.pointer (some F.sA))) (Y:ev M y=some (.int .u64 (Fam.word m 0))) (Z:ev M z=some (.int .u64 (Fam.word m 1)))
  (ac:JL (AY P true) (Stop P F .Ir) b n (As M d (.bool true)) ds (.inRegion ops rest::k) cs s)
  (ag:JL (AY P true) (Stop P F (.FQ (m - 1))) b n (As M d (.bool false)) ds (.inRegion ops rest::k) cs s):
  JL (AY P true) (Stop P F (.G7 m)) b n M ds (.inRegion ops (i::rest)::k) cs s:=by
 refine GX (vs:= [.pointer (some F.sA),.int .u64 (Fam.word m 0),.int .u64 (Fam.word m 1)]) O hw U H.f_uCas (nm_uCas L) rfl (by simp [evs,V,Y,Z]) (Nat.le_of_ble_eq_true rfl) λal back=>JL.go 8 rfl (A4 rfl rfl rfl (λρ h=>Yl.fieldAddr H.underlying_tAU rfl (FX H.sizeOf_tU64) (h _ _ rfl)) ?_);refine JL.go 2 rfl (ah (m:=m) K rfl rfl rfl rfl (XK H) rfl rfl rfl ?_ ?_)
 ·refine A4 rfl rfl rfl (λρ h=>Yl.assign (h _ _ rfl)) (JL.done ?_);exact JL.ret rfl rfl (BB.one H.f_uCas rfl rfl) (back _ _ _ _ ac)
 ·refine A4 rfl rfl rfl (λρ h=>Yl.assign (h _ _ rfl)) (JL.done ?_);exact JL.ret rfl rfl (BB.one H.f_uCas rfl rfl) (back _ _ _ _ ag)
end
theorem KX{v wt:Nat}(K:v<2147483648)(O:wt<=1):IntKind.u64.wrap (BitVec.ofInt IntKind.u64.bits (Fam.word v wt)&&& BitVec.ofInt IntKind.u64.bits 2147483648).toNat=0:=by
 have:=Go.ConcN.st_flag v wt K O;simpa [bits,Fam.word,Fam.KK] using this
theorem KZ{v wt:Nat}(K:v<2147483648)(O:wt<=1):IntKind.u64.wrap (BitVec.ofInt IntKind.u64.bits (Fam.word v wt)&&& BitVec.ofInt IntKind.u64.bits 2147483647).toNat=(wt:Int):=by
 have:=Go.ConcN.st_waiters v wt K O;simpa [bits,Fam.word,Fam.KK] using this
theorem KM{v wt:Nat}(K:wt<=1):(Fam.word v wt).fdiv (2 ^ (min (32:Int).toNat IntKind.u64.bits))=(v:Int):=by
 have e:(2:Int) ^ (min (32:Int).toNat IntKind.u64.bits)=4294967296:=by decide
 rw [e,Int.fdiv_eq_ediv_of_nonneg _ (by decide)];simp only [Fam.word,Fam.KK];omega
theorem wrap_i32{v:Nat}(K:v<2147483648):IntKind.i32.wrap (v:Int)=v:=by
 simp only [IntKind.wrap,IntKind.bits,IntKind.signed];simp;split <;> omega
theorem wrap_u32{v:Nat}(K:v<=1):IntKind.u32.wrap (v:Int)=v:=by
 simp only [IntKind.wrap,IntKind.bits,IntKind.signed];simp;omega
theorem Wj{F:Fam}:∀v wt sm r,F.act .GD v wt sm=some r->r.1=(v,wt,sm)/\r.2.1= #[Fam.Ca F.sA]:=by
 intro v wt sm r h;simp only [Fam.act] at h;split at h
 ·rename_i K;obtain⟨rfl,rfl⟩:=K;cases h;exact⟨V,V⟩
 ·cases h
theorem WZ{F:Fam}{v wt sm:Nat}{r}(h:F.act .GD v wt sm=some r):v=0/\wt=1/\r.2.2= .ph .GZ:=by
 simp only [Fam.act] at h;split at h
 ·rename_i K;cases h;exact⟨K.1,K.2,V⟩
 ·cases h
section
variable {P:Program}{L:WgLink}(H:WgLib P L){F:Fam}{n:Nat}{M:Env}{ds:Ld_}{k:Li_}{cs:Lf_}{s:St}{b:Frame}
include H
theorem VV(U:s.q=false)(V:ops[i]? =some ⟨d,.call ⟨.value (.func L.add),#[x,y],ats⟩,ty,pp,af,g⟩)(hw:AR M ops ⟨d,.call ⟨.value (.func L.add),#[x,y],ats⟩,ty,pp,af,g⟩=some true)(Y:((b.kind != .early)&&Bg n d)=true)
  (Z:ev M x=some (.pointer (some F.sA))) (ac:ev M y=some (.int .i64 (-1)))
  (h:JL (HZ P) (IH P 0) b n (As M d (.tuple #[])) ds (.inRegion ops rest::k) cs .quiet):
  JL (AY P false) (Stop P F .HK) b n M ds (.inRegion ops (i::rest)::k) cs s:=by
 refine GX (vs:= [.pointer (some F.sA),.int .i64 (-1)]) V hw Y H.f_add (nm_add L) rfl (by simp [evs,Z,ac]) (Nat.le_of_ble_eq_true rfl) λal back=>JL.go 11 rfl (LL (p:= .HK) (q:= .Gm) (ad:=F.sA) rfl U (by simp) (λ_ _ _=>rfl) rfl rfl rfl rfl rfl H.underlying_tWgP H.underlying_tUP H.room_tWg rfl (.inl rfl) ?_)
 refine Oo (p:= .Gm) (q:= .IF) (mk:= .releaseMerge) (ad:=F.sA) (vs:= [.pointer (some F.sA)]) rfl U (by simp) (λ_ _ _=>rfl) rfl rfl rfl rfl (by simp) (Qu H) rfl rfl (JL.go 3 rfl ?_);refine LJ (p:= .IF) (q:= .Ha) rfl rfl (by simp) (λ_ _ _=>rfl) rfl rfl rfl rfl rfl (by simp) (MB H) (JL.go 2 rfl ?_);refine JL.defer (vs:= []) rfl rfl rfl rfl rfl (JL.go 8 rfl ?_);refine JL.ext (vs:= []) rfl rfl rfl (QK H) rfl rfl (JL.go 7 rfl ?_);refine A4 rfl rfl rfl (λρ h=>Yl.fieldAddr H.underlying_tWg rfl (FX H.sizeOf_tAU) (h _ _ rfl)) (JL.go 1 rfl ?_);refine A4 rfl rfl rfl (λρ h=>Fj H.underlying_t3 H.underlying_tU64 (h _ _ rfl)) ?_
 refine A4 (v:= .int .u64 18446744069414584320) rfl rfl rfl (λρ h=>(Yl.shl (h _ _ rfl) (h _ _ rfl) (by decide)).to (congrArg _ (by decide))) (W9 H rfl rfl rfl rfl rfl ?_ λv wt am K ap=>?_)
 ·refine A4 rfl rfl rfl (λρ h=>Yl.assign (h _ _ rfl)) (JL.go 5 rfl ?_);refine A4 (v:= .int .u64 0) rfl rfl rfl (λρ h=>(Yl.and (h _ _ rfl) (h _ _ rfl)).to (congrArg _ (KX (v:=0) (wt:=1) (by decide) (by decide)))) (A4 rfl rfl rfl (λρ h=>Yl.neq (h _ _ rfl) (h _ _ rfl)) ?_);refine JL.go 10 rfl (A4 (v:= .int .u64 (0:Nat)) rfl rfl rfl (λρ h=>(Yl.shr (h _ _ rfl) (h _ _ rfl) (by decide)).to (congrArg _ (KM (v:=0) (wt:=1) (by decide)))) ?_);refine A4 (v:= .int .i32 (0:Nat)) rfl rfl rfl (λρ h=>(Fj H.underlying_tU64 H.underlying_t21 (h _ _ rfl)).to (congrArg _ (wrap_i32 (by decide)))) ?_
  refine JL.go 5 rfl (A4 (v:= .int .u64 (1:Nat)) rfl rfl rfl (λρ h=>(Yl.and (h _ _ rfl) (h _ _ rfl)).to (congrArg _ (KZ (v:=0) (wt:=1) (by decide) (by decide)))) ?_);refine A4 (v:= .int .u32 (1:Nat)) rfl rfl rfl (λρ h=>(Fj H.underlying_tU64 H.underlying_tU32 (h _ _ rfl)).to (congrArg _ (wrap_u32 (by decide)))) ?_
  refine JL.go 30 rfl (A4 rfl rfl rfl (λρ h=>Yl.neq (h _ _ rfl) (h _ _ rfl)) ?_);refine JL.go 30 rfl (A4 rfl rfl rfl (λρ h=>Yl.fieldAddr H.underlying_tWg rfl (FX H.sizeOf_tAU) (h _ _ rfl)) ?_);refine JL.uLoad H (p:= .GD) rfl rfl (by simp) rfl Wj rfl rfl rfl rfl λv wt sm r ag=>?_;obtain⟨rfl,rfl,e⟩:=WZ ag;refine⟨.GZ,e,?_⟩;refine JL.go 1 rfl (A4 (v:= .bool false) rfl rfl rfl (λρ h=>(Yl.neq (h _ _ rfl) (h _ _ rfl)).to (by simp)) ?_);refine JL.go 7 rfl (A4 rfl rfl rfl (λρ h=>Yl.fieldAddr H.underlying_tWg rfl (FX H.sizeOf_tAU) (h _ _ rfl)) ?_);refine JL.uStore H rfl rfl rfl rfl rfl (JL.go 9 rfl ?_);refine HX (JL.go 4 rfl ?_);refine A4 rfl rfl rfl (λρ h=>Yl.neq (h _ _ rfl) (h _ _ rfl)) (JL.go 8 rfl ?_);refine A4 rfl rfl rfl (λρ h=>Yl.fieldAddr H.underlying_tWg rfl (FX H.sizeOf_tU32) (h _ _ rfl)) (Xn (vs:= [.pointer (some F.mA),.bool false,.int .i64 0]) rfl rfl rfl rfl (Wn H) rfl rfl ?_);refine JL.go 4 rfl (A4 (v:= .int .u32 ((0:Nat):Int)) rfl rfl rfl (λρ h=>(Yl.sub (h _ _ rfl) (h _ _ rfl)).to (congrArg _ (by decide))) ?_);refine JL.go 2 rfl (JL.again ?_);refine JL.go 4 rfl (A4 rfl rfl rfl (λρ h=>Yl.neq (h _ _ rfl) (h _ _ rfl)) ?_);refine JL.go 3 rfl (JL.out rfl (JO.M6 rfl (IS H) (JO.leave rfl (BB.none H.f_add rfl) (back _ _ _ _ h))))
 ·refine A4 rfl rfl rfl (λρ h=>Yl.assign (h _ _ rfl)) (JL.go 5 rfl ?_);refine A4 (v:= .int .u64 0) rfl rfl rfl (λρ h=>(Yl.and (h _ _ rfl) (h _ _ rfl)).to (congrArg _ (KX (v:=v) (wt:=wt) (by omega) K))) (A4 rfl rfl rfl (λρ h=>Yl.neq (h _ _ rfl) (h _ _ rfl)) ?_);refine JL.go 10 rfl (A4 (v:= .int .u64 (v:Nat)) rfl rfl rfl (λρ h=>(Yl.shr (h _ _ rfl) (h _ _ rfl) (by decide)).to (congrArg _ (KM (v:=v) (wt:=wt) K))) ?_);refine A4 (v:= .int .i32 (v:Nat)) rfl rfl rfl (λρ h=>(Fj H.underlying_tU64 H.underlying_t21 (h _ _ rfl)).to (congrArg _ (wrap_i32 (by omega)))) ?_
  refine JL.go 5 rfl (A4 (v:= .int .u64 (wt:Nat)) rfl rfl rfl (λρ h=>(Yl.and (h _ _ rfl) (h _ _ rfl)).to (congrArg _ (KZ (v:=v) (wt:=wt) (by omega) K))) ?_);refine A4 (v:= .int .u32 (wt:Nat)) rfl rfl rfl (λρ h=>(Fj H.underlying_tU64 H.underlying_tU32 (h _ _ rfl)).to (congrArg _ (wrap_u32 K))) ?_
  refine JL.go 22 rfl (A4 (v:= .bool false) rfl rfl rfl (λρ h=>(Yl.lss (h _ _ rfl) (h _ _ rfl)).to (by simp)) ?_);refine JL.go 6 rfl ?_;by_cases O:wt=0
  ·refine A4 rfl rfl rfl (λρ h=>Yl.move (h _ _ rfl)) (A4 (v:= .bool false) rfl rfl rfl (λρ h=>(Yl.neq (h _ _ rfl) (h _ _ rfl)).to (by simp [O])) ?_);refine JL.go 16 rfl ?_;by_cases aq:0<v
   ·refine A4 rfl rfl rfl (λρ h=>Yl.move (h _ _ rfl)) (A4 (v:= .bool true) rfl rfl rfl (λρ h=>(Yl.gtr (h _ _ rfl) (h _ _ rfl)).to (by simp <;> omega)) ?_);refine JL.go 6 rfl (GR rfl (JO.M6 rfl (IS H) (JO.leave rfl (BB.none H.f_add rfl) (back _ _ _ _ h))))
   ·refine A4 rfl rfl rfl (λρ h=>Yl.move (h _ _ rfl)) (A4 (v:= .bool false) rfl rfl rfl (λρ h=>(Yl.gtr (h _ _ rfl) (h _ _ rfl)).to (by simp <;> omega)) ?_);refine JL.go 2 rfl (A4 (v:= .bool true) rfl rfl rfl (λρ h=>(Yl.eql (h _ _ rfl) (h _ _ rfl)).to (by simp [O])) ?_);refine JL.go 3 rfl (GR rfl (JO.M6 rfl (IS H) (JO.leave rfl (BB.none H.f_add rfl) (back _ _ _ _ h))))
  ·refine A4 rfl rfl rfl (λρ h=>Yl.move (h _ _ rfl)) (A4 (v:= .bool true) rfl rfl rfl (λρ h=>(Yl.neq (h _ _ rfl) (h _ _ rfl)).to (by simp [O])) ?_);refine JL.go 17 rfl (A4 (v:= .bool true) rfl rfl rfl (λρ h=>(Yl.gtr (h _ _ rfl) (h _ _ rfl)).to (by simp <;> omega)) ?_);refine JL.go 6 rfl (GR rfl (JO.M6 rfl (IS H) (JO.leave rfl (BB.none H.f_add rfl) (back _ _ _ _ h))))
theorem Wa{j:Nat}(K:s.q=false)(O:ops[i]? =some ⟨d,.call ⟨.value (.func L.add),#[x,y],ats⟩,ty,pp,af,g⟩)(hw:AR M ops ⟨d,.call ⟨.value (.func L.add),#[x,y],ats⟩,ty,pp,af,g⟩=some true)(U:((b.kind != .early)&&Bg n d)=true)
  (V:ev M x=some (.pointer (some F.sA))) (Y:ev M y=some (.int .i64 1))
  (h:JL (AY P true) (Stop P F (.FG j)) b n (As M d (.tuple #[])) ds (.inRegion ops rest::k) cs s):
  JL (AY P true) (Stop P F (.F3 j)) b n M ds (.inRegion ops (i::rest)::k) cs s:=by
 refine GX (vs:= [.pointer (some F.sA),.int .i64 1]) O hw U H.f_add (nm_add L) rfl (by simp [evs,V,Y]) (Nat.le_of_ble_eq_true rfl) λZ back=>JL.go 12 rfl (LJ (p:= .F3 j) (q:= .Ik j) rfl K (by simp) (λ_ _ _=>rfl) rfl rfl rfl rfl rfl (by simp) (MB H) ?_);refine JL.go 2 rfl (JL.defer (vs:= []) rfl rfl rfl rfl rfl ?_);refine JL.go 8 rfl (JL.ext (vs:= []) rfl rfl rfl (QK H) rfl rfl ?_);refine JL.go 7 rfl (A4 rfl rfl rfl (λρ h=>Yl.fieldAddr H.underlying_tWg rfl (FX H.sizeOf_tAU) (h _ _ rfl)) ?_);refine JL.go 1 rfl (A4 rfl rfl rfl (λρ h=>Fj H.underlying_t3 H.underlying_tU64 (h _ _ rfl)) ?_)
 refine A4 (v:= .int .u64 4294967296) rfl rfl rfl (λρ h=>(Yl.shl (h _ _ rfl) (h _ _ rfl) (by decide)).to (congrArg _ (by decide))) (Xg H K rfl rfl rfl rfl rfl ?_ λv ac ag=>?_)
 ·refine A4 rfl rfl rfl (λρ h=>Yl.assign (h _ _ rfl)) (JL.go 5 rfl ?_);refine A4 (v:= .int .u64 0) rfl rfl rfl (λρ h=>(Yl.and (h _ _ rfl) (h _ _ rfl)).to (congrArg _ (KX (v:=1) (wt:=0) (by decide) (by decide)))) (A4 rfl rfl rfl (λρ h=>Yl.neq (h _ _ rfl) (h _ _ rfl)) ?_);refine JL.go 10 rfl (A4 (v:= .int .u64 (1:Nat)) rfl rfl rfl (λρ h=>(Yl.shr (h _ _ rfl) (h _ _ rfl) (by decide)).to (congrArg _ (KM (v:=1) (wt:=0) (by decide)))) ?_);refine A4 (v:= .int .i32 (1:Nat)) rfl rfl rfl (λρ h=>(Fj H.underlying_tU64 H.underlying_t21 (h _ _ rfl)).to (congrArg _ (wrap_i32 (by decide)))) ?_
  refine JL.go 5 rfl (A4 (v:= .int .u64 (0:Nat)) rfl rfl rfl (λρ h=>(Yl.and (h _ _ rfl) (h _ _ rfl)).to (congrArg _ (KZ (v:=1) (wt:=0) (by decide) (by decide)))) ?_);refine A4 (v:= .int .u32 (0:Nat)) rfl rfl rfl (λρ h=>(Fj H.underlying_tU64 H.underlying_tU32 (h _ _ rfl)).to (congrArg _ (wrap_u32 (by decide)))) ?_
  refine JL.go 12 rfl (A4 (v:= .int .i32 1) rfl rfl rfl (λρ h=>(Fj H.underlying_t3 H.underlying_t21 (h _ _ rfl)).to (congrArg _ (by decide))) ?_)
  refine A4 (v:= .bool true) rfl rfl rfl (λρ h=>(Yl.eql (h _ _ rfl) (h _ _ rfl)).to (by simp)) (JL.go 6 rfl ?_);refine A4 rfl rfl rfl (λρ h=>Yl.fieldAddr H.underlying_tWg rfl (FX H.sizeOf_tU32) (h _ _ rfl)) (LL (p:= .Im j) (q:= .HE j) (ad:=F.mA) rfl K (by simp) (λ_ _ _=>rfl) rfl rfl rfl rfl rfl H.underlying_tPU32 H.underlying_tUP H.room_tU32 rfl (.inr rfl) ?_)
  refine Oo (p:= .HE j) (q:= .GM j) (mk:= .read) (ad:=F.mA) (vs:= [.pointer (some F.mA)]) rfl K (by simp) (λ_ _ _=>rfl) rfl rfl rfl rfl (by simp) (W7 H) rfl rfl (JL.go 5 rfl ?_);refine A4 (v:= .bool false) rfl rfl rfl (λρ h=>(Yl.lss (h _ _ rfl) (h _ _ rfl)).to (by simp)) (JL.go 7 rfl ?_);refine A4 (v:= .bool false) rfl rfl rfl (λρ h=>(Yl.neq (h _ _ rfl) (h _ _ rfl)).to (by simp)) (JL.go 17 rfl ?_);refine A4 (v:= .bool true) rfl rfl rfl (λρ h=>(Yl.gtr (h _ _ rfl) (h _ _ rfl)).to (by simp)) (JL.go 6 rfl ?_);exact GR rfl (JO.Sf K rfl (IS H) (JO.leave rfl (BB.none H.f_add rfl) (back _ _ _ _ h)))
 ·refine A4 rfl rfl rfl (λρ h=>Yl.assign (h _ _ rfl)) (JL.go 5 rfl ?_);refine A4 (v:= .int .u64 0) rfl rfl rfl (λρ h=>(Yl.and (h _ _ rfl) (h _ _ rfl)).to (congrArg _ (KX (v:=(v+1)) (wt:=0) (by omega) (by decide)))) (A4 rfl rfl rfl (λρ h=>Yl.neq (h _ _ rfl) (h _ _ rfl)) ?_);refine JL.go 10 rfl (A4 (v:= .int .u64 ((v+1):Nat)) rfl rfl rfl (λρ h=>(Yl.shr (h _ _ rfl) (h _ _ rfl) (by decide)).to (congrArg _ (KM (v:=(v+1)) (wt:=0) (by decide)))) ?_);refine A4 (v:= .int .i32 ((v+1):Nat)) rfl rfl rfl (λρ h=>(Fj H.underlying_tU64 H.underlying_t21 (h _ _ rfl)).to (congrArg _ (wrap_i32 (by omega)))) ?_
  refine JL.go 5 rfl (A4 (v:= .int .u64 (0:Nat)) rfl rfl rfl (λρ h=>(Yl.and (h _ _ rfl) (h _ _ rfl)).to (congrArg _ (KZ (v:=(v+1)) (wt:=0) (by omega) (by decide)))) ?_);refine A4 (v:= .int .u32 (0:Nat)) rfl rfl rfl (λρ h=>(Fj H.underlying_tU64 H.underlying_tU32 (h _ _ rfl)).to (congrArg _ (wrap_u32 (by decide)))) ?_
  refine JL.go 12 rfl (A4 (v:= .int .i32 1) rfl rfl rfl (λρ h=>(Fj H.underlying_t3 H.underlying_t21 (h _ _ rfl)).to (congrArg _ (by decide))) ?_)
  refine A4 (v:= .bool false) rfl rfl rfl (λρ h=>(Yl.eql (h _ _ rfl) (h _ _ rfl)).to (by simp <;> omega)) (JL.go 8 rfl ?_);refine A4 (v:= .bool false) rfl rfl rfl (λρ h=>(Yl.lss (h _ _ rfl) (h _ _ rfl)).to (by simp <;> omega)) (JL.go 7 rfl ?_);refine A4 (v:= .bool false) rfl rfl rfl (λρ h=>(Yl.neq (h _ _ rfl) (h _ _ rfl)).to (by simp)) (JL.go 17 rfl ?_);refine A4 (v:= .bool true) rfl rfl rfl (λρ h=>(Yl.gtr (h _ _ rfl) (h _ _ rfl)).to (by simp <;> omega)) (JL.go 6 rfl ?_);exact GR rfl (JO.Sf K rfl (IS H) (JO.leave rfl (BB.none H.f_add rfl) (back _ _ _ _ h)))
omit H in
theorem VY{m:Nat}:∀v wt sm r,F.act (.FQ m) v wt sm=some r->r.1=(v,wt,sm)/\r.2.1= #[Fam.Ca F.sA]:=by
 intro v wt sm r h;simp only [Fam.act] at h;split at h
 ·rename_i K;obtain⟨_,rfl⟩:=K;cases h;exact⟨V,V⟩
 ·cases h
omit H in
theorem Xz{m v wt sm:Nat}{r}(h:F.act (.FQ m) v wt sm=some r):v<=m/\wt=0/\r.2.2=if v=0 then .ph .FW else .ph (.G7 v):=by
 simp only [Fam.act] at h;split at h
 ·rename_i K;cases h;exact⟨K.1,K.2,V⟩
 ·cases h
omit H in
theorem Vo:∀v wt sm r,F.act .G0 v wt sm=some r->r.1=(v,wt,sm)/\r.2.1= #[Fam.Ca F.sA]:=by
 intro v wt sm r h;simp only [Fam.act] at h;split at h
 ·rename_i K;obtain⟨rfl,rfl⟩:=K;cases h;exact⟨V,V⟩
 ·cases h
omit H in
theorem V5{v wt sm:Nat}{r}(h:F.act .G0 v wt sm=some r):v=0/\wt=0/\r.2.2= .ph .FW:=by
 simp only [Fam.act] at h;split at h
 ·rename_i K;cases h;exact⟨K.1,K.2,V⟩
 ·cases h
omit H in
theorem VX{v:Nat}(K:v<2147483648):IntKind.u64.wrap (Fam.word v 0+1)=Fam.word v 1:=by
 simp only [Fam.word,Fam.KK,IntKind.wrap,IntKind.bits,IntKind.signed];simp;omega
theorem JL.wait(am:F.n<2147483648)(K:s.q=false)(ap:ops[i]? =some ⟨d,.call ⟨.value (.func L.wait),#[x],ats⟩,ty,pp,af,g⟩)(hw:AR M ops ⟨d,.call ⟨.value (.func L.wait),#[x],ats⟩,ty,pp,af,g⟩=some true)(aq:((b.kind != .early)&&Bg n d)=true)
  (aw:ev M x=some (.pointer (some F.sA)))
  {Q:GP} (ag:∀g s,(Gi P).ok Q g s->F.fin g s)
  (h:∀E' f,Le s.E E'->E' F.fd=none->(∀b,E' b≠none->s.H b=none)->(∀k,k<F.n->F.msg k (f k) E')->JL (Gi P) Q b n (As M d (.tuple #[])) ds (.inRegion ops rest::k) cs ⟨E',F.Jw s.H f,false⟩):
  JL (AY P true) (Stop P F .Dl) b n M ds (.inRegion ops (i::rest)::k) cs s:=by
 refine GX (vs:= [.pointer (some F.sA)]) ap hw aq H.f_wait (nm_wait L) rfl (by simp [evs,aw]) (Nat.le_of_ble_eq_true rfl) λa0 back=>JL.go 3 rfl (LJ (p:= .Dl) (q:= .FQ F.n) rfl K (by simp) (λ_ _ _=>rfl) rfl rfl rfl rfl rfl (by simp) (MB H) ?_);refine JL.go 2 rfl (HX ?_);refine EO (L':= [(0,.pointer (some F.sA))]) ⟨rfl,trivial⟩ ?_;generalize F.n=m at am ⊢
 induction m using Nat.strongRecOn with
 | _ m ay=>?_
 refine JL.go 5 rfl (A4 rfl rfl rfl (λρ h=>Yl.fieldAddr H.underlying_tWg rfl (FX H.sizeOf_tAU) (h _ _ rfl)) ?_);refine JL.uLoad H (p:= .FQ m) rfl K (by simp) rfl VY rfl rfl rfl rfl λv wt sm r U=>?_;obtain⟨a1,rfl,e⟩:=Xz U;have O:v<2147483648:=by omega
 by_cases al:v=0
 ·subst al;refine⟨.FW,e,?_⟩;refine JL.go 5 rfl (A4 (v:= .int .u64 (0:Nat)) rfl rfl rfl (λρ h=>(Yl.shr (h _ _ rfl) (h _ _ rfl) (by decide)).to (congrArg _ (KM (v:=0) (wt:=0) (by decide)))) ?_);refine A4 (v:= .int .i32 (0:Nat)) rfl rfl rfl (λρ h=>(Fj H.underlying_tU64 H.underlying_t21 (h _ _ rfl)).to (congrArg _ (wrap_i32 (by decide)))) ?_
  refine JL.go 5 rfl (A4 (v:= .int .u64 ((0:Nat):Int)) rfl rfl rfl (λρ h=>(Yl.and (h _ _ rfl) (h _ _ rfl)).to (congrArg _ (KZ (v:=0) (wt:=0) (by decide) (by decide)))) ?_);refine A4 (v:= .int .u32 ((0:Nat):Int)) rfl rfl rfl (λρ h=>(Fj H.underlying_tU64 H.underlying_tU32 (h _ _ rfl)).to (congrArg _ (wrap_u32 (by decide)))) ?_
  refine JL.go 6 rfl (A4 (v:= .bool true) rfl rfl rfl (λρ h=>(Yl.eql (h _ _ rfl) (h _ _ rfl)).to (by simp)) ?_);refine JL.go 6 rfl (LJ (p:= .FW) (q:= .Ij) rfl K (by simp) (λ_ _ _=>rfl) rfl rfl rfl rfl rfl (by simp) (IS H) ?_);refine JL.go 3 rfl (LL (p:= .Ij) (q:= .F5) (ad:=F.sA) rfl K (by simp) (λ_ _ _=>rfl) rfl rfl rfl rfl rfl H.underlying_tWgP H.underlying_tUP H.room_tWg rfl (.inl rfl) ?_)
  refine Sl (vs:= [.pointer (some F.sA)]) K rfl rfl rfl rfl (Od H) rfl rfl λE' V z1 Y Z ac T az=>ag _ _ ?_;revert T;refine(?_:JL (Gi P) Q _ _ _ _ _ _ _);refine JL.go 5 rfl (A4 (v:= .bool true) rfl rfl rfl (λρ h=>(Yl.eql (h _ _ rfl) (h _ _ rfl)).to (by simp)) ?_);refine JL.go 2 rfl (A4 (v:= .int .u64 0) rfl rfl rfl (λρ h=>(Yl.and (h _ _ rfl) (h _ _ rfl)).to (congrArg _ (KX (v:=0) (wt:=0) (by decide) (by decide)))) ?_);refine A4 (v:= .bool false) rfl rfl rfl (λρ h=>(Yl.neq (h _ _ rfl) (h _ _ rfl)).to (by simp)) (JL.go 8 rfl ?_);exact JL.ret rfl rfl (BB.none H.f_wait rfl) (back _ _ _ _ (h E' V z1 Y Z ac))
 ·refine⟨.G7 v,by rw [e,if_neg al],?_⟩;refine JL.go 5 rfl (A4 (v:= .int .u64 (v:Nat)) rfl rfl rfl (λρ h=>(Yl.shr (h _ _ rfl) (h _ _ rfl) (by decide)).to (congrArg _ (KM (v:=v) (wt:=0) (by decide)))) ?_);refine A4 (v:= .int .i32 (v:Nat)) rfl rfl rfl (λρ h=>(Fj H.underlying_tU64 H.underlying_t21 (h _ _ rfl)).to (congrArg _ (wrap_i32 O))) ?_
  refine JL.go 5 rfl (A4 (v:= .int .u64 ((0:Nat):Int)) rfl rfl rfl (λρ h=>(Yl.and (h _ _ rfl) (h _ _ rfl)).to (congrArg _ (KZ (v:=v) (wt:=0) O (by decide)))) ?_);refine A4 (v:= .int .u32 ((0:Nat):Int)) rfl rfl rfl (λρ h=>(Fj H.underlying_tU64 H.underlying_tU32 (h _ _ rfl)).to (congrArg _ (wrap_u32 (by decide)))) ?_
  refine JL.go 6 rfl (A4 (v:= .bool false) rfl rfl rfl (λρ h=>(Yl.eql (h _ _ rfl) (h _ _ rfl)).to (by simp <;> omega)) ?_);refine JL.go 7 rfl (A4 rfl rfl rfl (λρ h=>Yl.fieldAddr H.underlying_tWg rfl (FX H.sizeOf_tAU) (h _ _ rfl)) ?_);refine JL.go 2 rfl (A4 (v:= .int .u64 (Fam.word v 1)) rfl rfl rfl (λρ h=>(Yl.add (h _ _ rfl) (h _ _ rfl)).to (congrArg _ (VX O))) ?_);refine JL.uCas H (m:=v) K rfl rfl rfl rfl rfl rfl ?_ ?_
  ·refine JL.done (JL.go 6 rfl ?_);refine A4 (v:= .bool true) rfl rfl rfl (λρ h=>(Yl.eql (h _ _ rfl) (h _ _ rfl)).to (by simp)) (JL.go 6 rfl ?_);refine A4 rfl rfl rfl (λρ h=>Yl.fieldAddr H.underlying_tWg rfl (FX H.sizeOf_tU32) (h _ _ rfl)) (LL (p:= .Ir) (q:= .HO) (ad:=F.mA) rfl K (by simp) (λ_ _ _=>rfl) rfl rfl rfl rfl rfl H.underlying_tPU32 H.underlying_tUP H.room_tU32 rfl (.inr rfl) ?_)
   refine Oo (p:= .HO) (q:= .Fs) (mk:= .write) (ad:=F.mA) (vs:= [.pointer (some F.mA)]) rfl K (by simp) (λ_ _ _=>rfl) rfl rfl rfl rfl (by simp) (VZ H) rfl rfl (JL.go 9 rfl ?_);refine A4 (v:= .int .u64 0) rfl rfl rfl (λρ h=>(Yl.and (h _ _ rfl) (h _ _ rfl)).to (congrArg _ (KX (v:=v) (wt:=0) O (by decide)))) (A4 (v:= .bool false) rfl rfl rfl (λρ h=>(Yl.neq (h _ _ rfl) (h _ _ rfl)).to (by simp)) ?_);refine JL.go 10 rfl (A4 rfl rfl rfl (λρ h=>Yl.fieldAddr H.underlying_tWg rfl (FX H.sizeOf_tU32) (h _ _ rfl)) ?_);refine JL.go 1 rfl (Vk (vs:= [.pointer (some F.mA),.bool false]) K rfl rfl rfl rfl (U7 H) rfl rfl ?_);refine JL.go 5 rfl (A4 rfl rfl rfl (λρ h=>Yl.fieldAddr H.underlying_tWg rfl (FX H.sizeOf_tAU) (h _ _ rfl)) ?_);refine JL.uLoad H (p:= .G0) rfl K (by simp) rfl Vo rfl rfl rfl rfl λv wt sm r U=>?_;obtain⟨rfl,rfl,e⟩:=V5 U;refine⟨.FW,e,?_⟩;refine A4 (v:= .bool false) rfl rfl rfl (λρ h=>(Yl.neq (h _ _ rfl) (h _ _ rfl)).to (by simp [Fam.word])) (JL.go 6 rfl ?_);refine LJ (p:= .FW) (q:= .Ij) rfl K (by simp) (λ_ _ _=>rfl) rfl rfl rfl rfl rfl (by simp) (IS H) (JL.go 3 rfl ?_);refine LL (p:= .Ij) (q:= .F5) (ad:=F.sA) rfl K (by simp) (λ_ _ _=>rfl) rfl rfl rfl rfl rfl H.underlying_tWgP H.underlying_tUP H.room_tWg rfl (.inl rfl) ?_
   refine Sl (vs:= [.pointer (some F.sA)]) K rfl rfl rfl rfl (Od H) rfl rfl λE' V z1 Y Z ac T az=>ag _ _ ?_;revert T;refine(?_:JL (Gi P) Q _ _ _ _ _ _ _);exact JL.go 8 rfl (JL.ret rfl rfl (BB.none H.f_wait rfl) (back _ _ _ _ (h E' V z1 Y Z ac)))
  ·refine JL.done (JL.go 3 rfl ?_);refine JL.again (EO (L':= [(0,.pointer (some F.sA))]) ⟨rfl,trivial⟩ ?_);exact ay (v - 1) (by omega) (by omega)
theorem JO.aE(K:b.roundOf=none)(O:s.q=false)(h:JO (HZ P) (IH P 0) b n M ds cs .quiet):
  JO (AY P false) (Stop P F .HK) b n M (dcall L.done #[.pointer (some F.sA)]::ds) cs s:=by
 refine JO.enter (vs:= [.pointer (some F.sA)]) K H.f_done (nm_done L) V (Nat.le_of_ble_eq_true V) λT U todo=>JL.go 2 V (VV H O V V V V V ?_);exact JL.done (JL.out V (JO.leaveD V H.f_done V (.inl V) (h T U todo)))
end
end Pal
namespace Pal
open Go Go.Conc
variable {P:Program}{J:Judge P}{Q:Gs_}{g:Goroutine}{cs:Lf_}{c:Frame}{E:LH}{S S':List Seg}
section
variable {H:LH}
theorem M8(K:S.flatten.Perm S'.flatten)(O:Ap E H S)(h:Ap E H S'->J.ok Q g (Aj E H S')):J.ok Q g (Aj E H S):=by
 have U:Aj E H S=Aj E H S':=Fi O K;rw [U];exact h (Nd.perm O K)
theorem O2(K:S'.flatten=S.flatten)(O:Ap E H S)(h:Ap E H S'->J.ok Q g (Aj E H S')):J.ok Q g (Aj E H S):=M8 (by rw [K]) O h
theorem Xv{f:FuncId}{vs:Lv_}{seg:Seg}{R:Value->LH->Seg->Prop}(j:Nat)(ag:AM J f vs E seg R)(K:Ap E H S)(O:S[j]? =some seg)
  (al:∀v E' seg',Le E E'->R v E' seg'->Ap E' H (S.set j seg')->J.ok Q (G (c.finish v) cs) (Aj E' H (S.set j seg'))):
  J.ok Q (G (Frame.enter P f vs.toArray .normal) (c::cs)) (Aj E H S):=by
 have U:S.flatten.Perm (seg++(S.set j []).flatten):=(Ey (seg':=seg) O).1.trans List.perm_append_comm;have V:Nd E H (seg++(S.set j []).flatten):=Nd.perm K U;have am:Aj E H S=mk E (Bl (S.set j []).flatten H) seg:=by
  rw [show Aj E H S=mk E H S.flatten from rfl,Fi K U];unfold mk;rw [FZ]
 have Y:=EF.La (ag (Bl (S.set j []).flatten H) (Nd.front V)) (by rintro v s' ⟨E',B',_,_,_,rfl⟩;rfl);rw [← am] at Y;refine Y Q c cs ?_;rintro v a4 ⟨⟨E',B',hle,ap,aq,rfl⟩,w,aw⟩;have e2:mk E' (Bl (S.set j []).flatten H) B'=mk E' H (B'++(S.set j []).flatten):=by unfold mk;rw [FZ]
 have ay:Nd E H (S.set j []).flatten:=by
  have:=V;rw [Nd.iff] at this ⊢;rw [List.map_append,List.nodup_append] at this;exact⟨this.1.2.1,λq az=>this.2 q (List.mem_append_right _ az)⟩
 have a0:Nd E' H (S.set j []).flatten:=ay.grow λx a1=>by
  have a2:=aw.d x a1;have a3:Bl B' (Bl (S.set j []).flatten H) x=none:=a2;exact(HU a3).1
 have Z:Nd E' H (B'++(S.set j []).flatten):=Nd.glue aq a0;rw [e2];have ac:(B'++(S.set j []).flatten).Perm (S.set j B').flatten:=List.perm_append_comm.trans (Ey O).2.symm;rw [Fi Z ac];exact al v E' B' hle ap (Nd.perm Z ac)
end
variable {L:Env}{ds:Ld_}{k:Li_}{ops:Ao_}{i:Nat}{rest:List Nat}{d:Option Tmp}{t ty e:TypeId}{p:String}{af:Ae_}
section
variable {b:Frame}{n:Nat}{H:LH}{g:On_}
end
theorem VE{E H:LH}{a b c:Nat}{K O U:Obj}(Z:Ap E H [[(a,K)],[(b,O)],[(c,U)]]):(⟨E,Jq (Aj E H [[(a,K)],[(b,O)],[(c,U)]]).H b a c,false⟩:St)=Aj E H []:=by
 have h:=Nd.iff.1 Z;have ac:H a=none:=(h.2 (a,K) (by simp)).2;have ag:H b=none:=(h.2 (b,O) (by simp)).2;have al:H c=none:=(h.2 (c,U) (by simp)).2;unfold Aj mk;congr 1;funext x;simp only [Jq,Aj,mk,List.flatten_cons,List.flatten_nil,List.append_nil,List.cons_append,List.nil_append,Bl];by_cases V:x=a
 ·subst V;simp [ac]
 ·by_cases e2:x=b
  ·subst e2;simp [ag]
  ·by_cases Y:x=c
   ·subst Y;simp [al]
   ·simp [V,e2,Y]
theorem Gz{P:Program}{J:Judge P}{Q:Gs_}{b:Frame}{n:Nat}{L:Env}{ds:Ld_}{cs:Lf_}{E H:LH}{S:List Seg}{todo:Li_}{A B:Seg}(j K:Nat)(O:S[j]? =some A)(Y:(S.set j [])[K]? =some B)(Z:Ap E H S)
  (h:Ap E H (((S.set j []).set K []).set j (A++B))->JL J Q b n L ds todo cs (Aj E H (((S.set j []).set K []).set j (A++B)))):JL J Q b n L ds todo cs (Aj E H S):=by
 refine JS.perm ?_ Z h;have U:j<S.length:=(List.getElem?_eq_some_iff.1 O).1;have ac:=(Ey (seg':=A) O).1;have ag:=(Ey (seg':=B) Y).1;have al:((S.set j []).set K [])[j]? =some []:=by
  by_cases e:K=j
  ·subst e;rw [List.getElem?_set_self (by simpa using U)]
  ·rw [List.getElem?_set_ne e,List.getElem?_set_self U]
 have V:=(Ey (seg':=A++B) al).2;have am:(((S.set j []).set K []).set j [])=(S.set j []).set K []:=by
  by_cases e:K=j
  ·subst e;simp
  ·rw [List.set_comm _ _ e];simp
 rw [am] at V;refine ac.trans (List.Perm.trans ?_ V.symm);refine(List.Perm.append_right A ag).trans ?_;rw [List.append_assoc];exact List.Perm.append_left _ List.perm_append_comm
def WL{α:Type}(e:TypeId)(pp:Rp α)(E:LH)(bk c n:Nat)(f:Av_)(xs:List α):Prop:=
 OL e pp E (some ⟨bk,0,none⟩) c [(bk,.cells f e (0,0))] xs/\xs.length=n
theorem WL.Ag{α:Type}{e:TypeId}{pp:Rp α}{E E':LH}{bk c n:Nat}{f:Av_}{xs:List α}(h:WL e pp E bk c n f xs)(hle:Le E E'):WL e pp E' bk c n f xs:=⟨h.1.Ag hle,h.2⟩
theorem WL.at{α:Type}{e:TypeId}{pp:Rp α}{E:LH}{bk c n:Nat}{f:Av_}{xs:List α}{m:Int}{x:α}(h:WL e pp E bk c n f xs)(hm:ix xs m=some x):
  ∃ws,pp.r E ws x/\(∀j w,ws[j]? =some w->f[m.toNat*pp.n+j]? =some w):=by
 obtain⟨ws,K,O,_,_⟩:=OL.again h.1 hm V;exact⟨ws,K,O⟩
theorem WL.put{α:Type}{e:TypeId}{pp:Rp α}{E:LH}{bk c n:Nat}{f:Av_}{xs O:List α}{m:Int}{x0 x':α}{ws':Lv_}(h:WL e pp E bk c n f xs)(U:O.length=n)(hm:ix O m=some x0)(V:pp.r E ws' x'):
  WL e pp E bk c n (A7 f (m.toNat*pp.n) ws') (xs.set m.toNat x')/\m.toNat*pp.n+pp.n<=f.size:=by
 obtain⟨K,rfl,Y⟩:=Gl hm;have Z:K<xs.length:=by rw [h.2,← U];exact(List.getElem?_eq_some_iff.1 Y).1
 have ac:ix xs (K:Int)=some xs[K]:=by simp [ix,Z]
 obtain⟨ws,am,ap,ag,al⟩:=OL.again h.1 ac rfl;exact⟨⟨al x' ws' V,by rw [List.length_set];exact h.2⟩,ag⟩
theorem OL.cases{α:Type}{e:TypeId}{pp:Rp α}{E:LH}{a:Option Addr}{c:Nat}{seg:Seg}{xs:List α}(h:OL e pp E a c seg xs):
  (a=none/\c=0/\seg= []/\xs= [])∨∃bk f,a=some ⟨bk,0,none⟩/\seg= [(bk,.cells f e (0,0))]/\WL e pp E bk c xs.length f xs:=by
 have V:=h;obtain⟨wss,Y,ac,ag⟩:=h;rcases Y with⟨K,O,U,Z,al⟩ | ⟨bk,f,K,O,U⟩
 ·exact .inl ⟨K,U,Z,List.length_eq_zero_iff.1 O⟩
 ·subst K O;exact .inr ⟨bk,f,rfl,rfl,V,rfl⟩
theorem Fl{P:Program}{s:St}{ρ:Operand->Value}{x y:Operand}{d:Option Tmp}{t ty e:TypeId}{p:String}{af:Ae_}{g:On_}{kd:IntKind}{α:Type}{xs:List α}{xv:α}{m:Int}{bk c K n:Nat}(O:xs.length=n)(hm:ix xs m=some xv)(U:P.underlying t=some (.slice e))(V:Bo P e=some K)(Y:ρ x= .slice (some ⟨bk,0,none⟩) n c)(Z:ρ y= .int kd m):
  Yl P ⟨d,.indexAddr t x y,ty,p,af,g⟩ ρ s (.pointer (some ⟨bk,m.toNat*K,none⟩)):=by
 subst O;exact Xt hm U V Y Z
theorem Ss{P:Program}{s:St}{ρ:Operand->Value}{x:Operand}{d:Option Tmp}{t ty e:TypeId}{p:String}{af:Ae_}{g:On_}{α:Type}{xs:List α}{a:Option Addr}{n c:Nat}{ats:Array TypeId}(K:xs.length=n)(O:ats[0]? =some t)(U:P.underlying t=some (.slice e))(V:ρ x= .slice a n c):
  Yl P ⟨d,.call ⟨.builtin .len,#[x],ats⟩,ty,p,af,g⟩ ρ s (.int .i64 (xs.length:Int)):=by
 subst K;exact Yl.len O U V
variable {D:Nat->Bool}{listed:Array Bool}{s:St}{E':LH}
variable {x y:Operand}{u:TypeId}{v:Value}{kd:IntKind}
section
variable {b:Frame}{n:Nat}{m fuel:Nat}{H:LH}
variable {g:On_}
theorem V9{f:FuncId}{args:Array Operand}{ats:Array TypeId}{vs:Lv_}{R:Value->St->Prop}(U:s.q=false)(V:Region.ready .any ops listed= [i])
  (Y:ops[i]? =some ⟨d,.call ⟨.value x,args,ats⟩,ty,p,af,g⟩) (Z:ev L x=some (.func (.func f) #[] #[])) (ac:Bg n d=true) (hw:AR L ops ⟨d,.call ⟨.value x,args,ats⟩,ty,p,af,g⟩=some true) (hb:Du P f=true) (ag:evs L args.toList=some vs)
  (al:EF J f vs.toArray s R) (h:∀v K,R v K->K.q=false/\(∀x o,(Br D s).E x=some o->(Br D K).E x=some o)/\AO J Q b n ds ops k cs m D fuel (A8 listed i) (As L d v) K):
  AO J Q b n ds ops k cs m D (fuel+1) listed L s:=by
 refine AO.one U V Y (by simp [DW,ac]) hw λρ O=>?_;have am:args.map ρ=vs.toArray:=by
  rw [← FY O ag];apply Array.ext';simp
 have ap:ρ x= .func (.func f) #[] #[]:=O _ _ Z;simp only [execOp,resolve,bind,Sem.bind,Deferred.ofValue,ap,pure,invoke];have e: #[]++args.map ρ++ #[]=vs.toArray:=by rw [am];simp
 rw [e];refine IP hb ?_;rw [LA];exact⟨R,al,h⟩
theorem Jk{bks:List Nat}{f:FuncId}{args:Array Operand}{ats:Array TypeId}{vs:Lv_}{R:Value->LH->Seg->Prop}(al:HB S bks)(am:AM J f vs E [] R)(ap:Region.ready .any ops listed= [i])
  (aq:ops[i]? =some ⟨d,.call ⟨.value x,args,ats⟩,ty,p,af,g⟩) (K:ev L x=some (.func (.func f) #[] #[])) (aw:Bg n d=true) (hw:AR L ops ⟨d,.call ⟨.value x,args,ats⟩,ty,p,af,g⟩=some true) (hb:Du P f=true) (ay:evs L args.toList=some vs) (Y:Ap E H S)
  (az:∀v E' seg',Le E E'->R v E' seg'->Ap E' H (S++ [seg'])->AO J Q b n ds ops k cs m (AG bks) fuel (A8 listed i) (As L d v) (Aj E' H (S++ [seg']))):
  AO J Q b n ds ops k cs m (AG bks) (fuel+1) listed L (Aj E H S):=by
 have a0:=EF.La (am (Bl S.flatten H) trivial) (by rintro v s' ⟨E',B',_,_,_,rfl⟩;rfl);refine V9 rfl ap aq K aw hw hb ay a0 ?_;rintro v a8 ⟨⟨E',B',hle,a1,a2,rfl⟩,w,a3⟩;have e2:mk E' (Bl S.flatten H) B'=mk E' H (B'++S.flatten):=by unfold mk;rw [FZ]
 have a4:Nd E' H S.flatten:=Nd.grow Y λx K=>by
  have a5:=a3.d x K;have U:Bl B' (Bl S.flatten H) x=none:=a5;exact(HU U).1
 have Z:Nd E' H (B'++S.flatten):=Nd.glue a2 a4;have ac:(B'++S.flatten).Perm (S++ [B']).flatten:=by rw [Gg];exact List.perm_append_comm
 have ag:Ap E' H (S++ [B']):=Nd.perm Z ac;rw [e2,Fi Z ac];refine⟨rfl,λx o K=>?_,az v E' B' hle a1 ag⟩;by_cases hd:AG bks x=true
 ·obtain⟨j,o',V⟩:=al.mem x (by simpa [AG] using hd);have U:(Aj E H S).get x=some o':=C6 (i:=0) Y V rfl;have a6:j<S.length:=(List.getElem?_eq_some_iff.1 V).1;have a7:(Aj E' H (S++ [B'])).get x=some o':=C6 (i:=0) ag (by rw [List.getElem?_append_left a6];exact V) rfl;have O:(if AG bks x then(Aj E H S).get x else E x)=some o:=K
  show(if AG bks x then(Aj E' H (S++ [B'])).get x else E' x)=some o
  rw [if_pos hd] at O ⊢;rw [a7,← U];exact O
 ·have O:(if AG bks x then(Aj E H S).get x else E x)=some o:=K
  show(if AG bks x then(Aj E' H (S++ [B'])).get x else E' x)=some o
  rw [if_neg hd] at O ⊢;exact hle _ _ O
end
section
variable {b:Frame}{n:Nat}{H:LH}
variable {g:On_}
theorem Kc{f:FuncId}{args:Array Operand}{ats:Array TypeId}{vs:Lv_}{R:Value->LH->Seg->Prop}
  (O:AM J f vs E [] R) (U:ops[i]? =some ⟨d,.call ⟨.value x,args,ats⟩,ty,p,af,g⟩) (V:ev L x=some (.func (.func f) #[] ([]:Lv_).toArray)) (hw:AR L ops ⟨d,.call ⟨.value x,args,ats⟩,ty,p,af,g⟩=some true) (Y:((b.kind != .early)&&Bg n d)=true) (hb:Du P f=true)
  (Z:evs L args.toList=some vs) (ac:Ap E H S) (ag:∀v E' seg',Le E E'->R v E' seg'->Ap E' H (S++ [seg'])->JL J Q b n (As L d v) ds (.inRegion ops rest::k) cs (Aj E' H (S++ [seg']))):
  JL J Q b n L ds (.inRegion ops (i::rest)::k) cs (Aj E H S):=by
 have al:EM J (.func (.func f) #[] ([]:Lv_).toArray) vs E [] R:=EM.ofFn hb (by rw [List.append_nil];exact O);have am:Ap E H (S++ [[]]):=by unfold Ap at*;rw [Gg,List.append_nil];exact ac
 have ap:Aj E H S=Aj E H (S++ [[]]):=by unfold Aj;rw [Gg,List.append_nil]
 rw [ap];refine IX (seg:= []) S.length al U hw Y V Z am (by simp) λv E' seg' hle aq K=>?_;have aw:(S++ [([]:Seg)]).set S.length seg'=S++ [seg']:=H4 _ _ _ _;rw [aw] at K ⊢;exact ag v E' seg' hle aq K
end
def K6(a b:Int):Option Int:=if b=0 then none else Av (a.tdiv b)
def P8(l:List Nat)(i:Int):Option Nat:=if 0<=i then l[i.toNat]? else none
variable {ρ:Operand->Value}{z:Operand}{kd':IntKind}{m':Int}{a:Nat}
section
variable {g:On_}{m:Int}{b:Nat}
theorem MW{r:Int}(K:ρ x=iV m)(O:ρ y=iV m')(h:K6 m m'=some r):Yl P ⟨d,.binOp .quo t x y u,ty,p,af,g⟩ ρ s (iV r):=by
 unfold K6 at h;split at h
 ·cases h
 ·rename_i U;obtain⟨rfl,hb⟩:=KI h;have:=Yl.quo (P:=P) (s:=s) (d:=d) (t:=t) (u:=u) (ty:=ty) (p:=p) (af:=af) (g:=g) K O U
  rwa [J9 hb] at this
theorem bS{a:Nat}:IntKind.u8.wrap (a:Int)=((a % 256:Nat):Int):=by
 simp only [IntKind.wrap,IntKind.bits,IntKind.signed];simp
theorem Yf(K:P.underlying t=some (.int .u64))(hu:P.underlying u=some (.int .u8))(O:ρ x= .int .u64 (a:Int)):Yl P ⟨d,.convert t u x,ty,p,af,g⟩ ρ s (.int .u8 ((a % 256:Nat):Int)):=by
 have h:=Fj (P:=P) (s:=s) (d:=d) (ty:=ty) (p:=p) (af:=af) (g:=g) K hu O
 rw [bS] at h;exact h
theorem Yn{r:Int}(K:P.underlying t=some (.int .u8))(hu:P.underlying u=some (.int .i64))(O:ρ x= .int .u8 (a:Int))(h:Av ((a:Nat):Int)=some r):Yl P ⟨d,.convert t u x,ty,p,af,g⟩ ρ s (iV r):=by
 obtain⟨rfl,hb⟩:=KI h;have h:=Fj (P:=P) (s:=s) (d:=d) (ty:=ty) (p:=p) (af:=af) (g:=g) K hu O
 rwa [J9 hb] at h
theorem VM{l:List Nat}{bs:ByteArray}{r:Nat}(O:(bs.data.toList.map UInt8.toNat==l)=true)(U:P.underlying t=some .string)(V:ρ y= .int kd m)(Y:ρ (.const (.string bs))= .string bs)(h:P8 l m=some r):Yl P ⟨d,.index t (.const (.string bs)) y,ty,p,af,g⟩ ρ s (.int .u8 (r:Int)):=by
 unfold P8 at h;split at h
 ·rename_i Z;have ac:=eq_of_beq O;rw [← ac,List.getElem?_map] at h;obtain⟨K,hb,rfl⟩:=Option.map_eq_some_iff.1 h;have ag:bs[m.toNat]? =some K:=by
   have al:bs.data[m.toNat]? =some K:=by rw [← Array.getElem?_toList];exact hb
   obtain⟨am,ap⟩:=Array.getElem?_eq_some_iff.1 al;rw [getElem?_pos bs m.toNat am];exact congrArg some ap
  simp [Yl,execOp,lp,pure,bind,Sem.bind,Y,V,Instr.index,underlying,program,U,Z,ag,asIntOf]
 ·cases h
end
section
variable (J:Judge P)(Q:Gs_)(b:Frame)(ds:Ld_)(ops:Ao_)(k:Li_)(cs:Lf_)(X D D0:Nat->Bool)
def JB:Nat->Array Bool->Av_->St->Prop
 | 0,listed,T,s=>Region.ready .any ops listed= []/\J.ok Q (G (fr b T ds (.inRegion ops []::k)) cs) s
 | fuel+1,listed,T,s=>
  Region.ready .any ops listed≠ []/\s.q=false/\∀i∈Region.ready .any ops listed,∀o,ops[i]? =some o->(∀c,o.op≠ .defer c)/\
   (Region.wanted o (yielded ops T)=false->JB fuel (A8 listed i) (CL T o.dst undef) s)/\
   (Region.wanted o (yielded ops T)=true->X i=true->lp P (execOp (BA T) o) s (λK s'=>(∀x u,D0 x=true->s.get x=some u->s'.get x=some u)/\match K with
    | .value v=>JB fuel (A8 listed i) (CL T o.dst v) s'
    | .skip=>JB fuel (A8 listed i) (CL T o.dst undef) s'
    | _=>False) (λ_ _=>False))/\
   (Region.wanted o (yielded ops T)=true->X i=false->lp P (execOp (BA T) o) (Br D s) (λK s'=>match K with
    | .value v=>JB fuel (A8 listed i) (CL T o.dst v) (Cn D s s')
    | .skip=>JB fuel (A8 listed i) (CL T o.dst undef) (Cn D s s')
    | _=>False) (λ_ _=>False))
variable {J Q b ds ops k cs X D D0}
theorem WX(Y:b.kind≠ .early):∀(fuel t:Nat) (listed:Array Bool) (T:Av_) (s:St),JB J Q b ds ops k cs X D D0 fuel listed T s->
  J.ok Q (G (fr b T ds (.inRegion ops (Region.linearise.go .any ops fuel t listed [])::k)) cs) s:=by
 intro fuel
 induction fuel with
 | zero=>intro t listed T s h;simpa [Region.linearise.go] using h.2
 | succ fuel O=>
  intro t listed T s h;obtain⟨ag,al,h⟩:=h;obtain⟨i,hi⟩:∃i,(Region.ready .any ops listed)[t % (Region.ready .any ops listed).length]? =some i:=by
   have:0<(Region.ready .any ops listed).length:=List.length_pos_iff.2 ag;exact⟨_,List.getElem?_eq_getElem (Nat.mod_lt _ this)⟩
  have Z:=List.mem_of_getElem? hi;have hgo:Region.linearise.go .any ops (fuel+1) t listed []=i::Region.linearise.go .any ops fuel (t / (Region.ready .any ops listed).length) (A8 listed i) []:=by
   simp only [Region.linearise.go];change (match(Region.ready .any ops listed)[t % (Region.ready .any ops listed).length]? with
    | some i=>Region.linearise.go .any ops fuel (t / (Region.ready .any ops listed).length) (listed.setIfInBounds i true) [i]
    | none=> [].reverse)=_
   rw [hi];simp only;rw [linearise_go_acc];rfl
  rw [hgo];obtain⟨_,o,U,_⟩:=mem_ready.1 Z;obtain⟨hd,am,ap,aq⟩:=h i Z o U;cases hw:Region.wanted o (yielded ops T) with
  | false=>exact Judge.unwanted U hw (O _ _ _ _ (am hw))
  | true=>
   cases ac:X i with
   | true=>
    refine Judge.oper U hw Y (.inr hd) (DO _ (ap hw ac) ?_ (λ_ _ h=>h.elim));rintro V s' ⟨_,K⟩;cases V with
    | value v=>exact O _ _ _ _ K
    | skip=>exact O _ _ _ _ K
    | _=>exact K.elim
   | false=>
    refine Judge.SE D U hw Y hd al (DO _ (aq hw ac) ?_ (λ_ _ h=>h));intro V s' K;cases V with
    | value v=>exact O _ _ _ _ K
    | skip=>exact O _ _ _ _ K
    | _=>exact K.elim
def waitAll(ops:Ao_)(X:Nat->Bool)(i:Nat):Bool:=(List.range ops.size).all λj=> !X j || waits ops ops.size j i
theorem XR{D:Nat->Bool}{s s':St}(K:s'.E=(Br D s).E){x:Nat}{o:Obj}(h:s.E x=some o):(Cn D s s').E x=some o:=by
 by_cases hd:D x
 ·simp [Cn,hd,h]
 ·have:=congrFun K x;simp [Br,hd] at this;simp [Cn,hd,this,h]
theorem YD{D0 D:Nat->Bool}{s:St}(h:∀x,D0 x=true->D x=true):∀x o,(Br D0 s).E x=some o->(Br D s).E x=some o:=λx o K=>by
 simp only [Br] at K ⊢
 split
 ·split at K
  ·exact K
  ·unfold St.get;rw [K]
 ·rename_i hd;rw [if_neg (λe=>hd (h x e))] at K;exact K
theorem Xe{D0:Nat->Bool}{s s':St}(h:∀x u,D0 x=true->s.get x=some u->s'.get x=some u)(O:s'.E=s.E):∀x o,(Br D0 s).E x=some o->(Br D0 s').E x=some o:=λx o K=>by
 simp only [Br] at K ⊢
 split
 ·rename_i hd;rw [if_pos hd] at K;exact h x o hd K
 ·rename_i hd;rw [if_neg hd] at K;rw [O];exact K
theorem Qj{D0 D:Nat->Bool}{s s':St}(h:∀x,D0 x=true->D x=true)(O:s'.E=(Br D s).E):∀x o,(Br D0 s).E x=some o->(Br D0 (Cn D s s')).E x=some o:=λx o K=>by
 simp only [Br] at K ⊢
 split
 ·rename_i hd;rw [if_pos hd] at K
  unfold St.get Cn;simp only [h x hd,if_true];exact K
 ·rename_i hd;rw [if_neg hd] at K;exact XR O K
theorem Xw{i:Nat}{oi:Oper}{w pure:Bool}{v:Value}(bx:∀x,D0 x=true->D x=true)(hi:ops[i]? =some oi)(cg:X i=false)(b6:(pure || waitAll ops X i)=true)(ci:Region.noSelect ops=true)(ck:∀c,oi.op≠ .defer c):
  ∀(fuel:Nat) (listed:Array Bool) (T:Av_) (s:St),IB ops listed i oi=true->Hw ops listed=true->listed.size=ops.size->i∈Region.ready .any ops listed->s.q=false->Region.wanted oi (yielded ops T)=w->
   (w=true->∀s',s'.q=false->(∀x o,(Br D0 s).E x=some o->s'.E x=some o)->(pure=false->∀x o,(Br D s).E x=some o->s'.E x=some o)->Yl P oi (BA T) s' v)->
   JB J Q b ds ops k cs X D D0 fuel (A8 listed i) (CL T oi.dst (if w then v else undef)) s->JB J Q b ds ops k cs X D D0 (fuel+1) listed T s:=by
 have aq:∀(j:Nat) (ag:Oper),ops[j]? =some ag->∀cs b,ag.op≠Op.select cs b:=λj ag h cs b=>Region.noSelect_spec ci j ag cs b h;intro fuel
 induction fuel with
 | zero=>?_
 | succ fuel a2=>?_
 all_goals
  intro listed T s b7 b8 a3 bo a4 hw aw h;refine⟨λe=>(by rw [e] at bo;cases bo),a4,λj b9 ag U=>?_⟩;by_cases a5:j=i
  ·subst a5;obtain rfl:ag=oi:=by rw [hi] at U;exact(Option.some.inj U).symm
   refine⟨ck,λO=>?_,λay K=>?_,λay K=>?_⟩
   ·rw [O] at hw;subst hw;exact h
   ·rw [cg] at K;cases K
   ·rw [ay] at hw;subst hw;refine DO _ (aw rfl (Br D s) a4 (YD bx) λ_ _ _ h=>h).out ?_ (λ_ _ h=>h);rintro bv s' ⟨rfl,rfl⟩;rw [LA];exact h
  ·
   have ca:j∈Region.ready .any ops (A8 listed i):=ready_mono b9 a5;obtain⟨az,V,cb,bz⟩:=mem_ready.1 b9;obtain rfl:V=ag:=by rw [U] at cb;exact(Option.some.inj cb).symm
   have bY:=(mem_ready.1 bo).1;have cm:(V.after.any λe=>Region.binds .any e&&e.on==i)=false:=by
    rw [Array.any_eq_false];intro e he K;simp only [Bool.and_eq_true,beq_iff_eq] at K;have:=bz _ (Array.getElem_mem he) K.1;rw [K.2] at this;have a0:listed.getD i true=listed.getD i false∨listed.size<=i:=by
     rcases Nat.lt_or_ge i listed.size with q | q
     ·left;simp [Array.getD_eq_getD_getElem?,q]
     ·exact .inr q
    rcases a0 with a0 | a0
    ·rw [bY,this] at a0;cases a0
    ·rw [Array.getD_eq_getD_getElem?,Array.getElem?_eq_none a0] at this;simp at this
   have cn:oi.apart ops V=true:=by
    have bZ:j<ops.size:=(Array.getElem?_eq_some_iff.1 U).1;have:=List.all_eq_true.1 b7 j (List.mem_range.2 bZ);simp only [Bool.or_eq_true,beq_iff_eq] at this;rcases this with(q | q) | q
    ·exact absurd q a5
    ·rw [az] at q;cases q
    ·rw [U] at q;simp only [Bool.or_eq_true] at q;rw [cm] at q;exact q.resolve_left (by simp)
   obtain⟨a1,a6,a7⟩:=Oper.apart_spec cn;obtain⟨p1,p2⟩:=HY (ops:=ops) (T:=T) (v:=if w then v else undef) (aq j V U) a1
   first
    | exact absurd ca (by rw [h.1];simp)
    | (
     obtain⟨cz,_,h⟩:=h
     obtain⟨hd,O,co,cp⟩:=h j ca V U
     have a8:A8 (A8 listed i) j=A8 (A8 listed j) i:=by
      unfold A8;exact Array.setIfInBounds_comm _ _ (Ne.symm a5)
     have a9:i∈Region.ready .any ops (A8 listed j):=ready_mono bo (Ne.symm a5)
     have bb:IB ops (A8 listed j) i oi=true:=by
      refine List.all_eq_true.2 λx K=>?_
      have:=List.all_eq_true.1 b7 x K
      simp only [Bool.or_eq_true,beq_iff_eq] at this ⊢
      rcases this with(q | q) | q
      ·exact .inl (.inl q)
      ·left;right
       by_cases e:j=x
       ·subst e;rw [az] at q;cases q
       ·rw [A8,getD_set_ne true e];exact q
      ·exact .inr q
     have bd:(A8 listed j).size=ops.size:=by unfold A8;simpa using a3
     have be:Hw ops (A8 listed j)=true:=by
      refine List.all_eq_true.2 λx K=>?_
      cases b0:ops[x]? with
      | none=>simp
      | some cq=>
       simp only [Bool.or_eq_true,Bool.not_eq_true']
       by_cases e:j=x
       ·subst e
        obtain rfl:cq=V:=by rw [U] at b0;exact(Option.some.inj b0).symm
        right
        refine Array.all_eq_true'.2 λe he=>?_
        cases hb:Region.binds .any e with
        | false=>simp
        | true=>
         have:=bz e he hb
         by_cases e2:j=e.on
         ·rw [← e2] at this
          have b1:j<listed.size:=by rw [a3];exact(Array.getElem?_eq_some_iff.1 U).1
          simp [Array.getD_eq_getD_getElem?,b1] at this az
          rw [az] at this;cases this
         ·rw [A8,getD_set_ne false e2];simpa using this
       ·cases cc:(A8 listed j).getD x false with
        | false=>exact .inl rfl
        | true=>
         right
         have cr:listed.getD x false=true:=by rw [A8,getD_set_ne false e] at cc;exact cc
         refine Array.all_eq_true'.2 λb2 he=>?_
         cases hb:Region.binds .any b2 with
         | false=>simp
         | true=>
          have:=Og b8 b0 cr b2 he hb
          by_cases e2:j=b2.on
          ·rw [← e2] at this
           have b1:j<listed.size:=by rw [a3];exact(Array.getElem?_eq_some_iff.1 U).1
           simp [Array.getD_eq_getD_getElem?,b1] at this az
           rw [az] at this;cases this
          ·rw [A8,getD_set_ne false e2];simpa using this
     refine⟨hd,λct=>?_,λb3 bw=>?_,λb3 bw=>?_⟩
     ·have:=O (by rw [p2];exact ct)
      rw [a8,IW a6] at this
      obtain⟨Y,Z⟩:=HY (ops:=ops) (T:=T) (d:=V.dst) (v:=undef) (o:=oi) (aq i oi hi) a7
      exact a2 _ _ _ bb be bd a9 a4 (by rw [Z];exact hw) (λac s' cu O al=>by unfold Yl;rw [Y];exact(aw ac s' cu O al).out) this
     ·
      have cv:pure=true:=by
       cases cw:pure with
       | true=>rfl
       | false=>
        exfalso
        rw [cw,Bool.false_or] at b6
        have bZ:j<ops.size:=(Array.getElem?_eq_some_iff.1 U).1
        have ay:=List.all_eq_true.1 b6 j (List.mem_range.2 bZ)
        rw [bw] at ay
        simp only [Bool.not_true,Bool.false_or] at ay
        rcases Qq b8 _ j V U (λe he hb=>bz e he hb) ay with q | ⟨x,Y,Z⟩
        ·have cy:i<listed.size:=by rw [a3];exact(Array.getElem?_eq_some_iff.1 hi).1
         simp [Array.getD_eq_getD_getElem?,cy] at q bY
         rw [bY] at q;cases q
        ·have:¬x<listed.size:=by rw [a3];intro K;simp [K] at Y
         simp [Array.getD_eq_getD_getElem?,this] at Z
      have bi:=NO _ (co (by rw [p2];exact b3) bw)
      rw [p1] at bi
      refine DO _ bi ?_ (λ_ _ h=>h)
      rintro bv s' ⟨⟨b4,K⟩,al,b5⟩
      have cd:=Xe b4 al
      have bn:s'.q=false:=b5.trans a4
      have ce:pure=false->∀{α:Prop},α:=λe=>by rw [cv] at e;cases e
      cases bv with
      | value u=>
       simp only at K ⊢
       rw [a8,IW a6] at K
       obtain⟨Y,Z⟩:=HY (ops:=ops) (T:=T) (d:=V.dst) (v:=u) (o:=oi) (aq i oi hi) a7
       exact⟨b4,a2 _ _ _ bb be bd a9 bn (by rw [Z];exact hw) (λac s2 am O ap=>by unfold Yl;rw [Y];exact(aw ac s2 am (λx o h=>O x o (cd x o h)) (λe=>ce e)).out) K⟩
      | skip=>
       simp only at K ⊢
       rw [a8,IW a6] at K
       obtain⟨Y,Z⟩:=HY (ops:=ops) (T:=T) (d:=V.dst) (v:=undef) (o:=oi) (aq i oi hi) a7
       exact⟨b4,a2 _ _ _ bb be bd a9 bn (by rw [Z];exact hw) (λac s2 am O ap=>by unfold Yl;rw [Y];exact(aw ac s2 am (λx o h=>O x o (cd x o h)) (λe=>ce e)).out) K⟩
      | _=>exact K.elim
     ·have bi:=NO _ (cp (by rw [p2];exact b3) bw)
      rw [p1] at bi
      refine DO _ bi ?_ (λ_ _ h=>h)
      rintro bv s' ⟨K,al,b5⟩
      have cf:=Qy (D:=D) al
      have bn:(Cn D s s').q=false:=by show s'.q=false;rw [b5];exact a4
      cases bv with
      | value u=>
       simp only at K ⊢
       rw [a8,IW a6] at K
       obtain⟨Y,Z⟩:=HY (ops:=ops) (T:=T) (d:=V.dst) (v:=u) (o:=oi) (aq i oi hi) a7
       exact a2 _ _ _ bb be bd a9 bn (by rw [Z];exact hw) (λac s2 am O ap=>by unfold Yl;rw [Y];exact(aw ac s2 am (λx o h=>O x o (Qj bx al x o h)) (λe=>by rw [cf] at ap;exact ap e)).out) K
      | skip=>
       simp only at K ⊢
       rw [a8,IW a6] at K
       obtain⟨Y,Z⟩:=HY (ops:=ops) (T:=T) (d:=V.dst) (v:=undef) (o:=oi) (aq i oi hi) a7
       exact a2 _ _ _ bb be bd a9 bn (by rw [Z];exact hw) (λac s2 am O ap=>by unfold Yl;rw [Y];exact(aw ac s2 am (λx o h=>O x o (Qj bx al x o h)) (λe=>by rw [cf] at ap;exact ap e)).out) K
      | _=>exact K.elim)
end
section
variable (J:Judge P)(Q:Gs_)(b:Frame)(n:Nat)(ds:Ld_)(ops:Ao_)(k:Li_)(cs:Lf_)(X D D0:Nat->Bool)
def F7(fuel:Nat)(listed:Array Bool)(L:Env)(s:St):Prop:=∀T,Has n L T->JB J Q b ds ops k cs X D D0 fuel listed T s
end
theorem JB.take{i:Nat}{oi:Oper}{w pure:Bool}{v:Value}{P:Program}{J:Judge P}{Q:Gs_}{b:Frame}{ds:Ld_}{ops:Ao_}{k:Li_}{cs:Lf_}{X D D0:Nat->Bool}(K:∀x,D0 x=true->D x=true)(hi:ops[i]? =some oi)(O:X i=false)(U:(pure || waitAll ops X i)=true)(V:Region.noSelect ops=true)(Y:∀c,oi.op≠ .defer c)
  (fuel:Nat) (listed:Array Bool) (T:Av_) (s:St) (Z:IB ops listed i oi=true) (ac:Hw ops listed=true) (ag:listed.size=ops.size) (al:i∈Region.ready .any ops listed) (am:s.q=false) (ap:Region.wanted oi (yielded ops T)=w)
  (aq:w=true->∀s',s'.q=false->(pure=false->∀x o,(Br D s).E x=some o->s'.E x=some o)->Yl P oi (BA T) s' v)
  (h:JB J Q b ds ops k cs X D D0 fuel (A8 listed i) (CL T oi.dst (if w then v else undef)) s):JB J Q b ds ops k cs X D D0 (fuel+1) listed T s:=
 Xw K hi O U V Y fuel listed T s Z ac ag al am ap (λe s' aw _ ay=>aq e s' aw ay) h
def K9(ops:Ao_)(listed:Array Bool)(xs:List Nat)(pure:Bool)(i:Nat):Bool:=match ops[i]? with
 | some oi=> !AG xs i&&(pure || waitAll ops (AG xs) i)&&Region.noSelect ops&& !DW oi.op&&IB ops listed i oi&&Hw ops listed&&listed.size==ops.size&&(Region.ready .any ops listed).contains i
 | none=>false
variable {X:Nat->Bool}{l0:List Nat}{xl bks:List Nat}
section
variable {b:Frame}{n:Nat}{fuel:Nat}{H:LH}
variable {g:On_}
theorem Ix(xl bks l0:List Nat){id:Nat}(hm:P.follows .mixedOrders=true)(K:(b.kind != .early)=true)
  (h:F7 J Q b n ds ops k cs (AG xl) (AG (l0++bks)) (AG l0) ops.size (Array.replicate ops.size false) L (Aj E H S)):JL J Q b n L ds (.code (.region id ops true)::k) cs (Aj E H S):=
 SV V hm λt T O=>WX (by simpa using K) ops.size t _ T _ (h T O)
theorem ZY:∀x,AG l0 x=true->AG (l0++bks) x=true:=λx h=>by
 simp only [AG,List.contains_iff_mem,List.mem_append] at h ⊢;exact .inl h
theorem JB.val{oi:Oper}(i:Nat)(pure:Bool)(hi:ops[i]? =some oi)(K:K9 ops listed xl pure i=true)(V:s.q=false)
  (hw:AR L ops oi=some true) (Y:Bg n oi.dst=true) (Z:∀ρ,EP L ρ->∀s':St,(pure=false->∀x o,(Br (AG (l0++bks)) s).E x=some o->s'.E x=some o)->Yl P oi ρ s' v)
  (h:F7 J Q b n ds ops k cs (AG xl) (AG (l0++bks)) (AG l0) fuel (A8 listed i) (As L oi.dst v) s):F7 J Q b n ds ops k cs (AG xl) (AG (l0++bks)) (AG l0) (fuel+1) listed L s:=λT O=>by
 simp only [K9,hi,Bool.and_eq_true] at K
 obtain⟨⟨⟨⟨⟨⟨⟨ac,ag⟩,al⟩,U⟩,am⟩,ap⟩,aq⟩,aw⟩:=K
 refine JB.take (w:=true) (v:=v) (pure:=pure) ZY hi (by simpa using ac) ag al (λc K=>by rw [K] at U;simp [DW] at U) fuel listed T s am ap (by simpa using aq) (by simpa using aw) V (B6 O hw) (λ_ s' az ay=>Z _ O.F2 s' ay) ?_
 exact h _ (O.put Y v)
theorem JB.fin{l0:List Nat}(K:Region.ready .any ops listed= [])(h:JL J Q b n L ds k cs s):F7 J Q b n ds ops k cs X D (AG l0) 0 listed L s:=λT O=>⟨K,JL.done h T O⟩
def Mf(S:List Seg)(j:Nat):List Nat->Prop
 | []=>True
 | bk::l=>(∃(i:Nat) (o:Obj),(i==j)=false/\S[i]? =some [(bk,o)])/\Mf S j l
theorem Mf.mem{S:List Seg}{j:Nat}:∀{l:List Nat},Mf S j l->∀bk∈l,∃(i:Nat) (o:Obj),i≠j/\S[i]? =some [(bk,o)]
 | [],_,_,h=>by cases h
 | b::l,⟨⟨i,o,hi,h⟩,K⟩,bk,hb=>by
  rcases List.mem_cons.1 hb with rfl | hb
  ·exact⟨i,o,by simpa using hi,h⟩
  ·exact K.mem bk hb
theorem JB.store{bk off:Nat}{c:Av_}(i j:Nat)(V:Region.ready .any ops listed= [i])(aq:AG xl i=true)(aw:ops[i]? =some ⟨d,.store t x y,ty,p,af,g⟩)(hw:AR L ops ⟨d,.store t x y,ty,p,af,g⟩=some true)(ay:Bg n d=true)(Y:Ap E H S)
  (O:ev L x=some (.pointer (some ⟨bk,off,none⟩))) (az:ev L y=some v) (a0:Bo P t=some v.cells.size) (a1:∀u∈v.cells.toList,B3 u=true) (Z:S[j]? =some [(bk,.cells c e (0,0))]) (a2:Mf S j l0) (hle:off+v.cells.size<=c.size)
  (h:Ap E H (S.set j [(bk,.cells (A7 c off v.cells.toList) e (0,0))])->F7 J Q b n ds ops k cs (AG xl) (AG (l0++bks)) (AG l0) fuel (A8 listed i) (As L d undef) (Aj E H (S.set j [(bk,.cells (A7 c off v.cells.toList) e (0,0))]))):
  F7 J Q b n ds ops k cs (AG xl) (AG (l0++bks)) (AG l0) (fuel+1) listed L (Aj E H S):=λT K=>by
 refine⟨by rw [V];simp,rfl,λbd U o' ac=>?_⟩
 rw [V] at U
 simp at U
 subst U
 obtain rfl:o'=⟨d,.store t x y,ty,p,af,g⟩:=by rw [aw] at ac;exact(Option.some.inj ac).symm
 have a3:=B6 K hw;refine⟨λc a4=>(by cases a4),λe=>?_,λ_ _=>?_,λ_ e=>?_⟩
 ·rw [a3] at e;cases e
 ·obtain⟨ag,a5⟩:=Gk Y Z;rw [ag];show lp P (do Instr.storeAt t (BA T x) (BA T y);pure Next.skip) _ _ _
  rw [K.ev O,K.ev az];refine Ar _ _ ?_;unfold Instr.storeAt;simp only [Instr.sureAddr,bind,Sem.bind,pure];refine MA (pl:=(S.set j []).flatten.length) a0 a1 a5 (c:=c) (e:=e) (by simp) hle λal=>?_;have a6:((S.set j []).flatten++ [(bk,Obj.cells c e (0,0))]).set (S.set j []).flatten.length (bk,.cells (A7 c off v.cells.toList) e (0,0))=(S.set j []).flatten++ [(bk,.cells (A7 c off v.cells.toList) e (0,0))]:=H4 _ _ _ _;rw [a6] at al ⊢;obtain⟨a7,am⟩:=H5 Z al;rw [a7];refine⟨λx u O a8=>?_,h am _ (K.put ay undef)⟩;obtain⟨be,o',a9,ap⟩:=a2.mem x (by simpa [AG] using O);have bb:(Aj E H S).get x=some o':=C6 (i:=0) Y ap rfl;have g2:(Aj E H (S.set j [(bk,.cells (A7 c off v.cells.toList) e (0,0))])).get x=some o':=C6 (i:=0) am (by rw [List.getElem?_set_ne (Ne.symm a9)];exact ap) rfl;have g0:(Aj E H S).get x=some u:=by rw [ag];exact a8
  rw [bb] at g0;rw [g2];exact g0
 ·rw [aq] at e;cases e
end
theorem LC{E H:LH}{S:List Seg}{bks:List Nat}{bk o:Nat}{l ws:Lv_}{e:TypeId}{f:Nat×Nat}{s':St}{w:Value}(j:Nat)(K:Ap E H S)(O:S[j]? =some [(bk,.cells (l++ws).toArray e f)])(U:AG bks bk=true)(V:∀x o,(Br (AG bks) (Aj E H S)).E x=some o->s'.E x=some o)(Y:ws[o]? =some w):s'.cell? ⟨bk,l.length+o,none⟩=some w:=by
 have:=RQ j K O U V o w Y
 rwa [Ei rfl] at this
variable {B:List (Nat×Obj)}
section
variable {H:LH}
theorem Ql{ats:Array TypeId}{a:Option Addr}{l K O m cx:Nat}{ax:Option Addr}{xs ys:Lv_}{z:Value}{Q:Value->St->Prop}{X:Halt->St->Prop}
  (a0:ats[0]? =some t) {t1 a1:TypeId} (a2:ats[1]? =some t1) (a3:P.underlying t1=some (.slice a1)) (a4:P.underlying t=some (.slice e)) (a5:Bo P e=some K) (hb:FB P e=some O) (a6:zeroOf P e=some z) (a7:z.cells.size=K)
  (a8:Nd E H B) (ag:HF (mk E H B) (.slice a l l) K xs)
  (Y:HF (mk E H B) (.slice ax m cx) K ys) (bw:∀w∈ys,B3 w=true) (bx:0<O) (bz:l+m<=2 ^ 40) (a9:O<=64)
  (ay:m=0->Q (.slice a (l+m) l) (mk E H B))
  (bb:∀r Z al,l+m<=al->Z.size=al*K->Z.toList.take ((l+m)*K)=xs++ys->Nd E H (B++ [(r,.cells Z e (0,0))])->Q (.slice (some ⟨r,0,none⟩) (l+m) al) (mk E H (B++ [(r,.cells Z e (0,0))]))):
  lp P (Builtin.append_ ats ty #[.slice a l l,.slice ax m cx]) (mk E H B) Q X:=by
 unfold Builtin.append_;simp only [a0,a2,List.getElem?_toArray,List.getElem?_cons_zero,List.getElem?_cons_succ];refine Ar _ _ (Ce a4 ?_);refine Ar _ _ (EJ a5 ?_);refine Ar _ _ (Ce a3 ?_);simp only [HV,Bool.false_eq_true,if_false,Builtin.lenOf,Bool.not_false,if_true];have ac:ys.length=m*K:=by
  cases ax with
  | none=>obtain⟨U,V⟩:=Y;subst U V;simp
  | some ad=>exact Y.2.1
 have am:xs.length=l*K:=by
  cases a with
  | none=>obtain⟨U,V⟩:=ag;subst U V;simp
  | some ad=>exact ag.2.1
 obtain⟨c,bY⟩:∃c,c=l:=⟨_,rfl⟩;split
 ·rename_i bZ;have hm:m=0:=by omega
  have bd:ys= []:=List.eq_nil_of_length_eq_zero (by rw [ac,hm];simp);refine Ar _ _ (J3 ⟨ax,cx,rfl⟩ Y ?_);subst bd;cases a with
  | none=>exact ay hm
  | some ad=>exact ay hm
 ·rename_i b0;have U:¬(((l+m:Nat):Int)>IntKind.i64.max/\(False∨O=0)):=by rintro⟨_,h | h⟩ <;> omega
  have V:¬(Builtin.nextslicecap (l+m) l*O>2 ^ 48):=by
   have:=QD (need:=l+m) (old:=l) (by omega);have b1:Builtin.nextslicecap (l+m) l*O<=(2*(l+m)+768)*64:=Nat.mul_le_mul this a9;omega
  obtain⟨inf,ap,aq⟩:=Ov hb;refine Ar _ _ (J4 ap ?_);rw [aq,if_neg U];refine Ar _ _ (J4 ap ?_);rw [aq,if_neg V];refine Ar _ _ ?_;simp only [choose,lp,Question.forced,Bool.false_eq_true,if_false];refine⟨rfl,λbe=>?_⟩;generalize bi:(Question.appendCap (l+m) l e).cut be=aw;have bn:l+m<=aw:=by rw [← bi];simp [Question.cut]
  refine Ar _ _ (J4 ap ?_);rw [aq];have bo:∀{α:Type} {f:Unit->Sem α} {Q:α->St->Prop},lp P (f ()) (mk E H B) Q X->lp P (askRoom (aw*O)>>=f) (mk E H B) Q X:=by
   intro α f Q az;refine Ar _ _ ?_;unfold askRoom;split
   ·exact⟨.inl ⟨rfl,rfl⟩,az⟩
   ·exact az
  refine bo (Ar _ _ (J3 ⟨a,l,rfl⟩ ag ?_));refine Ar _ _ (J3 ⟨ax,cx,rfl⟩ Y ?_);refine Ar _ _ (GQ a6 ?_);refine Ar _ _ (IU a8 λr bv=>?_);refine bb r _ aw bn ?_ ?_ bv
  ·simp only [Array.size_append,List.size_toArray,Qg,a7,am,ac];rw [← Nat.add_mul,← Nat.add_mul];congr 1;omega
  ·simp only [Array.toList_append];rw [List.take_append_of_le_length (by simp [am,ac,Nat.add_mul])];rw [List.take_of_length_le (by simp [am,ac,Nat.add_mul])]
end
theorem Al.spot{α:Type}{pp:Rp α}{E:LH}{a:Option Addr}{c:Nat}{xs:List α}(h:Al pp E a c xs):∀ad,a=some ad->ad.spot=none∨c=0:=λad K=>by
 rcases h.2 with⟨_,h⟩ | ⟨bk,off,h,_⟩
 ·exact h ad K
 ·rw [h] at K;cases K;exact .inl rfl
theorem Al.full{α:Type}{pp:Rp α}{E:LH}{a:Option Addr}{c:Nat}{xs:List α}(h:Al pp E a c xs):Al pp E a xs.length xs:=⟨Nat.le_refl _,h.2.imp (λ⟨h,_⟩=>⟨h,λ_ _=> .inr (by rw [h];rfl)⟩) id⟩
theorem Al.LK{α:Type}{pp:Rp α}{E H:LH}{B:List (Nat×Obj)}{a:Option Addr}{c:Nat}{ys:List α}(Z:Al pp E a c ys):
  ∃K:List (Lv_),K.length=ys.length/\(∀(i:Nat) x ws,ys[i]? =some x->K[i]? =some ws->pp.r E ws x)/\HF (mk E H B) (.slice a ys.length c) pp.n K.flatten/\∀w∈K.flatten,B3 w=true:=by
 obtain⟨K,U,Y,V⟩:=Z.rows;have ac:=H0 U Y;refine⟨K,U,Y,?_,λw hw=>?_⟩
 ·rcases V with⟨V,aw⟩ | ⟨bk,off,rfl,V⟩
  ·subst V;have:K= []:=List.eq_nil_of_length_eq_zero U;subst this;cases a with
   | none=>exact⟨rfl,rfl⟩
   | some ad=>exact⟨.inr rfl,by simp,Nat.zero_le _,λq w O=>by simp at O⟩
  ·refine⟨.inl rfl,by rw [Ls ac,U],Z.1,λq w O=>?_⟩;obtain⟨ag,m,ws,al,e2,am⟩:=Oe ac O;have:=(V ag ws al).cell (H:=H) (B:=B) e2;subst am;rw [← Nat.add_assoc];exact this
 ·obtain⟨us,ap,hw⟩:=List.mem_flatten.1 hw;obtain⟨q,O⟩:=List.mem_iff_getElem?.1 ap;have aq:q<ys.length:=by rw [← U];exact(List.getElem?_eq_some_iff.1 O).1
  exact pp.one (Y q _ us (List.getElem?_eq_getElem aq) O) w hw
variable {z1:Operand}
section
variable {b:Frame}{n:Nat}{H:LH}
variable {g:On_}
theorem ME{a:Option Addr}{l c K:Nat}(O:∀ad,a=some ad->ad.spot=none∨c=0)(U:l<=c)(V:P.underlying t=some (.slice e))(Y:Bo P e=some K)(Z:ρ x= .slice a l c)(ac:ρ y=iV (l:Int))(ag:ρ z1=iV (l:Int)):
  Yl P ⟨d,.slice t x none (some y) (some z1),ty,p,af,g⟩ ρ s (.slice a l l):=by
 have h:=Yl.slice (P:=P) (s:=s) (d:=d) (ty:=ty) (p:=p) (af:=af) (g:=g) (olo:=none) (ohi:=some y) (omx:=some z1) (lo:=0) (hi:=l) (mx:=l) V Y Z ag ac rfl U (Nat.le_refl _) (Nat.zero_le _);have al:(if l=0 then a else a.map (·.add (0*K)))=a:=by
  split
  ·rfl
  ·cases a with
   | none=>rfl
   | some ad=>
    have:=(O ad rfl).resolve_right (by omega);simp only [Option.map_some,Nat.zero_mul];rw [Ei this];obtain⟨b,o,sp⟩:=ad;simp only at this;subst this;simp
 rw [al] at h;simpa using h
theorem QG{α:Type}{pp:Rp α}{t1:TypeId}{V c cx:Nat}{a ax:Option Addr}{xs ys Y:List α}{ats:Array TypeId}{z:Value}(U:Dw xs ys=some Y)
  (aw:ops[i]? =some ⟨d,.call ⟨.builtin .append,#[x,y],ats⟩,ty,p,af,g⟩) (hw:AR L ops ⟨d,.call ⟨.builtin .append,#[x,y],ats⟩,ty,p,af,g⟩=some true) (ay:BJ b n ⟨d,.call ⟨.builtin .append,#[x,y],ats⟩,ty,p,af,g⟩=true)
  (az:ev L x=some (.slice a xs.length xs.length)) (a0:ev L y=some (.slice ax ys.length cx)) (a1:ats[0]? =some t) (a2:ats[1]? =some t1) (a3:P.underlying t=some (.slice e)) (a4:P.underlying t1=some (.slice e)) (a5:Bo P e=some pp.n) (hb:FB P e=some V) (a6:zeroOf P e=some z) (a7:z.cells.size=pp.n)
  (a8:0<V) (a9:V<=64) (Z:Al pp E a c xs) (bb:Al pp E ax cx ys) (ac:Ap E H S)
  (h:∀E' ag K,Le E E'->Al pp E' ag K Y->Ap E' H (S++ [[]])->JL J Q b n (As L d (.slice ag Y.length K)) ds (.inRegion ops rest::k) cs (Aj E' H (S++ [[]]))):
  JL J Q b n L ds (.inRegion ops (i::rest)::k) cs (Aj E H S):=by
 unfold Dw at U;split at U
 rotate_left
 ·cases U
 rename_i bd;cases U;obtain⟨wss,al,be,bi,b7⟩:=Al.LK (H:=H) (B:=S.flatten) Z.full;obtain⟨bn,bo,bv,bw,bx⟩:=Al.LK (H:=H) (B:=S.flatten) bb;have hlen:(xs++ys).length=xs.length+ys.length:=by simp
 show JL J Q b n L ds (.inRegion ops (i::rest)::k) cs (mk E H S.flatten);refine JL.op aw hw ay λρ am=>?_;rw [Lr,am x _ az,am y _ a0];refine Ar _ _ (Ql a1 a2 a4 a3 a5 hb a6 a7 ac bi bw bx a8 bd a9 ?_ ?_)
 ·intro hm;have bz:ys= []:=List.eq_nil_of_length_eq_zero hm;subst bz;have bY:Ap E H (S++ [[]]):=by unfold Ap at*;rw [Gg,List.append_nil];exact ac
  have bZ:mk E H S.flatten=Aj E H (S++ [[]]):=by unfold Aj;rw [Gg,List.append_nil]
  rw [bZ];have:=h E a xs.length (Le.refl _) (by rw [List.append_nil];exact Z.full) bY;rw [hlen] at this;exact this
 ·intro r O K b0 b1 b2 b3;have b4:OL e pp E (some ⟨r,0,none⟩) K [(r,.cells O e (0,0))] (xs++ys):=
   ⟨wss++bn,.inr ⟨r,O,rfl,rfl,b1,by rw [hlen];exact b0,by rw [hlen,List.flatten_append];exact b2.symm⟩,by simp [al,bo],MI al be bv⟩
  have ap:=Fh (S:=S) (seg:= [(r,.cells O e (0,0))]) b3;show JL J Q b n _ ds _ cs (mk E H (S.flatten++ [(r,.cells O e (0,0))]));rw [ap.1];refine Bd S.length b4 ap.2 (by simp) λE' hle b5 aq=>?_;have b6:(S++ [[(r,Obj.cells O e (0,0))]]).set S.length []=S++ [[]]:=H4 _ _ _ _;rw [b6] at aq ⊢;have:=h E' (some ⟨r,0,none⟩) K hle b5 aq;rw [hlen] at this;exact this
end
end Pal
