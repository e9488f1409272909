/- DebtNets: a part (2 of 9) of the proof of its row. -/
import Derived.Test.YtmeophcclkejkaaGreatNea
import Derived.Conc.WgLib
import Derived.Conc.WgArith
import Derived.Conc.WgGenW
set_option linter.all false
set_option maxRecDepth 100000
namespace Pal
open Go Go.Conc
open Go.ConcN (upd upd_same upd_ne sumTo sumTo_upd sumTo_upd_out sumTo_congr le_sumTo sumTo_le)
def cU:Nx->Nat
 | .ph (.Ha _) | .ph .HI | .ph .Gv | .ph .IG | .ph .Hc | .ph (.lk _ _)=>1
 | _=>0
def cL:Nx->Nat
 | .ph .GM | .ph .G8=>1
 | _=>0
def cS:Nx->Nat
 | .ph .Fi=>1
 | _=>0
def pend:Nx->Nat
 | .ph (.Ip _) | .ph (.HB _) | .ph (.GX _) | .ph (.FO _)=>1
 | _=>0
def got:Nx->List Nat
 | .ph (.FI K _)=>K
 | _=> []
def Nb:Nx->Prop
 | .gone _=>True
 | _=>False
def Hy(n j:Nat)(c:Bool):Ph->Prop
 | .Gc K | .Ii K | .Ip K | .HB K | .GX K | .FO K=>K=j/\j<n/\c=false
 | .GR=>j=n/\c=false
 | .FI _ _=>j=n/\c=true
 | _=>False
def GJ(F:Fam)(k:Nat):Nx->Prop
 | .gone _=>True
 | .ph (.Ha k')=>k'=k/\F.has k=true
 | .ph (.lk k' _)=>k'=k
 | .ph .HI | .ph .Gv | .ph .IG | .ph .Hc | .ph .GM | .ph .G8 | .ph .Fi=>True
 | _=>False
def I7:Nx->Prop
 | .gone _=>True
 | .ph .Dt | .ph (.FZ _) | .ph (.Hf _) | .ph .Io | .ph .HK | .ph .Fv | .ph .G7 | .ph .F5 | .ph .Ij | .ph .Gb | .ph .Hz=>True
 | _=>False
def DD(x:Nx)(v wt sm L S:Nat)(cl:Bool):Prop:=
 match x with
 | .ph .Dt=>L=0/\S=0/\sm=0/\wt=0/\cl=false
 | .ph (.FZ m)=>L=0/\S=0/\sm=0/\wt=0/\cl=false/\v<=m
 | .ph (.Hf m)=>L=0/\S=0/\sm=0/\wt=0/\cl=false/\v<=m/\1<=m
 | .ph .Io | .ph .HK | .ph .Fv=>L+S+sm+min v 1=1/\wt=L+min v 1/\cl=false
 | .ph .G7 | .ph .F5 | .ph .Ij | .ph .Gb | .ph .Hz=>L=0/\S=0/\sm=0/\wt=0/\v=0/\cl=false
 | .gone _=>L=0/\S=0/\sm=0/\wt=0/\v=0/\cl=true
 | _=>False
structure CH (F:Fam) (N0 N j:Nat) (c:Bool) (φ:Nat->Nx) (v wt sm:Nat) (cl:Bool):Prop where
 pos:0<N0
 n1:1<=F.n
 HL:F.n<2147483647
 size:N=N0+j+c.toNat
 jn:j<=F.n
 cj:c=true->j=F.n
 main:∃p,φ 0= .ph p/\Hy F.n j c p
 old:∀i,0<i->i<N0->Nb (φ i)
 work:∀k,k<j->GJ F k (φ (N0+k))
 cls:c=true->I7 (φ (N0+F.n))
 cnt:v=sumTo N (λi=>cU (φ i))+pend (φ 0)
 JU:v<=j+pend (φ 0)
 mode:DD (if c=true then φ (N0+F.n) else .ph .Dt) v wt sm (sumTo N λi=>cL (φ i)) (sumTo N λi=>cS (φ i)) cl
 Kr:∀k,k<j->F.has k=true->(φ (N0+k)= .ph (.Ha k)↔k ∉ got (φ 0))
 nd:(got (φ 0)).Nodup
 sub:∀k∈got (φ 0),k<j/\F.has k=true
section
variable {F:Fam}{N0 N j:Nat}{c:Bool}{φ:Nat->Nx}{v wt sm v' wt' sm':Nat}{cl cl':Bool}
theorem CH.EB(h:CH F N0 N j c φ v wt sm cl){i:Nat}(hi:i<N):i=0∨(0<i/\i<N0)∨(∃k,k<j/\i=N0+k)∨(c=true/\i=N0+F.n):=by
 have:=h.size;rcases Nat.eq_zero_or_pos i with K | K
 ·exact .inl K
 rcases Nat.lt_or_ge i N0 with U | U
 ·exact .inr (.inl ⟨K,U⟩)
 rcases Nat.lt_or_ge i (N0+j) with Y | Y
 ·exact .inr (.inr (.inl ⟨i - N0,by omega,by omega⟩))
 ·cases O:c with
  | false=>rw [O] at this;simp at this;omega
  | true=>have e:=h.cj O;rw [O] at this;simp at this;exact .inr (.inr (.inr ⟨rfl,by omega⟩))
theorem CH.P1(h:CH F N0 N j c φ v wt sm cl):v<=F.n:=by
 have K:=h.JU;obtain⟨p,O,hm⟩:=h.main;have:=h.jn;rw [O] at K;cases p <;> simp [Hy] at hm <;> simp [pend] at K <;> omega
theorem CH.Ik(h:CH F N0 N j c φ v wt sm cl){k:Nat}(ag:k<j){x:Nx}(al:GJ F k x)(am:∀k',φ (N0+k)≠ .ph (.Ha k'))(ap:∀k',x≠ .ph (.Ha k'))
  (a4:v'+cU (φ (N0+k))=v+cU x)
  (hm:∀L S,L+cL (φ (N0+k))=(sumTo N λi=>cL (φ i))+cL x->S+cS (φ (N0+k))=(sumTo N λi=>cS (φ i))+cS x->DD (if c=true then φ (N0+F.n) else .ph .Dt) v' wt' sm' L S cl'):
  CH F N0 N j c (upd φ (N0+k) x) v' wt' sm' cl':=by
 have a5:=h.size;have a6:=h.jn;have a7:=h.pos;have Y:N0+k<N:=by omega
 have K:upd φ (N0+k) x 0=φ 0:=upd_ne _ _ (by omega);have aq:(if c=true then upd φ (N0+k) x (N0+F.n) else .ph .Dt)=(if c=true then φ (N0+F.n) else .ph .Dt):=by
  cases O:c with
  | false=>rfl
  | true=>have:=h.cj O;simp only [if_true];exact upd_ne _ _ (by omega)
 have s1:=sumTo_upd φ x cU Y;have s2:=sumTo_upd φ x cL Y;have aw:=sumTo_upd φ x cS Y;have a8:=h.cnt;have a9:=h.JU;refine⟨h.pos,h.n1,h.HL,h.size,h.jn,h.cj,by rw [K];exact h.main,λi ay az=>by rw [upd_ne _ _ (by omega)];exact h.old i ay az,λk' U=>?_,λO=>?_,by rw [K];omega,?_,?_,λk' U hh=>?_,by rw [K];exact h.nd,by rw [K];exact h.sub⟩
 ·by_cases e:k'=k
  ·subst e;rw [upd_same];exact al
  ·rw [upd_ne _ _ (by omega)];exact h.work k' U
 ·have:=h.cj O;rw [upd_ne _ _ (by omega)];exact h.cls O
 ·rw [K];have:cU x<=1:=by cases x with
   | gone d=>simp [cU]
   | ph p=>cases p <;> simp [cU]
  have hw:=h.work k ag;have key:cU x<=cU (φ (N0+k))∨cU (φ (N0+k))<cU x:=by omega
  rcases key with hle | bb
  ·omega
  ·
   have:(sumTo N λa=>cU (upd φ (N0+k) x a))<=j:=by
    have hb:∀M,M<=N->(sumTo M λa=>cU (upd φ (N0+k) x a))<=min (M - N0) j:=by
     intro M
     induction M with
     | zero=>intro _;simp [sumTo]
     | succ M a0=>
      intro be;have:=a0 (by omega);simp only [sumTo];have bi:cU (upd φ (N0+k) x M)<=1:=by
       generalize upd φ (N0+k) x M=y;cases y with
       | gone d=>simp [cU]
       | ph p=>cases p <;> simp [cU]
      have ac:(M<N0∨N0+j<=M)->cU (upd φ (N0+k) x M)=0:=by
       intro bn;rw [upd_ne _ _ (by omega)];rcases h.EB (i:=M) (by omega) with rfl | ⟨a,b⟩ | ⟨k',a,rfl⟩ | ⟨a,rfl⟩
       ·obtain⟨p,a1,hm⟩:=h.main;rw [a1];cases p <;> simp [Hy] at hm <;> rfl
       ·have:=h.old M a b;cases Z:φ M with
        | gone d=>rfl
        | ph p=>rw [Z] at this;exact this.elim
       ·omega
       ·have:=h.cls a;cases Z:φ (N0+F.n) with
        | gone d=>rfl
        | ph p=>rw [Z] at this;cases p <;> simp [I7] at this <;> rfl
      rcases Nat.lt_or_ge M N0 with q | q
      ·rw [ac (.inl q)];omega
      ·rcases Nat.lt_or_ge M (N0+j) with q' | q'
       ·omega
       ·rw [ac (.inr q')];omega
    have:=hb N (Nat.le_refl _);omega
   omega
 ·rw [aq];exact hm _ _ s2 aw
 ·rw [K];by_cases e:k'=k
  ·subst e;rw [upd_same];have:=h.Kr k' U hh;constructor
   ·intro a2;exact absurd a2 (ap k')
   ·intro a3;exact absurd (this.2 a3) (am k')
  ·rw [upd_ne _ _ (by omega)];exact h.Kr k' U hh
theorem CH.HF(h:CH F N0 N j c φ v wt sm cl)(O:c=true){x:Nx}(Z:I7 x)
  (hm:DD x v wt' sm' (sumTo N λi=>cL (φ i)) (sumTo N λi=>cS (φ i)) cl'):
  CH F N0 N j c (upd φ (N0+F.n) x) v wt' sm' cl':=by
 have ac:=h.size;have aq:=h.pos;have aw:=h.cj O;have U:N0+F.n<N:=by rw [O] at ac;simp at ac;omega
 have K:upd φ (N0+F.n) x 0=φ 0:=upd_ne _ _ (by omega);have z:∀y,I7 y->cU y=0/\cL y=0/\cS y=0:=by
  intro y ag;cases y with
  | gone d=>exact⟨rfl,rfl,rfl⟩
  | ph p=>cases p <;> simp [I7] at ag <;> exact⟨rfl,rfl,rfl⟩
 have z1:=z _ (h.cls O);have ay:=z x Z;have s1:=sumTo_upd φ x cU U;have s2:=sumTo_upd φ x cL U;have az:=sumTo_upd φ x cS U;have a0:=h.cnt;refine⟨h.pos,h.n1,h.HL,h.size,h.jn,h.cj,by rw [K];exact h.main,λi al am=>by rw [upd_ne _ _ (by omega)];exact h.old i al am,λk' Y=>?_,λO=>?_,by rw [K];omega,by rw [K];exact h.JU,?_,λk' Y hh=>?_,by rw [K];exact h.nd,by rw [K];exact h.sub⟩
 ·rw [upd_ne _ _ (by omega)];exact h.work k' Y
 ·rw [upd_same];exact Z
 ·rw [if_pos O,upd_same];have e2:(sumTo N λi=>cL (upd φ (N0+F.n) x i))=sumTo N λi=>cL (φ i):=by omega
  have ap:(sumTo N λi=>cS (upd φ (N0+F.n) x i))=sumTo N λi=>cS (φ i):=by omega
  rw [e2,ap];exact hm
 ·rw [K,upd_ne _ _ (by omega)];exact h.Kr k' Y hh
theorem QX{n j:Nat}{c:Bool}{p:Ph}(h:Hy n j c p):cU (.ph p)=0/\cL (.ph p)=0/\cS (.ph p)=0:=by
 cases p <;> simp [Hy] at h <;> exact⟨rfl,rfl,rfl⟩
theorem CH.Lf(h:CH F N0 N j c φ v wt sm cl){p:Ph}(Y:Hy F.n j c p)(K:got (.ph p)=got (φ 0))(ay:v'+pend (φ 0)=v+pend (.ph p))(Z:v'<=j+pend (.ph p))
  (hm:DD (if c=true then φ (N0+F.n) else .ph .Dt) v' wt' sm' (sumTo N λi=>cL (φ i)) (sumTo N λi=>cS (φ i)) cl'):
  CH F N0 N j c (upd φ 0 (.ph p)) v' wt' sm' cl':=by
 have az:=h.size;have a0:=h.pos;have O:0<N:=by omega
 obtain⟨a1,ac,ag⟩:=h.main;have z1:=QX ag;have a2:=QX Y;rw [← ac] at z1;have s1:=sumTo_upd φ (.ph p) cU O;have s2:=sumTo_upd φ (.ph p) cL O;have a3:=sumTo_upd φ (.ph p) cS O;have a4:=h.cnt;have al:(if c=true then upd φ 0 (.ph p) (N0+F.n) else .ph .Dt)=(if c=true then φ (N0+F.n) else .ph .Dt):=by rw [upd_ne _ _ (by omega)]
 refine⟨h.pos,h.n1,h.HL,h.size,h.jn,h.cj,⟨p,upd_same _ _ _,Y⟩,λi am ap=>by rw [upd_ne _ _ (by omega)];exact h.old i am ap,λk' U=>by rw [upd_ne _ _ (by omega)];exact h.work k' U,λaq=>by rw [upd_ne _ _ (by omega)];exact h.cls aq,by rw [upd_same];omega,by rw [upd_same];exact Z,?_,λk' U hh=>?_,by rw [upd_same,K];exact h.nd,by rw [upd_same,K];exact h.sub⟩
 ·rw [al];have e2:(sumTo N λi=>cL (upd φ 0 (.ph p) i))=sumTo N λi=>cL (φ i):=by omega
  have aw:(sumTo N λi=>cS (upd φ 0 (.ph p) i))=sumTo N λi=>cS (φ i):=by omega
  rw [e2,aw];exact hm
 ·rw [upd_same,K,upd_ne _ _ (by omega)];exact h.Kr k' U hh
theorem CH.act(h:CH F N0 N j c φ v wt sm cl){i:Nat}(hi:i<N){p:Ph}(K:φ i= .ph p){es:Array Event}{a5:Nx}(O:F.act p v wt sm=some ((v',wt',sm'),es,a5)):
  CH F N0 N j c (upd φ i a5) v' wt' sm' cl:=by
 have U:=h.mode;have a7:=h.P1;rcases h.EB hi with rfl | ⟨a,b⟩ | ⟨k,aw,rfl⟩ | ⟨ac,rfl⟩
 ·
  obtain⟨a1,a6,ay⟩:=h.main;have:a1=p:=by rw [a6] at K;exact Nx.ph.inj K
  subst this;have a9:∀q,Hy F.n j c q->(∀a8 vs,q≠ .FI a8 vs)->c=false:=by
   intro q a2 a3;cases q <;> simp [Hy] at a2 <;> first | exact a2.2.2 | exact a2.2 | exact absurd rfl (a3 _ _)
  have ap:=h.JU;cases a1 <;> simp only [Hy] at ay <;> (try exact ay.elim) <;> simp only [Fam.act] at O <;> (try (cases O;done))
  ·cases O;obtain⟨rfl,aq,rfl⟩:=ay;exact h.Lf (p:= .Ii _) ⟨rfl,aq,rfl⟩ (by rw [K];rfl) (by rw [K];rfl) (by rw [K] at ap;exact ap) (by simpa [DD] using U)
  ·split at O
   ·rename_i ag;cases O;obtain⟨rfl,aq,rfl⟩:=ay;rw [K] at ap;simp only [pend,Nat.add_zero] at ap;simp only [Bool.false_eq_true,if_false,DD] at U;split
    ·exact h.Lf (p:= .Ip _) ⟨rfl,aq,rfl⟩ (by rw [K];rfl) (by rw [K];simp [pend]) (by simp [pend];omega) ⟨U.1,U.2.1,U.2.2.1,rfl,U.2.2.2.2⟩
    ·exact h.Lf (p:= .GX _) ⟨rfl,aq,rfl⟩ (by rw [K];rfl) (by rw [K];simp [pend]) (by simp [pend];omega) ⟨U.1,U.2.1,U.2.2.1,rfl,U.2.2.2.2⟩
   ·cases O
  ·cases O;obtain⟨rfl,aq,rfl⟩:=ay;exact h.Lf (p:= .GX _) ⟨rfl,aq,rfl⟩ (by rw [K];rfl) (by rw [K];rfl) (by rw [K] at ap;exact ap) (by simpa [DD] using U)
  ·cases O;obtain⟨rfl,aq,rfl⟩:=ay;exact h.Lf (p:= .FO _) ⟨rfl,aq,rfl⟩ (by rw [K];rfl) (by rw [K];rfl) (by rw [K] at ap;exact ap) (by simpa [DD] using U)
  ·cases O;obtain⟨rfl,aq,rfl⟩:=ay;exact h.Lf (p:= .HB _) ⟨rfl,aq,rfl⟩ (by rw [K];rfl) (by rw [K];rfl) (by rw [K] at ap;exact ap) (by simpa [DD] using U)
 ·have:=h.old i a b;rw [K] at this;exact this.elim
 ·
  have hw:=h.work k aw;rw [K] at hw;have bb:∀q k',q=Nx.ph p->(∀k',p≠ .Ha k')->q≠ .ph (.Ha k'):=by
   rintro q k' rfl a3 e;exact a3 k' (Nx.ph.inj e)
  cases p <;> simp only [GJ] at hw <;> (try exact hw.elim) <;> simp only [Fam.act] at O <;> (try (cases O;done))
  ·cases O;refine h.Ik aw (x:= .ph .IG) trivial (λk'=>by rw [K];simp) (by simp) (by rw [K];rfl) λL S Y Z=>?_;rw [K] at Y Z;simp only [cL,cS,Nat.add_zero] at Y Z;subst Y Z;exact U
  ·cases O;refine h.Ik aw (x:= .ph .Hc) trivial (λk'=>by rw [K];simp) (by simp) (by rw [K];rfl) λL S Y Z=>?_;rw [K] at Y Z;simp only [cL,cS,Nat.add_zero] at Y Z;subst Y Z;exact U
  ·split at O
   ·rename_i ag;cases O;have a0:∀y al am L S,y=(if c=true then φ (N0+F.n) else .ph .Dt)->DD y v wt sm al am cl->(if v=1/\wt=1 then L=al+1 else L=al)->S=am->DD y (v - 1) wt sm L S cl:=by
     intro y al am L S be hm Y Z;cases y with
     | gone d=>simp only [DD] at hm ⊢;split at Y <;> omega
     | ph q=>
      cases q <;> simp only [DD] at hm ⊢ <;> (try exact hm) <;> (try (split at Y <;> omega))
      ·split at Y
       ·exfalso;omega
       ·exact⟨by omega,by omega,by omega,by omega,hm.2.2.2.2⟩
      ·split at Y
       ·exfalso;omega
       ·exact⟨by omega,by omega,by omega,by omega,hm.2.2.2.2.1,by omega⟩
      ·split at Y
       ·exfalso;omega
       ·exact⟨by omega,by omega,by omega,by omega,hm.2.2.2.2.1,by omega,by omega⟩
      ·split at Y
       ·exact⟨by omega,by omega,hm.2.2⟩
       ·exact⟨by omega,by omega,hm.2.2⟩
      ·split at Y
       ·exact⟨by omega,by omega,hm.2.2⟩
       ·exact⟨by omega,by omega,hm.2.2⟩
      ·split at Y
       ·exact⟨by omega,by omega,hm.2.2⟩
       ·exact⟨by omega,by omega,hm.2.2⟩
    split
    ·rename_i az;refine h.Ik aw (x:= .ph .GM) trivial (λk'=>by rw [K];simp) (by simp) (by rw [K];simp [cU];omega) λL S Y Z=>?_;rw [K] at Y Z;simp only [cL,cS,Nat.add_zero] at Y Z;exact a0 _ _ _ L S rfl U (by rw [if_pos az];exact Y) Z
    ·rename_i az;refine h.Ik aw (x:= .gone 1) trivial (λk'=>by rw [K];simp) (by simp) (by rw [K];simp [cU];omega) λL S Y Z=>?_;rw [K] at Y Z;simp only [cL,cS,Nat.add_zero] at Y Z;exact a0 _ _ _ L S rfl U (by rw [if_neg az];exact Y) Z
   ·cases O
  ·split at O
   ·rename_i ag;cases O;refine h.Ik aw (x:= .ph .G8) trivial (λk'=>by rw [K];simp) (by simp) (by rw [K];simp [cU];omega) λL S Y Z=>?_;rw [K] at Y Z;simp only [cL,cS,Nat.add_zero] at Y Z;have e:L=sumTo N λi=>cL (φ i):=by
     have bi:L+1=(sumTo N λi=>cL (φ i))+1:=Y;omega
    obtain⟨az,a4⟩:=ag;subst e Z az a4;exact U
   ·cases O
  ·split at O
   ·rename_i ag;cases O;obtain⟨az,a4⟩:=ag;subst az a4;refine h.Ik aw (x:= .ph .Fi) trivial (λk'=>by rw [K];simp) (by simp) (by rw [K];simp [cU]) λL S Y Z=>?_;rw [K] at Y Z;simp only [cL,cS,Nat.add_zero] at Y Z;have a0:∀y al am,DD y 0 1 sm al am cl->L+1=al->S=am+1->DD y 0 0 sm L S cl:=by
     intro y al am hm Y Z;cases y with
     | gone d=>simp only [DD] at hm ⊢;omega
     | ph q=>
      cases q <;> simp only [DD] at hm ⊢ <;> (try exact hm) <;> (try (exfalso;omega))
      ·exact⟨by omega,by omega,hm.2.2⟩
      ·exact⟨by omega,by omega,hm.2.2⟩
      ·exact⟨by omega,by omega,hm.2.2⟩
    exact a0 _ _ _ U Y Z
   ·cases O
  ·split at O
   ·rename_i ag;cases O;subst ag;refine h.Ik aw (x:= .gone 1) trivial (λk'=>by rw [K];simp) (by simp) (by rw [K];simp [cU]) λL S Y Z=>?_;rw [K] at Y Z;simp only [cL,cS,Nat.add_zero] at Y Z;have a0:∀y al am,DD y v wt 0 al am cl->L=al->S+1=am->DD y v wt 1 L S cl:=by
     intro y al am hm Y Z;cases y with
     | gone d=>simp only [DD] at hm ⊢;omega
     | ph q=>
      cases q <;> simp only [DD] at hm ⊢ <;> (try exact hm) <;> (try (exfalso;omega))
      ·exact⟨by omega,by omega,hm.2.2⟩
      ·exact⟨by omega,by omega,hm.2.2⟩
      ·exact⟨by omega,by omega,hm.2.2⟩
    exact a0 _ _ _ U Y Z
   ·cases O
  ·cases O;refine h.Ik aw (x:= .ph .Gv) trivial (λk'=>by rw [K];simp) (by simp) (by rw [K];rfl) λL S Y Z=>?_;rw [K] at Y Z;simp only [cL,cS,Nat.add_zero] at Y Z;subst Y Z;exact U
 ·
  have hw:=h.cls ac;rw [if_pos ac,K] at U;rw [K] at hw;obtain⟨a1,a6,ay⟩:=h.main;cases p <;> simp only [I7] at hw <;> (try exact hw.elim) <;> simp only [Fam.act] at O <;> (try (cases O;done)) <;> simp only [DD] at U
  ·cases O;exact h.HF ac (x:= .ph (.FZ F.n)) trivial ⟨U.1,U.2.1,U.2.2.1,U.2.2.2.1,U.2.2.2.2,a7⟩
  ·split at O
   ·rename_i m ag;cases O;split
    ·exact h.HF ac (x:= .ph .F5) trivial ⟨U.1,U.2.1,U.2.2.1,rfl,by assumption,U.2.2.2.2.1⟩
    ·exact h.HF ac (x:= .ph (.Hf _)) trivial ⟨U.1,U.2.1,U.2.2.1,rfl,U.2.2.2.2.1,Nat.le_refl _,by omega⟩
   ·cases O
  ·split at O
   ·rename_i m ag;split at O
    ·cases O;exact h.HF ac (x:= .ph .Io) trivial ⟨by omega,by omega,U.2.2.2.2.1⟩
    ·cases O;exact h.HF ac (x:= .ph (.FZ _)) trivial ⟨U.1,U.2.1,U.2.2.1,rfl,U.2.2.2.2.1,by omega⟩
   ·cases O
  ·cases O;exact h.HF ac (x:= .ph .Fv) trivial U
  ·split at O
   ·rename_i ag;cases O;exact h.HF ac (x:= .ph .G7) trivial ⟨by omega,by omega,rfl,by omega,by omega,U.2.2⟩
   ·cases O
  ·split at O
   ·rename_i ag;obtain⟨rfl,rfl⟩:=ag;cases O;exact h.HF ac (x:= .ph .F5) trivial U
   ·cases O
  ·cases O;exact h.HF ac (x:= .ph .Ij) trivial U
  ·cases O;exact h.HF ac (x:= .ph .HK) trivial U
  ·cases O;exact h.HF ac (x:= .ph .Gb) trivial U
end
end Pal
namespace Pal
open Go Go.Conc
open Go.ConcN (upd upd_same upd_ne sumTo sumTo_upd sumTo_upd_out sumTo_congr le_sumTo sumTo_le fork_knows)
section
variable {F:Fam}{N0 N j:Nat}{c:Bool}{φ:Nat->Nx}{v wt sm:Nat}{cl:Bool}
theorem CH.spawn(h:CH F N0 N j c φ v wt sm cl)(U:φ 0= .ph (.FO j)):
  CH F N0 (N+1) (j+1) c (upd (upd φ N (.ph (F.start j))) 0 (.ph (F.Fu j))) v wt sm cl:=by
 obtain⟨aw,ay,az⟩:=h.main;obtain rfl:aw= .FO j:=by rw [ay] at U;exact Nx.ph.inj U
 obtain⟨_,a4,rfl⟩:=az;have a0:=h.size;have a5:=h.pos;simp only [Bool.toNat_false,Nat.add_zero] at a0;have Y:cU (.ph (F.start j))=1/\cL (.ph (F.start j))=0/\cS (.ph (F.start j))=0:=by
  exact⟨rfl,rfl,rfl⟩
 have K:cU (.ph (F.Fu j))=0/\cL (.ph (F.Fu j))=0/\cS (.ph (F.Fu j))=0/\pend (.ph (F.Fu j))=0/\got (.ph (F.Fu j))= []:=by
  unfold Fam.Fu;split <;> exact⟨rfl,rfl,rfl,rfl,rfl⟩
 have Z:cU (φ 0)=0/\cL (φ 0)=0/\cS (φ 0)=0:=by rw [U];exact⟨rfl,rfl,rfl⟩
 let φ':Nat->Nx:=upd (upd φ N (.ph (F.start j))) 0 (.ph (F.Fu j));have O:φ' 0= .ph (F.Fu j):=upd_same _ _ _;have aq:φ' N= .ph (F.start j):=by show upd _ _ _ _=_;rw [upd_ne _ _ (by omega),upd_same]
 have ac:∀i,0<i->i≠N->φ' i=φ i:=λi ag al=>by show upd _ _ _ _=_;rw [upd_ne _ _ (by omega),upd_ne _ _ al]
 have sum:∀f:Nx->Nat,f (φ 0)=0->f (.ph (F.Fu j))=0->(sumTo (N+1) λi=>f (φ' i))=(sumTo N λi=>f (φ i))+f (.ph (F.start j)):=by
  intro f f0 f1;simp only [sumTo,aq];congr 1;have a1:0<N:=by omega
  have:=sumTo_upd (upd φ N (.ph (F.start j))) (.ph (F.Fu j)) f a1;have e2:upd φ N (.ph (F.start j)) 0=φ 0:=upd_ne _ _ (by omega);rw [e2,f0,f1] at this;have a6:=sumTo_upd_out φ (.ph (F.start j)) f (i:=N) (j:=N) (Nat.le_refl _);show sumTo N (λi=>f (upd (upd φ N (.ph (F.start j))) 0 (.ph (F.Fu j)) i))=_;omega
 have am:=h.cnt;have ap:=h.JU;rw [U] at am ap;simp only [pend] at am ap;show CH F N0 (N+1) (j+1) false φ' v wt sm cl;have a2:got (φ 0)= []:=by rw [U];rfl
 refine⟨h.pos,h.n1,h.HL,by simp;omega,by omega,by simp,⟨F.Fu j,O,?_⟩,λi ag al=>by rw [ac i ag (by omega)];exact h.old i ag al,λk a3=>?_,by simp,?_,?_,?_,λk a3 hh=>?_,by rw [O,K.2.2.2.2];exact .nil,by rw [O,K.2.2.2.2];simp⟩
 ·unfold Fam.Fu;split
  ·exact⟨by assumption,rfl⟩
  ·exact⟨rfl,by omega,rfl⟩
 ·by_cases e:k=j
  ·subst e;rw [show N0+k=N by omega,aq];exact rfl
  ·rw [ac _ (by omega) (by omega)];exact h.work k (by omega)
 ·rw [O,K.2.2.2.1,sum cU Z.1 K.1,Y.1];exact am
 ·rw [O,K.2.2.2.1];exact ap
 ·have hm:=h.mode;simp only [Bool.false_eq_true,if_false] at hm ⊢;rw [sum cL Z.2.1 K.2.1,sum cS Z.2.2 K.2.2.1,Y.2.1,Y.2.2];exact hm
 ·rw [O,K.2.2.2.2];by_cases e:k=j
  ·exact absurd hh Bool.false_ne_true
  ·rw [ac _ (by omega) (by omega)];have:=h.Kr k (by omega) hh
   rwa [a2] at this
theorem CH.YJ(h:CH F N0 N j c φ v wt sm cl)(O:φ 0= .ph .GR):
  CH F N0 (N+1) j true (upd (upd φ N (.ph .Dt)) 0 (.ph (.FI [] []))) v wt sm cl:=by
 obtain⟨aw,ay,az⟩:=h.main;obtain rfl:aw= .GR:=by rw [ay] at O;exact Nx.ph.inj O
 obtain⟨aq,rfl⟩:=az;have a0:=h.size;have a3:=h.pos;simp only [Bool.toNat_false,Nat.add_zero] at a0;have U:cU (φ 0)=0/\cL (φ 0)=0/\cS (φ 0)=0:=by rw [O];exact⟨rfl,rfl,rfl⟩
 let φ':Nat->Nx:=upd (upd φ N (.ph .Dt)) 0 (.ph (.FI [] []));have K:φ' 0= .ph (.FI [] []):=upd_same _ _ _;have Y:φ' N= .ph .Dt:=by show upd _ _ _ _=_;rw [upd_ne _ _ (by omega),upd_same]
 have Z:∀i,0<i->i≠N->φ' i=φ i:=λi ac ag=>by show upd _ _ _ _=_;rw [upd_ne _ _ (by omega),upd_ne _ _ ag]
 have sum:∀f:Nx->Nat,f (φ 0)=0->f (.ph (.FI [] []))=0->f (.ph .Dt)=0->(sumTo (N+1) λi=>f (φ' i))=(sumTo N λi=>f (φ i)):=by
  intro f f0 f1 f2;simp only [sumTo,Y,f2];have a1:0<N:=by omega
  have:=sumTo_upd (upd φ N (.ph .Dt)) (.ph (.FI [] [])) f a1;have e2:upd φ N (.ph .Dt) 0=φ 0:=upd_ne _ _ (by omega);rw [e2,f0,f1] at this;have a4:=sumTo_upd_out φ (.ph .Dt) f (i:=N) (j:=N) (Nat.le_refl _);show sumTo N (λi=>f (upd (upd φ N (.ph .Dt)) 0 (.ph (.FI [] [])) i))+0=_;omega
 have al:=h.cnt;have am:=h.JU;rw [O] at al am;simp only [pend] at al am;show CH F N0 (N+1) j true φ' v wt sm cl;have a2:got (φ 0)= []:=by rw [O];rfl
 refine⟨h.pos,h.n1,h.HL,by simp;omega,h.jn,λ_=>aq,⟨.FI [] [],K,aq,rfl⟩,λi ac ag=>by rw [Z i ac (by omega)];exact h.old i ac ag,λk ap=>?_,λ_=>by rw [show N0+F.n=N by omega,Y];trivial,?_,?_,?_,λk ap hh=>?_,by rw [K];exact .nil,by rw [K];simp [got]⟩
 ·rw [Z _ (by omega) (by omega)];exact h.work k ap
 ·rw [K,sum cU U.1 rfl rfl];exact al
 ·rw [K];exact am
 ·have hm:=h.mode;simp only [Bool.false_eq_true,if_false,if_true] at hm ⊢;rw [show N0+F.n=N by omega,Y,sum cL U.2.1 rfl rfl,sum cS U.2.2 rfl rfl];exact hm
 ·rw [K];rw [Z _ (by omega) (by omega)];have:=h.Kr k ap hh
  rwa [a2] at this
theorem CH.leave(h:CH F N0 N j c φ v wt sm cl){i d d':Nat}(hi:i<N)(K:φ i= .gone d):CH F N0 N j c (upd φ i (.gone d')) v wt sm cl:=by
 rcases h.EB hi with rfl | ⟨a,b⟩ | ⟨k,U,rfl⟩ | ⟨Y,rfl⟩
 ·obtain⟨p,Z,_⟩:=h.main;rw [K] at Z;cases Z
 ·have am:=hi;have z:∀f:Nx->Nat,f (.gone d)=0->f (.gone d')=0->(sumTo N λa=>f (upd φ i (.gone d') a))=sumTo N λa=>f (φ a):=by
   intro f f0 f1;have:=sumTo_upd φ (.gone d') f am;rw [K] at this;omega
  have ay:=h.size;have O:upd φ i (.gone d') 0=φ 0:=upd_ne _ _ (by omega);refine⟨h.pos,h.n1,h.HL,h.size,h.jn,h.cj,by rw [O];exact h.main,λac ap aq=>?_,λk U=>by rw [upd_ne _ _ (by omega)];exact h.work k U,λY=>by rw [upd_ne _ _ (by omega)];exact h.cls Y,by rw [O,z cU rfl rfl];exact h.cnt,by rw [O];exact h.JU,?_,λk U hh=>by rw [O,upd_ne _ _ (by omega)];exact h.Kr k U hh,by rw [O];exact h.nd,by rw [O];exact h.sub⟩
  ·by_cases e:ac=i
   ·subst e;rw [upd_same];trivial
   ·rw [upd_ne _ _ e];exact h.old ac ap aq
  ·rw [z cL rfl rfl,z cS rfl rfl,upd_ne _ _ (by omega)];exact h.mode
 ·refine h.Ik U (x:= .gone d') trivial (by rw [K];simp) (by simp) (by rw [K];rfl) λL S ag al=>?_;rw [K] at ag al;have aw:L=sumTo N λi=>cL (φ i):=ag;have e2:S=sumTo N λi=>cS (φ i):=al;subst aw e2;exact h.mode
 ·have hm:=h.mode;rw [if_pos Y,K] at hm;exact h.HF Y (x:= .gone d') trivial hm
theorem CH.Xq(h:CH F N0 N j c φ v wt sm cl)(O:c=true)(U:φ (N0+F.n)= .ph .G7∨φ (N0+F.n)= .ph .F5∨φ (N0+F.n)= .ph .Gb∨φ (N0+F.n)= .ph .Hz∨Nb (φ (N0+F.n))):∀k,k<j->Nb (φ (N0+k)):=by
 intro k Y;have hm:=h.mode;rw [if_pos O] at hm;have Z:=h.size;have ac:=h.cnt;have ag:cU (φ (N0+k))<=sumTo N λi=>cU (φ i):=le_sumTo (f:=λi=>cU (φ i)) (show N0+k<N by omega);have al:cL (φ (N0+k))<=sumTo N λi=>cL (φ i):=le_sumTo (f:=λi=>cL (φ i)) (show N0+k<N by omega);have am:cS (φ (N0+k))<=sumTo N λi=>cS (φ i):=le_sumTo (f:=λi=>cS (φ i)) (show N0+k<N by omega);have ap:v=0/\(sumTo N λi=>cL (φ i))=0/\(sumTo N λi=>cS (φ i))=0:=by
  rcases U with e | e | e | e | e
  ·rw [e] at hm;exact⟨hm.2.2.2.2.1,hm.1,hm.2.1⟩
  ·rw [e] at hm;exact⟨hm.2.2.2.2.1,hm.1,hm.2.1⟩
  ·rw [e] at hm;exact⟨hm.2.2.2.2.1,hm.1,hm.2.1⟩
  ·rw [e] at hm;exact⟨hm.2.2.2.2.1,hm.1,hm.2.1⟩
  ·cases K:φ (N0+F.n) with
   | gone d=>rw [K] at hm;exact⟨hm.2.2.2.2.1,hm.1,hm.2.1⟩
   | ph p=>rw [K] at e;exact e.elim
 have hw:=h.work k Y;cases K:φ (N0+k) with
 | gone d=>trivial
 | ph p=>
  have aq:1<=cU (φ (N0+k))+cL (φ (N0+k))+cS (φ (N0+k)):=by
   rw [K] at hw ⊢;cases p <;> simp only [GJ] at hw <;> simp [cU,cL,cS]
  exfalso;omega
end
open Go.ConcN (RelBy)
def dl:LP->Nat
 | .Hb | .El _ _ _ | .Cp _ _ _ _ | .Ig _ | .Cz _ | .FY | .EA _ | .Ek _ | .len=>1
 | .HG | .EJ _ | .He | .EW _ | .EY=>1
 | _=>0
def FN:Nx->Nat
 | .gone d=>d
 | .ph .Hc | .ph .GM | .ph .G8 | .ph .Fi=>1
 | .ph (.FZ _) | .ph (.Hf _) | .ph .Io | .ph .HK | .ph .Fv | .ph .G7 | .ph .F5=>1
 | .ph (.Ii _) | .ph (.Ip _) | .ph (.HB _) | .ph (.GX _)=>1
 | .ph (.lk _ p)=>dl p
 | _=>0
def late:Nx->Prop
 | .ph (.Ha _) | .ph .HI | .ph .Gv | .ph (.lk _ _)=>False
 | _=>True
def KE(t:Trace)(E:LH)(ρ:Nat):Prop:=∀b,E b≠none->∀x a,touchAt t x=some a->CP a.loc=some b->a.write=true->Before t x ρ
structure EV (F:Fam) (N0 t0 N j:Nat) (φ:Nat->Nx) (S:Nat->St) (t:Trace):Prop where
 deaf:∀i,i<N->Deaf t i=FN (φ i)
 above:∀i,N<=i->Deaf t i=0
 plain:∀x a b,touchAt t x=some a->CP a.loc=some b->(b=F.wg∨b=F.mu)->a.kind= .plain->∀i,i<N->(i=0∨N0<=i)->Knows t i x
 said:∀x a b,touchAt t x=some a->CP a.loc=some b->(b=F.wg∨b=F.mu)->a.kind= .said->Knows t 0 x
 Gg:∀x a,touchAt t x=some a->CP a.loc=some F.fd->(∀i,i<N->(i=0∨N0<=i)->Knows t i x)∨∃k,k<j/\t.g? x=some (N0+k)/\t.counts x/\a.loc= .cell ⟨F.fd,k,none⟩
 over:∀x g,t.g? x=some g->g≠0->t.counts x->(∃y,t.g? y=some 0/\HappensBefore t x y)∨(N0<=g/\g<N)
 norel:∀x,t0<=x->t.act? x≠some (.mark (.release F.sA))
 LX:t0<=t.size
 rel:∀k,k<j->late (φ (N0+k))->∃ρ,t0<=ρ/\RelBy F.sA t (N0+k) ρ/\KE t (S (N0+k)).E ρ
section
variable {F:Fam}{N0 t0 N j:Nat}{φ:Nat->Nx}{S:Nat->St}{t u:Trace}
def EvS(F:Fam)(N0 j i:Nat)(e:Event):Prop:=
 (∀a,(MemAct.ofEvent e).touch? =some a->∃b,CP a.loc=some b/\(((b=F.wg∨b=F.mu)/\a.kind≠ .plain/\(a.kind= .said->i=0))∨(b=F.fd/\∃k,k<j/\i=N0+k/\a.loc= .cell ⟨F.fd,k,none⟩/\a.kind= .plain)))/\e.loc≠ .mark (.release F.sA)
theorem EV.noRace(h:EV F N0 t0 N j φ S t)(am:∀said,¬Race said t){i:Nat}(hi:i<N)(Z:i=0∨N0<=i){fn:FuncId}{pos:String}{es:Array Event}
  (ap:∀e∈es,EvS F N0 j i e):∀said,¬Race said (t++MemOp.ofEvents i fn pos es):=by
 intro said;refine noRace_append (g:=i) (am said) (λop O=>by obtain⟨e,_,rfl⟩:=mem_ofEvents O;rfl) λx a U op O d hd aq=>?_;obtain⟨e,he,rfl⟩:=mem_ofEvents O;obtain⟨b,hb,K⟩:=(ap e he).1 d hd;obtain⟨ac,hm,a4,aw⟩:=aq;have Y:CP a.loc=some b:=by rw [ac];exact hb
 rcases K with⟨K,ag,ay⟩ | ⟨rfl,k,ag,az,a0,_⟩
 ·rcases aw with q | q | ⟨_,q,q'⟩
  ·exact h.plain x a b U Y K q i hi Z
  ·exact absurd q ag
  ·have:=h.said x a b U Y K q
   rwa [← ay q'] at this
 ·rcases h.Gg x a U Y with q | ⟨k',_,a1,_,al⟩
  ·exact q i hi Z
  ·rw [ac,a0] at al;have:k=k':=by simpa using al
   subst this;obtain⟨z,a2,a3⟩:=Option.map_eq_some_iff.1 a1;have:=knows_own a2;rw [a3,← az] at this;exact this
theorem ON(h:∀x g,t.g? x=some g->g≠0->t.counts x->(∃y,t.g? y=some 0/\HappensBefore t x y)∨(N0<=g/\g<N))(hu:∀op∈u,op.g=0∨(N0<=op.g/\op.g<N)∨op.act.touch? =none):
  ∀x g,(t++u).g? x=some g->g≠0->(t++u).counts x->(∃y,(t++u).g? y=some 0/\HappensBefore (t++u) x y)∨(N0<=g/\g<N):=by
 intro x g O U Y;rcases Nat.lt_or_ge x t.size with q | q
 ·rcases h x g (by rw [← g?_old (u:=u) q];exact O) U ((counts_old q).1 Y) with⟨y,K,hb⟩ | hh
  ·have al:y<t.size:=by
    unfold Trace.g? at K;obtain⟨z,am,_⟩:=Option.map_eq_some_iff.1 K;exact lt_size_of_getElem? am
   exact .inl ⟨y,by rw [g?_old al];exact K,hb_app u hb⟩
  ·exact .inr hh
 ·obtain⟨a,ap,_⟩:=Y;obtain⟨op,Z,ac⟩:=touch_of ap;have ag:op.g=g:=by simpa [Trace.g?,Z] using O
  rcases getElem?_append_cases Z with⟨aw,_⟩ | ⟨_,aq⟩
  ·omega
  ·rcases hu op aq with z | z | z
   ·exact absurd (ag▸z) U
   ·exact .inr (ag▸z)
   ·rw [z] at ac;cases ac
theorem Oz(h:∀x,t0<=x->t.act? x≠some (.mark (.release F.sA)))(hu:∀op∈u,op.act≠ .mark (.release F.sA)):∀x,t0<=x->(t++u).act? x≠some (.mark (.release F.sA)):=by
 intro x O e;obtain⟨op,U,K⟩:=Option.map_eq_some_iff.1 e;rcases getElem?_append_cases U with⟨_,Y⟩ | ⟨_,Z⟩
 ·exact h x O (by rw [act?_of Y,K])
 ·exact hu op Z K
theorem Ud{g:Nat}(hu:∀op∈u,op.g=g->op.act.touch? =none):∀x,t.size<=x->(t++u).g? x=some g->¬(t++u).counts x:=by
 intro x ag U Y;obtain⟨a,Z,_⟩:=Y;obtain⟨op,K,O⟩:=touch_of Z;rcases getElem?_append_cases K with⟨al,_⟩ | ⟨_,ac⟩
 ·omega
 ·rw [hu op ac (by simpa [Trace.g?,K] using U)] at O;cases O
theorem KE.app{E:LH}{ρ:Nat}(h:KE t E ρ)(hu:∀op∈u,∀a b,op.act.touch? =some a->CP a.loc=some b->a.write=true->E b=none):KE (t++u) E ρ:=by
 intro b hb x a U K hw;obtain⟨op,Y,O⟩:=touch_of U;rcases getElem?_append_cases Y with⟨ag,Z⟩ | ⟨_,ac⟩
 ·exact(h b hb x a (by rw [touchAt_of Z];exact O) K hw).app u
 ·exact absurd (hu op ac a b O K hw) hb
theorem EV.app(h:EV F N0 t0 N j φ S t){i:Nat}(hi:i<N){x:Nx}{s':St}{fn:FuncId}{pos:String}{es:Array Event}
  (hd:deafBehind (FN (φ i)) es=FN x)
  (aq:∀e∈es,(∀a b,(MemAct.ofEvent e).touch? =some a->CP a.loc=some b->(b=F.wg∨b=F.mu)->a.kind≠ .plain/\(a.kind= .said->i=0))/\
   (∀a,(MemAct.ofEvent e).touch? =some a->CP a.loc=some F.fd->∃k,k<j/\i=N0+k/\a.loc= .cell ⟨F.fd,k,none⟩/\a.kind= .plain)/\e.loc≠ .mark (.release F.sA))
  (a8:(i=0∨N0<=i)∨∀e∈es,(MemAct.ofEvent e).touch? =none)
  (a9:∀k,k<j->late (φ (N0+k))->∀e∈es,∀a b,(MemAct.ofEvent e).touch? =some a->CP a.loc=some b->a.write=true->(S (N0+k)).E b=none)
  (ay:∀k,k<j->i=N0+k->late x->(late (φ i)/\s'.E=(S i).E/\∀ρ,RelBy F.sA t i ρ->RelBy F.sA (t++MemOp.ofEvents i fn pos es) i ρ)∨∃ρ,t0<=ρ/\RelBy F.sA (t++MemOp.ofEvents i fn pos es) i ρ/\KE (t++MemOp.ofEvents i fn pos es) s'.E ρ):
  EV F N0 t0 N j (upd φ i x) (upd S i s') (t++MemOp.ofEvents i fn pos es):=by
 generalize hu:MemOp.ofEvents i fn pos es=u at*;have ag:∀op∈u,op.g=i:=λop O=>by rw [← hu] at O;obtain⟨e,_,rfl⟩:=mem_ofEvents O;rfl
 have aw:∀op∈u,∃e∈es,op.act=MemAct.ofEvent e:=λop O=>by rw [← hu] at O;obtain⟨e,he,rfl⟩:=mem_ofEvents O;exact⟨e,he,rfl⟩
 have hold:∀{y a},touchAt (t++u) y=some a->(touchAt t y=some a/\y<t.size)∨(Knows (t++u) i y/\(t++u).g? y=some i/\∃e∈es,(MemAct.ofEvent e).touch? =some a):=by
  intro y a bb;obtain⟨op,O,a2⟩:=touch_of bb;rcases getElem?_append_cases O with⟨ay,be⟩ | ⟨_,az⟩
  ·left;exact⟨by rw [touchAt_of be];exact a2,ay⟩
  ·right;obtain⟨e,he,Z⟩:=aw op az;exact⟨by have:=knows_own O;rwa [ag op az] at this,by simp [Trace.g?,O,ag op az],e,he,by rw [← Z];exact a2⟩
 have a3:∀k,k<j->late (φ (N0+k))->∀ρ,KE t (S (N0+k)).E ρ->KE (t++u) (S (N0+k)).E ρ:=λk K U ρ bi=>bi.app λop bn a b a4 hb hw=>by
  obtain⟨e,he,Z⟩:=aw op bn;rw [Z] at a4;exact a9 k K U e he a b a4 hb hw
 refine⟨λY ac=>?_,λY ac=>?_,λy a b al hb am K Y ac a0=>?_,λy a b al hb am K=>?_,λy a al hb=>?_,ON h.over λop O=>?_,Oz h.norel λop O e=>?_,by simp;have:=h.LX;omega,λk K U=>?_⟩
 ·by_cases e:Y=i
  ·subst e;rw [upd_same,← hu,Deaf_own,h.deaf Y hi,hd]
  ·rw [upd_ne _ _ e,Deaf_other t (Ne.symm e) u ag];exact h.deaf Y ac
 ·rw [Deaf_other t (by omega) u ag];exact h.above Y ac
 ·rcases hold al with⟨q,_⟩ | ⟨_,_,e,he,ap⟩
  ·exact(h.plain y a b q hb am K Y ac a0).app _
  ·exact absurd K ((aq e he).1 a b ap hb am).1
 ·rcases hold al with⟨q,_⟩ | ⟨a5,_,e,he,ap⟩
  ·exact(h.said y a b q hb am K).app _
  ·rw [← ((aq e he).1 a b ap hb am).2 K];exact a5
 ·rcases hold al with⟨q,a6⟩ | ⟨a5,a1,e,he,ap⟩
  ·rcases h.Gg y a q hb with z | ⟨k,K,a1,bo,U⟩
   ·exact .inl λY ac a0=>(z Y ac a0).app _
   ·exact .inr ⟨k,K,by rw [g?_old a6];exact a1,(counts_old a6).2 bo,U⟩
  ·obtain⟨k,K,bq,U,br⟩:=(aq e he).2.1 a ap hb;exact .inr ⟨k,K,by rw [a1,bq],⟨a,al,by rw [U];rfl,.inl (by rw [br];simp)⟩,U⟩
 ·rw [ag op O];rcases a8 with(q | q) | q
  ·exact .inl q
  ·exact .inr (.inl ⟨q,hi⟩)
  ·obtain⟨e,he,Z⟩:=aw op O;rw [Z];exact .inr (.inr (q e he))
 ·obtain⟨ev,bu,Z⟩:=aw op O;rw [Z] at e;exact(aq ev bu).2.2 (by
   obtain⟨loc,wr,bv⟩:=ev
   cases loc with
   | mark m=>simp only [MemAct.ofEvent,MemAct.mark.injEq] at e;rw [e]
   | obj r=>cases wr <;> cases bv <;> simp [MemAct.ofEvent] at e
   | _=>simp [MemAct.ofEvent] at e)
 ·by_cases e:i=N0+k
  ·subst e;rw [upd_same] at U;rw [upd_same];rcases ay k K rfl U with⟨a7,bw,bx⟩ | hh
   ·obtain⟨ρ,a,b,c⟩:=h.rel k K a7;exact⟨ρ,a,bx ρ b,by rw [bw];exact a3 k K a7 ρ c⟩
   ·exact hh
  ·rw [upd_ne _ _ (Ne.symm e)] at U;rw [upd_ne _ _ (Ne.symm e)];obtain⟨ρ,a,b,c⟩:=h.rel k K U;exact⟨ρ,a,b.appOther ag e,a3 k K U ρ c⟩
theorem EV.Dh(h:EV F N0 t0 N j φ S t)(hu:∀op∈u,op.act.touch? =none/\∀m,op.act≠ .mark m):EV F N0 t0 N j φ S (t++u):=by
 have ap:∀g,Deaf (t++u) g=Deaf t g:=by
  intro g;obtain⟨l⟩:=u;rw [Deaf_append];have key:∀(l:List MemOp) (d:Nat),(∀op∈l,∀m,op.act≠ .mark m)->l.foldl (deafStep g) d=d:=by
   intro l
   induction l with
   | nil=>intro d _;rfl
   | cons z l ay=>
    intro d U;have az:=U z (by simp);have e2:deafStep g d z=d:=by
     unfold deafStep;split <;> first | (rename_i e;exact absurd e (az _)) | rfl
    rw [List.foldl_cons,e2];exact ay d λop K=>U op (by simp [K])
  exact key l _ λop K=>(hu op (by simpa using K)).2
 have hold:∀{y a},touchAt (t++u) y=some a->touchAt t y=some a/\y<t.size:=by
  intro y a Z;obtain⟨op,K,ac⟩:=touch_of Z;rcases getElem?_append_cases K with⟨a0,a1⟩ | ⟨_,a2⟩
  ·exact⟨by rw [touchAt_of a1];exact ac,a0⟩
  ·rw [(hu op a2).1] at ac;cases ac
 have a3:∀g x,t.size<=x->(t++u).g? x=some g->¬(t++u).counts x:=λg=>Ud λop K _=>(hu op K).1;refine⟨λi hi=>by rw [ap];exact h.deaf i hi,λi hi=>by rw [ap];exact h.above i hi,λy a b Y hb ag O i hi al=>(h.plain y a b (hold Y).1 hb ag O i hi al).app _,λy a b Y hb ag O=>(h.said y a b (hold Y).1 hb ag O).app _,λy a Y hb=>?_,
  ON h.over λop K=> .inr (.inr (hu op K).1),Oz h.norel λop K=>(hu op K).2 _,by simp;have:=h.LX;omega,λk O U=>let ⟨ρ,a,b,c⟩:=h.rel k O U;⟨ρ,a,b.app λx Z am=>a3 _ x Z am,c.app λop K a b aq=>by rw [(hu op K).1] at aq;cases aq⟩⟩
 obtain⟨q,aw⟩:=hold Y;rcases h.Gg y a q hb with z | ⟨k,O,am,a4,U⟩
 ·exact .inl λa5 a6 al=>(z a5 a6 al).app _
 ·exact .inr ⟨k,O,by rw [g?_old aw];exact am,(counts_old aw).2 a4,U⟩
theorem EV.spawn(h:EV F N0 t0 N j φ S t){φ':Nat->Nx}{S':Nat->St}(ac:0<N)(be:N=N0+j)(hd:∀i,i<N->FN (φ' i)=FN (φ i))(a3:FN (φ' N)=0)(a4:FN (φ 0)=0)
  (a5:∀k,k<j+1->late (φ' (N0+k))->k<j/\late (φ (N0+k))/\(S' (N0+k)).E=(S (N0+k)).E)
  {x y:MemOp} (Z:x.g=0/\x.act= .go N) (aq:y.g=N/\y.act= .start):EV F N0 t0 (N+1) (j+1) φ' S' (t++ #[x,y]):=by
 have hu:∀op∈(#[x,y]:Array MemOp),op.act.touch? =none/\∀m,op.act≠ .mark m:=by
  intro op aw;simp only [List.mem_toArray,List.mem_cons,List.not_mem_nil,or_false] at aw;rcases aw with rfl | rfl
  ·rw [Z.2];exact⟨rfl,by simp⟩
  ·rw [aq.2];exact⟨rfl,by simp⟩
 have K:=h.Dh hu;have ay:∀z,Knows t 0 z->Knows (t++ #[x,y]) N z:=λz O=>fork_knows Z aq (by rw [h.deaf 0 ac];exact a4) (h.above N (Nat.le_refl _)) O;have hold:∀{z a},touchAt (t++ #[x,y]) z=some a->touchAt t z=some a:=by
  intro z a O;obtain⟨op,ag,U⟩:=touch_of O;rcases getElem?_append_cases ag with⟨az,a6⟩ | ⟨_,al⟩
  ·rw [touchAt_of a6];exact U
  ·rw [(hu op al).1] at U;cases U
 refine⟨λi hi=>?_,λi hi=>K.above i (by omega),λz a b O hb a0 Y i hi am=>?_,K.said,λz a O hb=>?_,λz g ap a7 a8=>?_,K.norel,K.LX,λk Y Z=>?_⟩
 ·rcases Nat.lt_or_ge i N with q | q
  ·rw [hd i q];exact K.deaf i q
  ·obtain rfl:i=N:=by omega
   rw [a3];exact K.above i (Nat.le_refl _)
 ·rcases Nat.lt_or_ge i N with q | q
  ·exact K.plain z a b O hb a0 Y i q am
  ·obtain rfl:i=N:=by omega
   exact ay z (h.plain z a b (hold O) hb a0 Y 0 ac (.inl rfl))
 ·have a1:z<t.size:=by
   obtain⟨op,ag,U⟩:=touch_of O;rcases getElem?_append_cases ag with⟨az,_⟩ | ⟨_,al⟩
   ·exact az
   ·rw [(hu op al).1] at U;cases U
  rcases h.Gg z a (hold O) hb with a2 | ⟨k,Y,ap,a9,bb⟩
  ·refine .inl λi hi am=>?_;rcases Nat.lt_or_ge i N with q | q
   ·exact(a2 i q am).app _
   ·obtain rfl:i=N:=by omega
    exact ay z (a2 0 ac (.inl rfl))
  ·exact .inr ⟨k,by omega,by rw [g?_old a1];exact ap,(counts_old a1).2 a9,bb⟩
 ·rcases K.over z g ap a7 a8 with q | q
  ·exact .inl q
  ·exact .inr ⟨q.1,by omega⟩
 ·obtain⟨a,b,c⟩:=a5 k Y Z;rw [c];exact K.rel k a b
end
end Pal
namespace Pal
open Go Go.Conc
open Go.ConcN (upd upd_same upd_ne sumTo sumTo_upd sumTo_upd_out sumTo_congr le_sumTo sumTo_le)
def pH:LP->Nat
 | .len | .Kt | .JD | .EX | .Gx | .JK | .JR | .JI | .HG=>1
 | _=>0
def pN:LP->Nat
 | .EW false=>1
 | _=>0
def pZ:LP->Nat
 | .EW true=>1
 | _=>0
def pV:LP->Nat
 | .FY | .EA _=>1
 | _=>0
def pT:LP->Nat
 | .El _ true _ | .Cp _ true _ _=>1
 | _=>0
def pQ:LP->Nat
 | .Ig _ | .Cz _=>1
 | _=>0
def pD:LP->Nat
 | .Ek _=>1
 | _=>0
def pX:LP->Nat
 | .EJ _ | .He=>1
 | _=>0
def oC(f:LP->Nat):Option LP->Nat
 | some p=>f p
 | none=>0
def LN(m:M4)(q h rn rs v t s d x:Nat):Prop:=
 h=m.l.toNat/\
 (m.s=false->rs=0/\d=0/\m.k.toNat=rn+q+v+t/\s=m.w+rn+q/\(m.l=false->m.k=false->1<=m.w->1<=x))/\
 (m.s=true->m.k=false/\rn=0/\t=0/\m.l.toNat+rs+q+v+d=1/\m.w=s+v+d/\1<=m.w)
def K4:LP->M4->Prop
 | .Cp sv aw it old,_=>(aw=true->old.k=true)/\(sv=true->aw=true)/\it<=4/\Da old
 | .El sv aw it,_=>(sv=true->aw=true)/\it<=4
 | .Ek ex,m=>ex=false->2<=m.w
 | .EJ old,_=>old.l=false/\old.k=false/\old.s=false/\old.w≠0/\Da old
 | _,_=>True
section
variable {F:Fam}{p:LP}{m m':M4}{q q' h rn rs v t s d x:Nat}{es:Array Event}{o:Option LP}
theorem Ys(ap:LN m q (pH p+h) (pN p+rn) (pZ p+rs) (pV p+v) (pT p+t) (pQ p+s) (pD p+d) (pX p+x))(K:K4 p m)(Y:Da m)(aq:∀sv,p= .Cz sv->q≠0):DF p m q:=by
 obtain⟨l,k,st,w⟩:=m;obtain⟨Z,O,U⟩:=ap;cases p <;> simp only [DF,K4] at K ⊢ <;> (try exact Y)
 ·exact⟨K.1,K.2,Y,λe=>by
   subst e
   simp only [pH,pN,pZ,pV,pT,pQ,pD,pX] at Z O U
   cases st
   ·have:=(O rfl).2.2.1
    cases k
    ·simp at this;omega
    ·rfl
   ·have:=(U rfl).2.2.1;omega⟩
 ·exact⟨K.1,K.2.1,K.2.2.1,K.2.2.2,Y,λe=>by
   subst e
   simp only [pH,pN,pZ,pV,pT,pQ,pD,pX] at Z O U
   cases st
   ·have:=(O rfl).2.2.1
    cases k
    ·simp at this;omega
    ·rfl
   ·have:=(U rfl).2.2.1;omega⟩
 ·exact aq _ rfl
 ·simp only [pH,pN,pZ,pV,pT,pQ,pD,pX] at Z O U;refine⟨λe=>?_,λe=>?_,Y⟩
  ·subst e;obtain⟨a1,al,ag,ac,aw,am⟩:=U rfl;cases l
   ·exact⟨rfl,a1,by omega⟩
   ·simp at ac;omega
  ·subst e;obtain⟨a1,al,ag,ac⟩:=O rfl;cases k
   ·simp at ag;omega
   ·rfl
 ·simp only [pH,pN,pZ,pV,pT,pQ,pD,pX] at Z O U;cases st
  ·have:=(O rfl).2.1;omega
  ·obtain⟨a1,al,ag,ac,aw,am⟩:=U rfl;cases l
   ·exact⟨rfl,rfl,a1,am,K,Y⟩
   ·simp at ac;omega
 ·simp only [pH,pN,pZ,pV,pT,pQ,pD,pX] at Z;cases l
  ·simp at Z
  ·exact⟨rfl,Y⟩
 ·exact⟨K.1,K.2.1,K.2.2.1,K.2.2.2.1,K.2.2.2.2,Y⟩
 ·refine⟨?_,Y⟩;have ay:k.toNat<=1:=Bool.toNat_le k;cases st
  ·have:=(O rfl).2.2.1;simp only at this;omega
  ·have:=(U rfl).2.2.2.1;simp only at this;omega
set_option maxHeartbeats 1000000 in
theorem LN.step(K:(m',q',es,o)∈F.BY p m q)(U:DF p m q)(O:LN m q (pH p+h) (pN p+rn) (pZ p+rs) (pV p+v) (pT p+t) (pQ p+s) (pD p+d) (pX p+x)):
  LN m' q' (oC pH o+h) (oC pN o+rn) (oC pZ o+rs) (oC pV o+v) (oC pT o+t) (oC pQ o+s) (oC pD o+d) (oC pX o+x):=by
 obtain⟨l,k,st,w⟩:=m;cases p <;> simp only [Fam.BY,List.mem_singleton,Prod.mk.injEq,List.not_mem_nil] at K
 case F3=>obtain⟨rfl,rfl,-,rfl⟩:=K;exact O
 case Hb=>
  split at K
  ·rename_i e;simp only [M4.zero,M4.mk.injEq] at e;obtain⟨rfl,rfl,rfl,rfl⟩:=e;simp only [List.mem_singleton,Prod.mk.injEq] at K;obtain⟨rfl,rfl,-,rfl⟩:=K;simp [LN,pH,pN,pZ,pV,pT,pQ,pD,pX,oC] at O ⊢;omega
  ·simp only [List.mem_singleton,Prod.mk.injEq] at K;obtain⟨rfl,rfl,-,rfl⟩:=K;exact O
 case El sv aw it=>obtain⟨rfl,rfl,-,rfl⟩:=K;cases aw <;> exact O
 case Cp sv aw it old=>
  simp only [Fam.Fx,List.mem_append] at K;simp only [DF] at U;obtain⟨k1,Y,Z,ac,am,-⟩:=U;rcases K with K | K
  ·split at K
   ·rename_i c;split at K
    ·rename_i c2;simp only [List.mem_singleton] at K;obtain⟨rfl,c3,c4⟩:=c2;split at K
     ·rename_i e;subst e;simp only [Prod.mk.injEq] at K;obtain⟨rfl,rfl,-,rfl⟩:=K;simp only at c c3 c4;obtain⟨rfl,rfl,-⟩:=c;subst c3;simp [LN,pH,pN,pZ,pV,pT,pQ,pD,pX,oC] at O ⊢;omega
     ·simp only [Prod.mk.injEq] at K;obtain⟨rfl,rfl,-,rfl⟩:=K;exact O
    ·simp only [List.mem_singleton,Prod.mk.injEq] at K;obtain⟨rfl,rfl,-,rfl⟩:=K;cases aw <;> exact O
   ·simp at K
  ·split at K
   ·rename_i e;subst e;split at K
    ·rename_i c;simp only [List.mem_singleton,Prod.mk.injEq] at K;obtain⟨rfl,rfl,-,rfl⟩:=K;simp only at c;obtain⟨rfl,rfl⟩:=c;cases aw <;> cases k <;> simp [LN,pH,pN,pZ,pV,pT,pQ,pD,pX,oC] at O k1 ⊢ <;> omega
    ·rename_i c;have key:∀o',(o'=some (LP.Ig sv)∨o'=some (LP.Cz sv))->LN ⟨l,!aw&&k,st || (sv&&l),w+1⟩ q (oC pH o'+h) (oC pN o'+rn) (oC pZ o'+rs) (oC pV o'+v) (oC pT o'+t) (oC pQ o'+s) (oC pD o'+d) (oC pX o'+x):=by
      intro o' ap;have ag:oC pH o'=0/\oC pN o'=0/\oC pZ o'=0/\oC pV o'=0/\oC pT o'=0/\oC pQ o'=1/\oC pD o'=0/\oC pX o'=0:=by
       rcases ap with rfl | rfl <;> exact⟨rfl,rfl,rfl,rfl,rfl,rfl,rfl,rfl⟩
      obtain⟨ag,e2,aq,ay,az,a0,a1,a2⟩:=ag;rw [ag,e2,aq,ay,az,a0,a1,a2];cases l <;> cases st <;> cases k <;> cases aw <;> cases sv <;> simp [LN,pH,pN,pZ,pV,pT,pQ,pD,pX] at O k1 Y c ⊢ <;> omega
     simp only [List.mem_cons,List.not_mem_nil,or_false,Prod.mk.injEq] at K;rcases K with⟨rfl,rfl,-,rfl⟩ | ⟨rfl,rfl,-,rfl⟩
     ·exact key _ (.inl rfl)
     ·exact key _ (.inr rfl)
   ·simp only [List.mem_singleton,Prod.mk.injEq] at K;obtain⟨rfl,rfl,-,rfl⟩:=K;cases aw <;> exact O
 case Ig sv=>obtain⟨rfl,rfl,-,rfl⟩:=K;exact O
 case Cz sv=>
  obtain⟨rfl,rfl,-,rfl⟩:=K;simp only [DF] at U;cases st <;> cases k <;> cases l <;> cases sv <;> simp [LN,pH,pN,pZ,pV,pT,pQ,pD,pX,oC] at O ⊢ <;> omega
 case FY=>
  simp only [List.mem_cons,List.not_mem_nil,or_false,Prod.mk.injEq] at K;rcases K with⟨rfl,rfl,-,rfl⟩ | ⟨rfl,rfl,-,rfl⟩ <;> exact O
 case EA sv=>
  simp only [DF] at U;split at K
  ·rename_i c;simp only [List.mem_singleton,Prod.mk.injEq] at K;obtain⟨rfl,rfl,-,rfl⟩:=K;have c:st=true:=c;subst c;cases k <;> cases l <;> simp [LN,pH,pN,pZ,pV,pT,pQ,pD,pX,oC] at O ⊢ <;> omega
  ·rename_i c;simp only [List.mem_singleton,Prod.mk.injEq] at K;obtain⟨rfl,rfl,-,rfl⟩:=K;cases st
   ·cases k <;> cases l <;> simp [LN,pH,pN,pZ,pV,pT,pQ,pD,pX,oC] at O ⊢ <;> omega
   ·exact absurd rfl c
 case Ek ex=>
  obtain⟨rfl,rfl,-,rfl⟩:=K;simp only [DF] at U;obtain⟨rfl,rfl,rfl,ac,am,-⟩:=U;cases ex <;> simp [LN,pH,pN,pZ,pV,pT,pQ,pD,pX,oC] at O am ⊢ <;> omega
 case len=>obtain⟨rfl,rfl,-,rfl⟩:=K;exact O
 case Kt=>obtain⟨rfl,rfl,-,rfl⟩:=K;exact O
 case JD=>obtain⟨rfl,rfl,-,rfl⟩:=K;exact O
 case Gx=>obtain⟨rfl,rfl,-,rfl⟩:=K;exact O
 case JK=>obtain⟨rfl,rfl,-,rfl⟩:=K;exact O
 case JR=>obtain⟨rfl,rfl,-,rfl⟩:=K;exact O
 case JI=>obtain⟨rfl,rfl,-,rfl⟩:=K;exact O
 case HG=>
  obtain⟨rfl,rfl,-,rfl⟩:=K;simp only [DF] at U;obtain⟨rfl,-⟩:=U;rcases Nat.eq_zero_or_pos w with rfl | hw
  ·cases st <;> cases k <;> simp [LN,pH,pN,pZ,pV,pT,pQ,pD,pX,oC] at O ⊢ <;> omega
  ·have al:¬w=0:=by omega
   cases st <;> cases k <;> simp [LN,pH,pN,pZ,pV,pT,pQ,pD,pX,oC,al] at O ⊢ <;> omega
 case EJ old=>
  simp only [DF] at U;obtain⟨k1,Y,Z,ac,-⟩:=U;split at K
  ·rename_i e;subst e;simp only at k1 Y Z ac;subst k1 Y Z;simp only [List.mem_singleton,Prod.mk.injEq] at K;obtain⟨rfl,rfl,-,rfl⟩:=K;simp [LN,pH,pN,pZ,pV,pT,pQ,pD,pX,oC] at O ⊢;omega
  ·simp only [List.mem_singleton,Prod.mk.injEq] at K;obtain⟨rfl,rfl,-,rfl⟩:=K;exact O
 case He=>
  obtain⟨rfl,rfl,-,rfl⟩:=K;rcases Nat.eq_zero_or_pos w with rfl | hw
  ·cases st <;> cases k <;> cases l <;> simp [LN,pH,pN,pZ,pV,pT,pQ,pD,pX,oC] at O ⊢ <;> omega
  ·have al:¬w=0:=by omega
   cases st <;> cases k <;> cases l <;> simp [LN,pH,pN,pZ,pV,pT,pQ,pD,pX,oC,al] at O ⊢ <;> omega
 case EW b=>
  obtain⟨rfl,rfl,-,rfl⟩:=K;cases b <;> cases st <;> cases k <;> cases l <;> simp [LN,pH,pN,pZ,pV,pT,pQ,pD,pX,oC] at O ⊢ <;> omega
 case EY=>obtain⟨rfl,rfl,-,rfl⟩:=K;exact O
theorem LN.awake(O:LN m q (pH p+h) (pN p+rn) (pZ p+rs) (pV p+v) (pT p+t) (pQ p+s) (pD p+d) (pX p+x))(ag:pT p=1):m.k=true:=by
 obtain⟨l,k,st,w⟩:=m;obtain⟨al,U,Y⟩:=O;cases st
 ·obtain⟨a1,Z,K,ac⟩:=U rfl;cases k
  ·simp at K;omega
  ·rfl
 ·obtain⟨a1,Z,K,ac⟩:=Y rfl;omega
theorem LN.aS(K:(m',q',es,o)∈F.BY p m q)(O:DF p m q)(Z:K4 p m)(U:Da m)(al:LN m q (pH p+h) (pN p+rn) (pZ p+rs) (pV p+v) (pT p+t) (pQ p+s) (pD p+d) (pX p+x)):∀ac,o=some ac->K4 ac m':=by
 have ag:=λam=>al.awake am;cases p <;> simp only [Fam.BY,List.mem_singleton,Prod.mk.injEq,List.not_mem_nil] at K
 case Hb=>
  split at K <;> simp only [List.mem_singleton,Prod.mk.injEq] at K <;> obtain⟨rfl,rfl,-,rfl⟩:=K <;> rintro _ ⟨⟩ <;> simp [K4]
 case El sv aw it=>
  obtain⟨rfl,rfl,-,rfl⟩:=K;rintro _ ⟨⟩;exact⟨λe=>by subst e;exact ag rfl,Z.1,Z.2,U⟩
 case Cp sv aw it old=>
  simp only [Fam.Fx,List.mem_append] at K;simp only [DF] at O;obtain⟨k1,Y,ap,aq,ay,-⟩:=O;rcases K with K | K
  ·split at K
   ·rename_i c;split at K
    ·simp only [List.mem_singleton] at K;split at K <;> simp only [Prod.mk.injEq] at K <;> obtain⟨rfl,rfl,-,rfl⟩:=K <;> rintro _ ⟨⟩
     ·exact⟨λ_=>rfl,by omega⟩
     ·exact⟨Y,by omega⟩
    ·simp only [List.mem_singleton,Prod.mk.injEq] at K;obtain⟨rfl,rfl,-,rfl⟩:=K;rintro _ ⟨⟩;exact⟨λe=>by subst e;exact ag rfl,Y,by omega,U⟩
   ·simp at K
  ·split at K
   ·split at K
    ·simp only [List.mem_singleton,Prod.mk.injEq] at K;obtain⟨rfl,rfl,-,rfl⟩:=K;rintro _ ⟨⟩;trivial
    ·simp only [List.mem_cons,List.not_mem_nil,or_false,Prod.mk.injEq] at K;rcases K with⟨rfl,rfl,-,rfl⟩ | ⟨rfl,rfl,-,rfl⟩ <;> rintro _ ⟨⟩ <;> trivial
   ·simp only [List.mem_singleton,Prod.mk.injEq] at K;obtain⟨rfl,rfl,-,rfl⟩:=K;rintro _ ⟨⟩;exact⟨Y,ap⟩
 case Cz sv=>
  obtain⟨rfl,rfl,-,rfl⟩:=K;rintro _ h;cases sv <;> cases h <;> trivial
 case FY=>
  simp only [List.mem_cons,List.not_mem_nil,or_false,Prod.mk.injEq] at K;rcases K with⟨rfl,rfl,-,rfl⟩ | ⟨rfl,rfl,-,rfl⟩ <;> rintro _ ⟨⟩ <;> trivial
 case EA sv=>
  simp only [DF] at O;split at K
  ·rename_i c;simp only [List.mem_singleton,Prod.mk.injEq] at K;obtain⟨rfl,rfl,-,rfl⟩:=K;rintro _ ⟨⟩;intro e;have:=(O.1 c).2.2;simp at e;omega
  ·rename_i c;simp only [List.mem_singleton,Prod.mk.injEq] at K;obtain⟨rfl,rfl,-,rfl⟩:=K;rintro _ ⟨⟩;exact⟨λ_=>O.2.1 (by simpa using c),λ_=>rfl,by omega,U⟩
 case HG=>
  obtain⟨rfl,rfl,-,rfl⟩:=K;rintro _ h;split at h
  ·cases h;trivial
  ·rename_i c;split at h
   ·rename_i c2;cases h;exact⟨rfl,c2.1,by simpa using c,c2.2,U⟩
   ·cases h;trivial
 case EJ old=>
  split at K <;> simp only [List.mem_singleton,Prod.mk.injEq] at K <;> obtain⟨rfl,rfl,-,rfl⟩:=K <;> rintro _ ⟨⟩ <;> trivial
 case He=>
  obtain⟨rfl,rfl,-,rfl⟩:=K;rintro _ h;split at h
  ·rename_i c;cases h;exact⟨c.1,c.2.1,c.2.2.1,c.2.2.2,U⟩
  ·cases h;trivial
 all_goals
  obtain⟨rfl,rfl,-,rfl⟩:=K;rintro _ ⟨⟩
 all_goals trivial
theorem LN.keepW(K:(m',q',es,o)∈F.BY p m q)(O:DF p m q)(U:LN m q (pH p+h) (pN p+rn) (pZ p+rs) (pV p+v) (pT p+t) (pQ p+s) (pD p+d) (pX p+x))(hd:1<=d):m.w<=m'.w:=by
 obtain⟨l,k,st,w⟩:=m;obtain⟨al,Y,Z⟩:=U;have ac:st=true:=by
  cases st
  ·have:=(Y rfl).2.1;omega
  ·rfl
 subst ac;obtain⟨a1,am,ap,ag,aq,ay⟩:=Z rfl;cases p <;> simp only [Fam.BY,List.mem_singleton,Prod.mk.injEq,List.not_mem_nil] at K
 case Hb=>split at K <;> simp only [List.mem_singleton,Prod.mk.injEq] at K <;> obtain⟨rfl,rfl,-,rfl⟩:=K <;> simp_all [M4.zero]
 case Cp sv aw it old=>
  simp only [Fam.Fx,List.mem_append] at K;rcases K with K | K
  ·split at K
   ·split at K
    ·simp only [List.mem_singleton] at K;split at K <;> simp only [Prod.mk.injEq] at K <;> obtain⟨rfl,rfl,-,rfl⟩:=K <;> exact Nat.le_refl _
    ·simp only [List.mem_singleton,Prod.mk.injEq] at K;obtain⟨rfl,rfl,-,rfl⟩:=K;exact Nat.le_refl _
   ·simp at K
  ·split at K
   ·split at K
    ·simp only [List.mem_singleton,Prod.mk.injEq] at K;obtain⟨rfl,rfl,-,rfl⟩:=K;exact Nat.le_refl _
    ·simp only [List.mem_cons,List.not_mem_nil,or_false,Prod.mk.injEq] at K;rcases K with⟨rfl,rfl,-,rfl⟩ | ⟨rfl,rfl,-,rfl⟩ <;> simp
   ·simp only [List.mem_singleton,Prod.mk.injEq] at K;obtain⟨rfl,rfl,-,rfl⟩:=K;exact Nat.le_refl _
 case FY=>
  simp only [List.mem_cons,List.not_mem_nil,or_false,Prod.mk.injEq] at K;rcases K with⟨rfl,rfl,-,rfl⟩ | ⟨rfl,rfl,-,rfl⟩ <;> exact Nat.le_refl _
 case EA sv=>split at K <;> simp only [List.mem_singleton,Prod.mk.injEq] at K <;> obtain⟨rfl,rfl,-,rfl⟩:=K <;> exact Nat.le_refl _
 case Ek ex=>simp only [pD] at ag;omega
 case EJ old=>
  simp only [DF] at O;split at K
  ·rename_i e;subst e;exact absurd O.2.2.1 (by simp)
  ·simp only [List.mem_singleton,Prod.mk.injEq] at K;obtain⟨rfl,rfl,-,rfl⟩:=K;exact Nat.le_refl _
 all_goals
  obtain⟨rfl,rfl,-,rfl⟩:=K;exact Nat.le_refl _
end
def De(f:LP->Nat):Nx->Nat
 | .ph (.lk _ p)=>f p
 | _=>0
def N1:Nx->M4->Prop
 | .ph (.lk _ p),m=>K4 p m
 | _,_=>True
def Sg(f:LP->Nat)(N:Nat)(φ:Nat->Nx):Nat:=sumTo N λi=>De f (φ i)
structure LI (N:Nat) (φ:Nat->Nx) (m:M4) (q:Nat):Prop where
 ln:LN m q (Sg pH N φ) (Sg pN N φ) (Sg pZ N φ) (Sg pV N φ) (Sg pT N φ) (Sg pQ N φ) (Sg pD N φ) (Sg pX N φ)
 loc:∀i,i<N->N1 (φ i) m
section
variable {F:Fam}{N i k:Nat}{φ:Nat->Nx}{p:LP}{m m':M4}{q q':Nat}{es:Array Event}{o:Option LP}{y:Nx}
theorem Pw(f:LP->Nat)(hi:i<N):Sg f N (upd φ i y)+De f (φ i)=Sg f N φ+De f y:=sumTo_upd φ y (De f) hi
theorem FC(f:LP->Nat)(hi:i<N)(K:φ i= .ph (.lk k p)):∃r,Sg f N φ=f p+r/\∀o,Sg f N (upd φ i (.ph (Fam.Dd k o)))=oC f o+r:=by
 have O:De f (φ i)<=Sg f N φ:=le_sumTo (f:=λi=>De f (φ i)) hi;have e:De f (φ i)=f p:=by rw [K];rfl
 refine⟨Sg f N φ - f p,by omega,λo=>?_⟩;have U:=Pw (φ:=φ) (y:= .ph (Fam.Dd k o)) f hi;have Y:De f (.ph (Fam.Dd k o))=oC f o:=by cases o <;> rfl
 omega
theorem M6(f:LP->Nat)(hi:i<N)(K:De f (φ i)=De f y):Sg f N (upd φ i y)=Sg f N φ:=by
 have:=Pw (φ:=φ) (y:=y) f hi;omega
theorem LI.other(h:LI N φ m q)(hi:i<N)(U:∀k p,φ i≠ .ph (.lk k p))(K:∀k p,y≠ .ph (.lk k p)):LI N (upd φ i y) m q:=by
 have z:∀(f:LP->Nat) x,(∀k p,x≠Nx.ph (.lk k p))->De f x=0:=by
  intro f x Y;cases x with
  | gone d=>rfl
  | ph p=>cases p <;> first | rfl | exact absurd rfl (Y _ _)
 have e:∀f,Sg f N (upd φ i y)=Sg f N φ:=λf=>M6 f hi (by rw [z f _ U,z f _ K]);refine⟨by simp only [e];exact h.ln,λa Z=>?_⟩;by_cases O:a=i
 ·subst O;rw [upd_same];cases y with
  | gone d=>trivial
  | ph p=>cases p <;> first | trivial | exact absurd rfl (K _ _)
 ·rw [upd_ne _ _ O];exact h.loc a Z
theorem LI.ok(h:LI N φ m q)(hi:i<N)(K:φ i= .ph (.lk k p))(Y:Da m)(Z:∀sv,p= .Cz sv->q≠0):DF p m q:=by
 obtain⟨a,ac,-⟩:=FC pH hi K;obtain⟨b,ag,-⟩:=FC pN hi K;obtain⟨c,al,-⟩:=FC pZ hi K;obtain⟨d,am,-⟩:=FC pV hi K;obtain⟨e,ap,-⟩:=FC pT hi K;obtain⟨f,aq,-⟩:=FC pQ hi K;obtain⟨g,aw,-⟩:=FC pD hi K;obtain⟨j,ay,-⟩:=FC pX hi K;have O:=h.ln;rw [ac,ag,al,am,ap,aq,aw,ay] at O;have U:=h.loc i hi;rw [K] at U;exact Ys O U Y Z
theorem LI.step(h:LI N φ m q)(hi:i<N)(K:φ i= .ph (.lk k p))(aq:Da m)(U:DF p m q)(Y:(m',q',es,o)∈F.BY p m q):LI N (upd φ i (.ph (Fam.Dd k o))) m' q':=by
 obtain⟨a,aw,ay⟩:=FC pH hi K;obtain⟨b,az,a0⟩:=FC pN hi K;obtain⟨c,a1,a2⟩:=FC pZ hi K;obtain⟨d,a3,a4⟩:=FC pV hi K;obtain⟨e,a5,a6⟩:=FC pT hi K;obtain⟨f,a7,a8⟩:=FC pQ hi K;obtain⟨g,a9,bb⟩:=FC pD hi K;obtain⟨j,be,bi⟩:=FC pX hi K;have O:=h.ln;rw [aw,az,a1,a3,a5,a7,a9,be] at O;have ag:=h.loc i hi;rw [K] at ag;refine⟨by rw [ay,a0,a2,a4,a6,a8,bb,bi];exact O.step Y U,λy al=>?_⟩;by_cases Z:y=i
 ·subst Z;rw [upd_same];cases o with
  | none=>trivial
  | some bn=>exact O.aS Y U ag aq bn rfl
 ·rw [upd_ne _ _ Z];have ac:=h.loc y al;cases am:φ y with
  | gone d=>trivial
  | ph p0=>
   cases p0 with
   | lk bo p0=>
    rw [am] at ac;cases p0 <;> try exact ac
    rename_i ex;intro bq;have hd:1<=g:=by
     have br:=Pw (N:=N) (φ:=φ) (i:=i) (y:= .gone 0) pD hi;have ap:De pD (upd φ i (.gone 0) y)<=Sg pD N (upd φ i (.gone 0)):=le_sumTo (f:=λa=>De pD (upd φ i (.gone 0) a)) al;rw [upd_ne _ _ Z,am] at ap;have bu:De pD (φ i)=pD p:=by rw [K];rfl
     have e2:De pD (.gone 0)=0:=rfl;have bv:De pD (.ph (.lk bo (.Ek ex)))=1:=rfl;omega
    have:=O.keepW Y U hd;have ap:2<=m.w:=ac bq;omega
   | _=>trivial
end
end Pal
namespace Pal
open Go Go.Conc
open Go.ConcN (upd upd_same upd_ne sumTo sumTo_upd sumTo_upd_out sumTo_congr le_sumTo sumTo_le)
def Hg:LP->Nat
 | .len=>22 | .Kt=>21 | .JD=>20 | .EX=>19 | .Gx=>18 | .JK=>17 | .JR=>16 | .JI=>15 | .HG=>14
 | .EJ _=>13 | .He=>13 | .EW _=>12 | .EY=>11
 | _=>23
def kw:LP->Nat
 | .F3 | .Hb=>2
 | .El _ aw _=>if aw then 1 else 2
 | .Cp _ aw _ _=>if aw then 1 else 2
 | .FY | .EA _ | .Ek _=>1
 | _=>0
def lc(m:M4):LP->Nat
 | .F3=>27 | .Hb=>26 | .El _ _ it=>2*(5 - it)+1
 | .Cp _ _ it old=>2*(5 - it)+if m=old then 0 else 2
 | .Ig _=>24 | .Cz _=>23 | .FY=>22 | .EA _=>21
 | .EJ old=>if m=old then 1 else 3
 | .He=>2
 | _=>0
def wO:Option LP->Nat
 | some p=>Hg p
 | none=>9
def wt(n:Nat):Nx->Nat
 | .gone _=>0
 | .ph p=>match p with
  | .Ha _=>10 | .HI=>9 | .Gv=>8 | .IG=>7 | .Hc=>6 | .GM=>5 | .G8=>4 | .Fi=>3
  | .Dt=>3*n+25 | .FZ m=>3*m+20 | .Hf m=>3*m+19 | .Io=>14 | .HK=>13 | .Fv=>12 | .G7=>11 | .F5=>10 | .Ij=>9 | .Gb=>8 | .Hz=>7
  | .Gc j=>5*n+90+50*(n - j) | .Ii j=>5*n+89+50*(n - j) | .Ip j=>5*n+88+50*(n - j) | .HB j=>5*n+87+50*(n - j) | .GX j=>5*n+86+50*(n - j) | .FO j=>5*n+85+50*(n - j)
  | .GR=>5*n+60 | .FI _ _=>2
  | .lk _ p=>Hg p
theorem Zn{F:Fam}{p:Ph}{v w sm v' w' sm':Nat}{es:Array Event}{K:Nx}(h:F.act p v w sm=some ((v',w',sm'),es,K)):wt F.n K<wt F.n (.ph p):=by
  cases p <;> simp only [Fam.act] at h <;> (try (cases h;done))
  case Hc=>
    split at h
    ·cases h;split <;> simp [wt]
    ·cases h
  case FZ=>
    split at h
    ·cases h;split <;> simp [wt] <;> omega
    ·cases h
  case Hf=>
    split at h
    ·split at h <;> cases h <;> simp [wt] <;> omega
    ·cases h
  case Ii=>
    split at h
    ·cases h;split <;> simp [wt]
    ·cases h
  all_goals first
    | (cases h;simp [wt];done)
    | (split at h
       ·cases h;simp [wt]
       ·cases h)
section
variable {F:Fam}{p:LP}{m m':M4}{q q':Nat}{es:Array Event}{o:Option LP}
theorem Xv(K:(m',q',es,o)∈F.BY p m q)(O:DF p m q):wO o<Hg p∨(wO o=Hg p/\(oC kw o+q'<kw p+q∨(oC kw o+q'=kw p+q/\m'=m/\oC (lc m) o<lc m p))):=by
 cases p <;> simp only [Fam.BY,List.mem_singleton,Prod.mk.injEq,List.not_mem_nil] at K
 case Hb=>
  split at K <;> simp only [List.mem_singleton,Prod.mk.injEq] at K <;> obtain⟨rfl,rfl,-,rfl⟩:=K
  ·exact .inl (by simp [wO,Hg])
  ·exact .inr ⟨rfl,.inr ⟨rfl,rfl,by simp [oC,lc]⟩⟩
 case El sv aw it=>
  obtain⟨rfl,rfl,-,rfl⟩:=K;exact .inr ⟨rfl,.inr ⟨rfl,rfl,by simp [oC,lc]⟩⟩
 case Cp sv aw it old=>
  simp only [Fam.Fx,List.mem_append] at K;simp only [DF] at O;obtain⟨k1,U,Y,Z,ac,-⟩:=O;rcases K with K | K
  ·split at K
   ·rename_i c;split at K
    ·rename_i c2;simp only [List.mem_singleton] at K;obtain⟨rfl,c3,c4⟩:=c2;split at K <;> simp only [Prod.mk.injEq] at K <;> obtain⟨rfl,rfl,-,rfl⟩:=K
     ·exact .inr ⟨rfl,.inl (by simp [oC,kw])⟩
     ·rename_i e;refine .inr ⟨rfl,.inr ⟨rfl,rfl,?_⟩⟩;simp only [oC,lc,if_neg e];omega
    ·simp only [List.mem_singleton,Prod.mk.injEq] at K;obtain⟨rfl,rfl,-,rfl⟩:=K;refine .inr ⟨rfl,.inr ⟨rfl,rfl,?_⟩⟩;simp only [oC,lc,if_true];omega
   ·simp at K
  ·split at K
   ·rename_i e;split at K
    ·simp only [List.mem_singleton,Prod.mk.injEq] at K;obtain⟨rfl,rfl,-,rfl⟩:=K;exact .inl (by simp [wO,Hg])
    ·simp only [List.mem_cons,List.not_mem_nil,or_false,Prod.mk.injEq] at K;rcases K with⟨rfl,rfl,-,rfl⟩ | ⟨rfl,rfl,-,rfl⟩ <;> exact .inr ⟨rfl,.inl (by cases aw <;> simp [oC,kw])⟩
   ·rename_i e;simp only [List.mem_singleton,Prod.mk.injEq] at K;obtain⟨rfl,rfl,-,rfl⟩:=K;refine .inr ⟨rfl,.inr ⟨rfl,rfl,?_⟩⟩;simp only [oC,lc,if_neg e];omega
 case Cz sv=>
  obtain⟨rfl,rfl,-,rfl⟩:=K;simp only [DF] at O;cases sv
  ·refine .inr ⟨rfl,.inr ⟨?_,rfl,by simp [oC,lc]⟩⟩;simp only [oC,kw,Bool.false_eq_true,if_false];omega
  ·refine .inr ⟨rfl,.inr ⟨?_,rfl,by simp [oC,lc]⟩⟩;simp only [oC,kw,if_true];omega
 case FY=>
  simp only [List.mem_cons,List.not_mem_nil,or_false,Prod.mk.injEq] at K;rcases K with⟨rfl,rfl,-,rfl⟩ | ⟨rfl,rfl,-,rfl⟩ <;> exact .inr ⟨rfl,.inr ⟨rfl,rfl,by simp [oC,lc]⟩⟩
 case EA sv=>
  split at K <;> simp only [List.mem_singleton,Prod.mk.injEq] at K <;> obtain⟨rfl,rfl,-,rfl⟩:=K <;> exact .inr ⟨rfl,.inr ⟨rfl,rfl,by simp [oC,lc]⟩⟩
 case HG=>
  obtain⟨rfl,rfl,-,rfl⟩:=K;refine .inl ?_;split
  ·simp [wO,Hg]
  ·split <;> simp [wO,Hg]
 case EJ old=>
  split at K <;> simp only [List.mem_singleton,Prod.mk.injEq] at K <;> obtain⟨rfl,rfl,-,rfl⟩:=K
  ·exact .inl (by simp [wO,Hg])
  ·rename_i e;refine .inr ⟨rfl,.inr ⟨rfl,rfl,?_⟩⟩;simp only [oC,lc,if_neg e];omega
 case He=>
  obtain⟨rfl,rfl,-,rfl⟩:=K;split
  ·exact .inr ⟨rfl,.inr ⟨rfl,rfl,by simp [oC,lc]⟩⟩
  ·exact .inl (by simp [wO,Hg])
 case Ig sv=>obtain⟨rfl,rfl,-,rfl⟩:=K;exact .inr ⟨rfl,.inr ⟨rfl,rfl,by simp [oC,lc]⟩⟩
 case F3=>obtain⟨rfl,rfl,-,rfl⟩:=K;exact .inr ⟨rfl,.inr ⟨rfl,rfl,by simp [oC,lc]⟩⟩
 all_goals
  obtain⟨rfl,rfl,-,rfl⟩:=K;exact .inl (by simp [wO,Hg])
end
def Dn(N:Nat)(r' r:Nat->Rk):Prop:=∃i,i<N/\Rk.sub (r' i) (r i)/\∀j,j≠i->r' j=r j
theorem Dn.wf:∀N,WellFounded (Dn N)
 | 0=>⟨λ_=>⟨_,λ_ ⟨_,h,_⟩=>by omega⟩⟩
 | N+1=>⟨by
  have key:∀x:Rk,∀r:Nat->Rk,r N=x->Acc (Dn (N+1)) r:=by
   intro x
   induction x using Rk.wf.induction with
   | _ x Y=>
    intro r
    induction r using (Dn.wf N).induction with
    | _ r Z=>
     intro e
     refine⟨_,λr' ⟨i,hi,K,O⟩=>?_⟩
     by_cases U:i=N
     ·subst U;exact Y (r' i) (by rw [← e];exact K) r' rfl
     ·exact Z r' ⟨i,by omega,K,O⟩ (by rw [O N (Ne.symm U),e])
  exact λr=>key _ r rfl⟩
def chain:Nat->Rk
 | 0=> .leaf
 | n+1=> .node λ_=>chain n
theorem VF(n:Nat)(w:World):Rk.sub (chain n) (chain (n+1)):=⟨_,w,rfl,rfl⟩
structure Mu where
 a:Nat
 k:Nat
 l:Nat
 N:Nat
 r:Nat->Rk
 b:Nat
def Mu.lt(x y:Mu):Prop:=x.a<y.a∨(x.a=y.a/\(x.k<y.k∨(x.k=y.k/\(x.l<y.l∨(x.l=y.l/\x.N=y.N/\(Dn y.N x.r y.r∨(x.r=y.r/\x.b<y.b)))))))
theorem Mu.wf:WellFounded Mu.lt:=⟨by
 have key:∀(a k l N:Nat) (r:Nat->Rk) (b:Nat),Acc Mu.lt ⟨a,k,l,N,r,b⟩:=by
  intro a
  induction a using Nat.strongRecOn with
  | _ a ag=>
   intro k
   induction k using Nat.strongRecOn with
   | _ k al=>
    intro l
    induction l using Nat.strongRecOn with
    | _ l am=>
     intro N r
     induction r using (Dn.wf N).induction with
     | _ r ap=>
      intro b
      induction b using Nat.strongRecOn with
      | _ b aq=>
       refine⟨_,λ⟨aw,k',l',N',r',b'⟩ h=>?_⟩
       rcases h with h | ⟨K,h | ⟨O,h | ⟨U,Y,h | ⟨Z,ac⟩⟩⟩⟩
       ·exact ag aw h k' l' N' r' b'
       ·simp only at K h;subst K;exact al k' h l' N' r' b'
       ·simp only at K O h;subst K O;exact am l' h N' r' b'
       ·simp only at K O U Y h;subst K O U Y;exact ap r' h b'
       ·simp only at K O U Y Z ac;subst K O U Y Z;exact aq b' ac
 exact λ⟨a,k,l,N,r,b⟩=>key a k l N r b⟩
def bit(b:Bool):Nat:=if b then 1 else 0
def mu(F:Fam)(N:Nat)(φ:Nat->Nx)(m:M4)(q:Nat)(r:Nat->Rk)(bt:Nat->Bool):Mu:=⟨sumTo N λi=>wt F.n (φ i),Sg kw N φ+q,Sg (lc m) N φ,N,r,sumTo N λi=>bit (bt i)⟩
section
variable {F:Fam}{N N' i k:Nat}{φ φ':Nat->Nx}{p:LP}{m m':M4}{q q':Nat}{es:Array Event}{o:Option LP}{r r':Nat->Rk}{b b':Nat->Bool}{x:Nx}{ρ:Rk}
theorem Z8(h:(sumTo N' λi=>wt F.n (φ' i))<sumTo N λi=>wt F.n (φ i)):Mu.lt (mu F N' φ' m' q' r' b') (mu F N φ m q r b):= .inl h
theorem SR(hi:i<N)(h:wt F.n x<wt F.n (φ i)):Mu.lt (mu F N (upd φ i x) m' q' r' b') (mu F N φ m q r b):=by
 have:=sumTo_upd φ x (wt F.n) hi;exact .inl (by show(sumTo N λa=>wt F.n (upd φ i x a))<sumTo N λa=>wt F.n (φ a);omega)
theorem TW(hi:i<N)(K:∀f,De f x=De f (φ i))(hw:wt F.n x=wt F.n (φ i))(h:Rk.sub ρ (r i)):Mu.lt (mu F N (upd φ i x) m q (upd r i ρ) b') (mu F N φ m q r b):=by
 have:=sumTo_upd φ x (wt F.n) hi;refine .inr ⟨by show(sumTo N λa=>wt F.n (upd φ i x a))=sumTo N λa=>wt F.n (φ a);omega,.inr ⟨by show Sg kw N (upd φ i x)+q=_;rw [M6 kw hi (K kw).symm];rfl,.inr ⟨M6 (lc m) hi (K _).symm,rfl,.inl ⟨i,hi,?_,λa O=>upd_ne _ _ O⟩⟩⟩⟩;show Rk.sub (upd r i ρ i) _;rw [upd_same];exact h
theorem ao(hi:i<N)(K:φ i= .ph (.lk k p))(Y:(m',q',es,o)∈F.BY p m q)(Z:DF p m q):Mu.lt (mu F N (upd φ i (.ph (Fam.Dd k o))) m' q' r' b') (mu F N φ m q r b):=by
 have hw:=sumTo_upd φ (.ph (Fam.Dd k o)) (wt F.n) hi;have ac:wt F.n (φ i)=Hg p:=by rw [K];rfl
 have e2:wt F.n (.ph (Fam.Dd k o))=wO o:=by cases o <;> rfl
 rw [ac,e2] at hw;obtain⟨a,O,U⟩:=FC (k:=k) kw hi K;obtain⟨c,ag,al⟩:=FC (k:=k) (lc m) hi K;rcases Xv Y Z with h | ⟨ap,h | ⟨aq,am,aw⟩⟩
 ·exact .inl (by show(sumTo N λa=>wt F.n (upd φ i _ a))<sumTo N λa=>wt F.n (φ a);omega)
 ·exact .inr ⟨by show(sumTo N λa=>wt F.n (upd φ i _ a))=sumTo N λa=>wt F.n (φ a);omega,.inl (by show Sg kw N (upd φ i _)+q'<Sg kw N φ+q;rw [O,U];omega)⟩
 ·subst am;exact .inr ⟨by show(sumTo N λa=>wt F.n (upd φ i _ a))=sumTo N λa=>wt F.n (φ a);omega,.inr ⟨by show Sg kw N (upd φ i _)+q'=Sg kw N φ+q;rw [O,U];omega,.inl (by show Sg (lc m') N (upd φ i _)<Sg (lc m') N φ;rw [ag,al];omega)⟩⟩
end
end Pal
namespace Pal
open Go Go.Conc
open Go.ConcN (upd upd_same upd_ne sumTo sumTo_upd sumTo_upd_out sumTo_congr le_sumTo sumTo_le fork_knows RelBy)
section
variable {F:Fam}{N0 t0 N j:Nat}{φ:Nat->Nx}{S:Nat->St}{t u:Trace}{v wt sm v' wt' sm':Nat}
theorem MI{α:Type}(f:Nat->α)(i:Nat):upd f i (f i)=f:=by
 funext a;unfold upd;split
 ·rename_i e;rw [e]
 ·rfl
def Fy(F:Fam)(K:Prop)(e:Event):Prop:=
 (∀a,(MemAct.ofEvent e).touch? =some a->(∃b,CP a.loc=some b/\(b=F.wg∨b=F.mu))/\a.kind≠ .plain/\(a.kind= .said->K))/\e.loc≠ .mark (.release F.sA)
theorem Fy.toS{K:Prop}{e:Event}{i:Nat}(h:Fy F K e)(O:K->i=0):EvS F N0 j i e:=
 ⟨λa U=>let ⟨⟨b,Y,Z⟩,ac,ag⟩:=h.1 a U;⟨b,Y,.inl ⟨Z,ac,λq=>O (ag q)⟩⟩,h.2⟩
theorem Fy.keep{O:Prop}{e:Event}{i:Nat}(h:Fy F O e)(Y:O->i=0)(Z:F.fd≠F.wg)(ac:F.fd≠F.mu):(∀a b,(MemAct.ofEvent e).touch? =some a->CP a.loc=some b->(b=F.wg∨b=F.mu)->a.kind≠ .plain/\(a.kind= .said->i=0))/\
   (∀a,(MemAct.ofEvent e).touch? =some a->CP a.loc=some F.fd->∃k,k<j/\i=N0+k/\a.loc= .cell ⟨F.fd,k,none⟩/\a.kind= .plain)/\e.loc≠ .mark (.release F.sA):=
 ⟨λa b K _ _=>⟨(h.1 a K).2.1,λq=>Y ((h.1 a K).2.2 q)⟩,λa K hb=>by
  obtain⟨⟨b,U,ag⟩,-⟩:=h.1 a K
  rw [hb] at U
  obtain rfl:=Option.some.inj U
  rcases ag with e | e
  ·exact absurd e Z
  ·exact absurd e ac,h.2⟩
theorem Q4{m:Mark}(K:∀a,m≠ .read a)(O:∀a,m≠ .write a):(MemAct.ofEvent (Fam.CJ m)).touch? =none:=by
 cases m <;> first | rfl | exact absurd rfl (K _) | exact absurd rfl (O _)
theorem Yi(p:Ph){es:Array Event}{aq:Nx}(K:F.act p v wt sm=some ((v',wt',sm'),es,aq)):
  (∀e∈es,Fy F (p= .HK∨∃j,p= .HB j) e)/\deafBehind (FN (.ph p)) es=FN aq/\(∀e∈es,∀B,F.wg<B->(MemAct.ofEvent e).low B):=by
 have a1:∀b w,(MemAct.ofEvent ⟨.cell F.sA,w,b⟩).touch? =some ⟨.cell F.sA,w,if b then .atomic else .plain⟩:=by intro b w;cases b <;> cases w <;> rfl
 have ac:∀(a:Addr) w (T:Prop),a.block=F.wg->Fy F T ⟨.cell a,w,true⟩:=by
  intro a w T hb;refine⟨λx U=>?_,by simp⟩;have:x=⟨.cell a,w,.atomic⟩:=by cases w <;> (simp [MemAct.ofEvent,MemAct.touch?] at U;exact U.symm)
  subst this;exact⟨⟨F.wg,by simp [CP,hb],.inl rfl⟩,by simp,by simp⟩
 have ag:∀(a:Addr) w B,a.block=F.wg->F.wg<B->(MemAct.ofEvent ⟨.cell a,w,true⟩).low B:=by
  intro a w B hb O;cases w <;> simp [MemAct.ofEvent,MemAct.low,Loc.low,hb,O]
 have GU:∀(m:Mark) (T:Prop),(∀a,m≠ .read a)->(∀a,m≠ .write a)->(∀a,m≠ .release a)->Fy F T (Fam.CJ m):=by
  intro m T ay az a0;exact⟨λx U=>(by rw [Q4 ay az] at U;cases U),λe=>a0 _ (Loc.mark.inj e)⟩
 have al:F.mA.block=F.wg:=rfl;have Z:F.sA.block=F.wg:=rfl;have EZ:∀(T:Prop),∀e∈semEvents F.mA,Fy F T e:=by
  intro T e he;simp only [semEvents,List.mem_toArray,List.mem_cons,List.not_mem_nil,or_false] at he;rcases he with rfl | rfl | rfl | rfl
  ·exact GU .disable T (by simp) (by simp) (by simp)
  ·exact ac _ _ _ al
  ·exact ac _ _ _ al
  ·exact GU .enable T (by simp) (by simp) (by simp)
 have aw:∀e∈semEvents F.mA,∀B,F.wg<B->(MemAct.ofEvent e).low B:=by
  intro e he B O;simp only [semEvents,List.mem_toArray,List.mem_cons,List.not_mem_nil,or_false] at he;rcases he with rfl | rfl | rfl | rfl
  ·trivial
  ·exact ag _ _ _ al O
  ·exact ag _ _ _ al O
  ·trivial
 have am:∀(T:Prop),∀e∈(#[Fam.Cf F.sA,Fam.Er F.sA]:Array Event),Fy F T e:=by
  intro T e he;simp only [List.mem_toArray,List.mem_cons,List.not_mem_nil,or_false] at he;rcases he with rfl | rfl <;> exact ac _ _ _ Z
 have ap:∀e∈(#[Fam.Cf F.sA,Fam.Er F.sA]:Array Event),∀B,F.wg<B->(MemAct.ofEvent e).low B:=by
  intro e he B O;simp only [List.mem_toArray,List.mem_cons,List.not_mem_nil,or_false] at he;rcases he with rfl | rfl <;> exact ag _ _ _ Z O
 have one:∀{e:Event} {T:Prop},Fy F T e->∀x∈(#[e]:Array Event),Fy F T x:=by
  intro e T h x U;simp at U;subst U;exact h
 have Y:∀{e:Event},(∀B,F.wg<B->(MemAct.ofEvent e).low B)->∀x∈(#[e]:Array Event),∀B,F.wg<B->(MemAct.ofEvent x).low B:=by
  intro e h x U;simp at U;subst U;exact h
 cases p <;> simp only [Fam.act] at K <;> (try (cases K;done))
 ·cases K;exact⟨one (GU _ _ (by simp) (by simp) (by simp)),rfl,Y λB O=>O⟩
 ·cases K;exact⟨one (GU _ _ (by simp) (by simp) (by simp)),rfl,Y λB O=>trivial⟩
 ·split at K
  ·cases K;exact⟨am _,by split <;> rfl,ap⟩
  ·cases K
 ·split at K
  ·cases K;exact⟨one (ac _ _ _ Z),rfl,Y λB O=>ag _ _ _ Z O⟩
  ·cases K
 ·split at K
  ·cases K;exact⟨one (ac _ _ _ Z),rfl,Y λB O=>ag _ _ _ Z O⟩
  ·cases K
 ·split at K
  ·cases K;exact⟨EZ _,rfl,aw⟩
  ·cases K
 ·cases K;exact⟨one (GU _ _ (by simp) (by simp) (by simp)),rfl,Y λB O=>trivial⟩
 ·split at K
  ·cases K;exact⟨one (ac _ _ _ Z),by split <;> rfl,Y λB O=>ag _ _ _ Z O⟩
  ·cases K
 ·split at K
  ·split at K
   ·cases K;exact⟨am _,rfl,ap⟩
   ·cases K;exact⟨one (ac _ _ _ Z),rfl,Y λB O=>ag _ _ _ Z O⟩
  ·cases K
 ·cases K;refine⟨one ⟨λx U=>?_,by simp [Fam.CJ]⟩,rfl,Y λB O=>O⟩;simp [Fam.CJ,MemAct.ofEvent,MemAct.touch?] at U;subst U;exact⟨⟨F.wg,rfl,.inl rfl⟩,by simp,λ_=> .inl rfl⟩
 ·split at K
  ·cases K;exact⟨EZ _,rfl,aw⟩
  ·cases K
 ·split at K
  ·cases K;exact⟨one (ac _ _ _ Z),rfl,Y λB O=>ag _ _ _ Z O⟩
  ·cases K
 ·cases K;exact⟨one (GU _ _ (by simp) (by simp) (by simp)),rfl,Y λB O=>trivial⟩
 ·cases K;exact⟨one (GU _ _ (by simp) (by simp) (by simp)),rfl,Y λB O=>trivial⟩
 ·split at K
  ·cases K;exact⟨am _,by split <;> rfl,ap⟩
  ·cases K
 ·cases K;refine⟨one ⟨λx U=>?_,by simp [Fam.CJ]⟩,rfl,Y λB O=>O⟩;simp [Fam.CJ,MemAct.ofEvent,MemAct.touch?] at U;subst U;exact⟨⟨F.wg,rfl,.inl rfl⟩,by simp,λ_=> .inr ⟨_,rfl⟩⟩
 ·cases K;exact⟨one (GU _ _ (by simp) (by simp) (by simp)),rfl,Y λB O=>trivial⟩
 all_goals
  cases K;exact⟨by simp,rfl,by simp⟩
theorem Wi(p:Ph){es:Array Event}{U:Nx}(K:F.act p v wt sm=some ((v',wt',sm'),es,U)){k:Nat}(hw:GJ F k (.ph p))(O:late (.ph p)):
  ∀m e,es[m]? =some e->(MemAct.ofEvent e).touch? =none∨((∃ad wr,e=⟨.cell ad,wr,true⟩)/\0<deafBehind (FN (.ph p)) (es.extract 0 m)):=by
 have two:∀m e,(#[Fam.Cf F.sA,Fam.Er F.sA]:Array Event)[m]? =some e->(∃ad wr,e=⟨.cell ad,wr,true⟩)/\0<deafBehind 1 ((#[Fam.Cf F.sA,Fam.Er F.sA]:Array Event).extract 0 m):=by
  intro m e h
  match m with
  | 0=>simp at h;subst h;exact⟨⟨_,_,rfl⟩,by simp [deafBehind]⟩
  | 1=>simp at h;subst h;exact⟨⟨_,_,rfl⟩,by simp [deafBehind,Fam.Cf]⟩
  | m+2=>simp at h
 cases p <;> simp only [GJ] at hw <;> (try exact hw.elim) <;> simp only [late] at O <;> (try exact O.elim) <;> simp only [Fam.act] at K <;> (try (cases K;done))
 ·cases K;intro m e h
  match m with
  | 0=>simp at h;subst h;exact .inl rfl
  | m+1=>simp at h
 ·split at K
  ·cases K;exact λm e h=> .inr (two m e h)
  ·cases K
 ·split at K
  ·cases K;intro m e h
   match m with
   | 0=>simp at h;subst h;exact .inr ⟨⟨_,_,rfl⟩,by simp [deafBehind,FN]⟩
   | m+1=>simp at h
  ·cases K
 ·split at K
  ·cases K;intro m e h
   match m with
   | 0=>simp at h;subst h;exact .inr ⟨⟨_,_,rfl⟩,by simp [deafBehind,FN]⟩
   | m+1=>simp at h
  ·cases K
 ·split at K
  ·cases K;intro m e h
   match m with
   | 0=>simp [semEvents] at h;subst h;exact .inl rfl
   | 1=>simp [semEvents] at h;subst h;exact .inr ⟨⟨_,_,rfl⟩,by simp [deafBehind,FN,semEvents]⟩
   | 2=>simp [semEvents] at h;subst h;exact .inr ⟨⟨_,_,rfl⟩,by simp [deafBehind,FN,semEvents]⟩
   | 3=>simp [semEvents] at h;subst h;exact .inl rfl
   | m+4=>simp [semEvents] at h
  ·cases K
theorem Xl{p:LP}{m m':M4}{q q':Nat}{es:Array Event}{o:Option LP}(K:(m',q',es,o)∈F.BY p m q):
  (∀e∈es,Fy F False e)/\deafBehind (dl p) es=oC dl o/\(∀e∈es,∀B,F.mu<B->(MemAct.ofEvent e).low B):=by
 have ac:∀(a:Addr) w,a.block=F.mu->Fy F False ⟨.cell a,w,true⟩:=by
  intro a w hb;refine⟨λx Z=>?_,by simp⟩;have:x=⟨.cell a,w,.atomic⟩:=by cases w <;> (simp [MemAct.ofEvent,MemAct.touch?] at Z;exact Z.symm)
  subst this;exact⟨⟨F.mu,by simp [CP,hb],.inr rfl⟩,by simp,by simp⟩
 have ag:∀(a:Addr) w B,a.block=F.mu->F.mu<B->(MemAct.ofEvent ⟨.cell a,w,true⟩).low B:=by
  intro a w B hb O;cases w <;> simp [MemAct.ofEvent,MemAct.low,Loc.low,hb,O]
 have GU:∀(m:Mark),(∀a,m≠ .read a)->(∀a,m≠ .write a)->(∀a,m≠ .release a)->Fy F False (Fam.CJ m):=by
  intro m al am ap;exact⟨λx Z=>(by rw [Q4 al am] at Z;cases Z),λe=>ap _ (Loc.mark.inj e)⟩
 have nil:∀d,(∀e∈(#[]:Array Event),Fy F False e)/\deafBehind d #[]=d/\(∀e∈(#[]:Array Event),∀B,F.mu<B->(MemAct.ofEvent e).low B):=λd=>⟨by simp,rfl,by simp⟩;have rd:∀d,(∀e∈(#[Fam.Cf F.uA]:Array Event),Fy F False e)/\deafBehind d #[Fam.Cf F.uA]=d/\(∀e∈(#[Fam.Cf F.uA]:Array Event),∀B,F.mu<B->(MemAct.ofEvent e).low B):=λd=>
  ⟨λe he=>by simp at he;subst he;exact ac _ _ rfl,rfl,λe he B O=>by simp at he;subst he;exact ag _ _ _ rfl O⟩
 have U:∀d,(∀e∈(#[Fam.Cf F.uA,Fam.Er F.uA]:Array Event),Fy F False e)/\deafBehind d #[Fam.Cf F.uA,Fam.Er F.uA]=d/\(∀e∈(#[Fam.Cf F.uA,Fam.Er F.uA]:Array Event),∀B,F.mu<B->(MemAct.ofEvent e).low B):=λd=>
  ⟨λe he=>by
   simp only [List.mem_toArray,List.mem_cons,List.not_mem_nil,or_false] at he
   rcases he with rfl | rfl <;> exact ac _ _ rfl,rfl,λe he B O=>by
   simp only [List.mem_toArray,List.mem_cons,List.not_mem_nil,or_false] at he
   rcases he with rfl | rfl <;> exact ag _ _ _ rfl O⟩
 have EZ:(∀e∈semEvents F.qA,Fy F False e)/\deafBehind 1 (semEvents F.qA)=1/\(∀e∈semEvents F.qA,∀B,F.mu<B->(MemAct.ofEvent e).low B):=by
  refine⟨λe he=>?_,rfl,λe he B O=>?_⟩
  ·simp only [semEvents,List.mem_toArray,List.mem_cons,List.not_mem_nil,or_false] at he;rcases he with rfl | rfl | rfl | rfl
   ·exact GU .disable (by simp) (by simp) (by simp)
   ·exact ac _ _ rfl
   ·exact ac _ _ rfl
   ·exact GU .enable (by simp) (by simp) (by simp)
  ·simp only [semEvents,List.mem_toArray,List.mem_cons,List.not_mem_nil,or_false] at he;rcases he with rfl | rfl | rfl | rfl
   ·trivial
   ·exact ag _ _ _ rfl O
   ·exact ag _ _ _ rfl O
   ·trivial
 have Y:∀(m:Mark) (d d':Nat),(∀a,m≠ .read a)->(∀a,m≠ .write a)->(∀a,m≠ .release a)->deafBehind d #[Fam.CJ m]=d'->(∀B,F.mu<B->(MemAct.ofEvent (Fam.CJ m)).low B)->
   (∀e∈(#[Fam.CJ m]:Array Event),Fy F False e)/\deafBehind d #[Fam.CJ m]=d'/\(∀e∈(#[Fam.CJ m]:Array Event),∀B,F.mu<B->(MemAct.ofEvent e).low B):=λm d d' al am ap aq ay=>
  ⟨λe he=>by simp at he;subst he;exact GU m al am ap,aq,λe he B O=>by simp at he;subst he;exact ay B O⟩
 cases p <;> simp only [Fam.BY,List.mem_singleton,Prod.mk.injEq,List.not_mem_nil] at K
 case F3=>obtain⟨rfl,rfl,rfl,rfl⟩:=K;exact Y .disable 0 1 (by simp) (by simp) (by simp) rfl λB O=>trivial
 case Hb=>
  split at K <;> simp only [List.mem_singleton,Prod.mk.injEq] at K <;> obtain⟨rfl,rfl,rfl,rfl⟩:=K
  ·exact U 1
  ·exact rd 1
 case Cp sv aw it old=>
  simp only [Fam.Fx,List.mem_append] at K;rcases K with K | K
  ·split at K
   ·split at K
    ·simp only [List.mem_singleton] at K;split at K <;> simp only [Prod.mk.injEq] at K <;> obtain⟨rfl,rfl,rfl,rfl⟩:=K
     ·exact U 1
     ·exact rd 1
    ·simp only [List.mem_singleton,Prod.mk.injEq] at K;obtain⟨rfl,rfl,rfl,rfl⟩:=K;exact nil 1
   ·simp at K
  ·split at K
   ·split at K
    ·simp only [List.mem_singleton,Prod.mk.injEq] at K;obtain⟨rfl,rfl,rfl,rfl⟩:=K;exact U 1
    ·simp only [List.mem_cons,List.not_mem_nil,or_false,Prod.mk.injEq] at K;rcases K with⟨rfl,rfl,rfl,rfl⟩ | ⟨rfl,rfl,rfl,rfl⟩ <;> exact U 1
   ·simp only [List.mem_singleton,Prod.mk.injEq] at K;obtain⟨rfl,rfl,rfl,rfl⟩:=K;exact rd 1
 case Cz sv=>obtain⟨rfl,rfl,rfl,rfl⟩:=K;cases sv <;> exact EZ
 case FY=>
  simp only [List.mem_cons,List.not_mem_nil,or_false,Prod.mk.injEq] at K;rcases K with⟨rfl,rfl,rfl,rfl⟩ | ⟨rfl,rfl,rfl,rfl⟩ <;> exact nil 1
 case EA sv=>split at K <;> simp only [List.mem_singleton,Prod.mk.injEq] at K <;> obtain⟨rfl,rfl,rfl,rfl⟩:=K <;> exact nil 1
 case HG=>
  obtain⟨rfl,rfl,rfl,rfl⟩:=K;split
  ·exact U 1
  ·split <;> exact U 1
 case EJ old=>
  split at K <;> simp only [List.mem_singleton,Prod.mk.injEq] at K <;> obtain⟨rfl,rfl,rfl,rfl⟩:=K
  ·exact U 1
  ·exact rd 1
 case He=>obtain⟨rfl,rfl,rfl,rfl⟩:=K;split <;> exact nil 1
 case EW b=>obtain⟨rfl,rfl,rfl,rfl⟩:=K;exact EZ
 case len=>obtain⟨rfl,rfl,rfl,rfl⟩:=K;exact Y .enable 1 0 (by simp) (by simp) (by simp) rfl λB O=>trivial
 case EY=>obtain⟨rfl,rfl,rfl,rfl⟩:=K;exact Y .enable 1 0 (by simp) (by simp) (by simp) rfl λB O=>trivial
 case JI=>obtain⟨rfl,rfl,rfl,rfl⟩:=K;exact Y .disable 0 1 (by simp) (by simp) (by simp) rfl λB O=>trivial
 case JD=>obtain⟨rfl,rfl,rfl,rfl⟩:=K;exact Y (.acquire F.uA) 0 0 (by simp) (by simp) (by simp) rfl λB O=>O
 case JR=>obtain⟨rfl,rfl,rfl,rfl⟩:=K;exact Y (.releaseMerge F.uA) 0 0 (by simp) (by simp) (by simp) rfl λB O=>O
 all_goals
  obtain⟨rfl,rfl,rfl,rfl⟩:=K
 all_goals first | exact nil 0 | exact nil 1 | exact U 1
end
end Pal
namespace Pal
open Go Go.Conc
open Go.ConcN (upd upd_same upd_ne sumTo sumTo_upd sumTo_upd_out sumTo_congr le_sumTo sumTo_le fork_knows RelBy)
def CC(c:Bool)(N:Nat)(φ:Nat->Nx):Nat->Nx:=λi=>if c=true/\i=N then φ 0 else if c=true/\i=0 then .ph (.FI [] []) else φ i
theorem I5{N:Nat}{φ:Nat->Nx}:CC false N φ=φ:=by funext i;simp [CC]
theorem IB{c:Bool}{N:Nat}{φ:Nat->Nx}{i:Nat}(K:i≠0)(O:i≠N):CC c N φ i=φ i:=by simp [CC,K,O]
theorem Jz{N:Nat}{φ:Nat->Nx}:CC true N φ N=φ 0:=by simp [CC]
theorem MP{c:Bool}{N:Nat}{φ:Nat->Nx}{i:Nat}{x:Nx}(K:i≠0)(O:i≠N):upd (CC c N φ) i x=CC c N (upd φ i x):=by
 funext a;unfold CC;by_cases e:a=i
 ·subst e;rw [upd_same,if_neg (by simp [O]),if_neg (by simp [K]),upd_same]
 ·rw [upd_ne _ _ e];rw [upd_ne φ x (Ne.symm K),upd_ne _ _ e]
theorem WQ{N:Nat}{φ:Nat->Nx}{x:Nx}(O:N≠0):upd (CC true N φ) N x=CC true N (upd φ 0 x):=by
 funext a;unfold CC;by_cases e:a=N
 ·subst e;simp [upd_same]
 ·rw [upd_ne _ _ e];by_cases K:a=0
  ·subst K;simp [e]
  ·rw [upd_ne φ x K];simp [e,K]
def Hv:Nx->Bool
 | .gone _=>true
 | .ph p=>Fam.CO p
def loc(x:Nx)(s:St):St:=if Hv x=true then .quiet else s
def Gu:LP->Prop
 | .Gx | .JK | .JR | .JI | .HG | .EJ _ | .He | .EW _ | .EY=>True
 | _=>False
def stored:Nx->Prop
 | .gone _=>True
 | .ph (.lk _ p)=>Gu p
 | .ph .HI | .ph .Gv | .ph .IG | .ph .Hc | .ph .GM | .ph .G8 | .ph .Fi=>True
 | _=>False
def Pu(p:Ph):Prop:=p= .Fv∨∃k sv,p= .lk k (.Cz sv)
inductive Gy (P:Program) (F:Fam) (main:Bool):Nx->Rk->Bool->Gs_
 | walk {p:Ph} {r:Rk} {g:Goroutine} {s:St}:main=Fam.CF p->(Fam.CO p=true->s= .quiet)->Jr P main (JQ (Stop P F p)) r g s->Gy P F main (.ph p) r true g s
 | blk {p:Ph} {r:Rk} {g:Goroutine} {s:St}:Pu p->main=Fam.CF p->Stop P F p g s->Gy P F main (.ph p) r false {g with status:= .blocked} s
 | gone {q d:Nat} {g:Goroutine}:main=false->QuitsD P q d g->Gy P F main (.gone d) (chain q) true g .quiet
section
variable {P:Program}{F:Fam}{main:Bool}
theorem Jr.running{p:Ph}{r:Rk}{g:Goroutine}{s:St}(h:Jr P main (JQ (Stop P F p)) r g s):g.status= .running:=by
 cases r with
 | leaf=>obtain⟨s₀,_,K⟩:=h;exact K.law.run
 | node f=>
  rcases h with⟨s₀,_,K⟩ | ⟨O,_⟩
  ·exact K.law.run
  ·exact O
theorem Jr.at_{Q:GP}{r:Rk}{g:Goroutine}{s:St}(h:Q g s):Jr P main Q r g s:=by
 cases r with
 | leaf=>exact h
 | node f=>exact .inl h
theorem Gy.awake{x:Nx}{r:Rk}{b:Bool}{g:Goroutine}{s:St}(h:Gy P F main x r b g s):Go.Conc.awake g:=by
 cases h with
 | walk _ _ K=>exact awake_of (.inl K.running)
 | blk _ _ _=>exact awake_of (.inr (.inl rfl))
 | gone _ O=>exact awake_of (O.status.elim .inl λx=> .inr (.inr x))
theorem Up{g:Goroutine}(h:g.status= .running):{({g with status:= .blocked}:Goroutine) with status:= .running}=g:=by
 obtain⟨a,b,c,d,e⟩:=g;simp only at h;subst h;rfl
theorem Qn{p:Ph}(h:Pu p):Fam.CO p=false:=by
 rcases h with rfl | ⟨k,sv,rfl⟩ <;> rfl
theorem Gy.woken{x:Nx}{r:Rk}{b:Bool}{o:Goroutine}{s:St}(h:Gy P F main x r b o s){g g':Goroutine}{w':World}:
  ∃b',Gy P F main x r b' (Go.Conc.woken P g g' w' o) s/\(b=true->b'=true)/\(mayWake P g=true->g'.status= .running->b'=true):=by
 have am:∀(o:Goroutine),Go.Conc.woken P g g' w' o=o.again w'∨Go.Conc.woken P g g' w' o=o:=by
  intro o;unfold Go.Conc.woken;split
  ·exact .inl rfl
  ·exact .inr rfl
 cases h with
 | walk K ap Y=>exact⟨true,by rw [woken_run Y.running];exact .walk K ap Y,λ_=>rfl,λ_ _=>rfl⟩
 | @blk p _ go _ Z K O=>
  have ac:({go with status:= .blocked}:Goroutine).again w'=go:=by
   have:=O.law.offers;have aq:({go with status:= .blocked}:Goroutine).again w'={({go with status:= .blocked}:Goroutine) with status:= .running}:=by simp [Goroutine.again,this]
   rw [aq];exact Up O.law.run
  have ag:Gy P F main (.ph p) r true go s:= .walk K (λq=>by rw [Qn Z] at q;cases q) (Jr.at_ ⟨s,.refl _,O⟩);by_cases U:mayWake P g=true/\g'.status= .running
  ·have e:Go.Conc.woken P g g' w' ({go with status:= .blocked}:Goroutine)=({go with status:= .blocked}:Goroutine).again w':=by
    unfold Go.Conc.woken;rw [if_pos (by simp [U.1,U.2])]
   exact⟨true,by rw [e,ac];exact ag,λ_=>rfl,λ_ _=>rfl⟩
  ·rcases am ({go with status:= .blocked}:Goroutine) with e | e
   ·exact⟨true,by rw [e,ac];exact ag,λ_=>rfl,λa b=>absurd ⟨a,b⟩ U⟩
   ·exact⟨false,by rw [e];exact .blk Z K O,λe=>e,λa b=>absurd ⟨a,b⟩ U⟩
 | gone K al=>exact⟨true,by rw [woken_quitsD al];exact .gone K al,λ_=>rfl,λ_ _=>rfl⟩
end
structure Base where
 N0:Nat
 t0:Nat
 E0:LH
 w0:World
structure Inv (P:Program) (F:Fam) (B:Base) (gs:Array Goroutine) (w:World) (t:Trace) (φ:Nat->Nx) (r:Nat->Rk) (bt:Nat->Bool) (S:Nat->St) (Sh:Nat->Prop) (j:Nat) (c:Bool) (v wt sm:Nat) (m:M4) (q:Nat) (f:Nat->Value):Prop where
 CG:CH F B.N0 (gs.size+c.toNat) j c (CC c gs.size φ) v wt sm false
 lock:LI gs.size φ m q
 EK:EV F B.N0 B.t0 gs.size j φ S t
 Ks:∀i g,gs[i]? =some g->Gy P F (i==0) (φ i) (r i) (bt i) g (loc (φ i) (S i))
 Cd:BX t w gs.size S Sh
 HJ:Sh F.wg
 Iq:Sh F.mu
 IL:Sh F.fd
 L5:F.mu≠F.wg
 JN:F.fd≠F.wg
 JM:F.fd≠F.mu
 HL:F.n<134217728
 mn:φ 0≠ .ph .GR/\φ 0≠ .ph .Hz
 wg:F.WG w v wt sm
 Jb:F.MU w m q
 Gg:F.FD w f
 blk:∀i,i<gs.size->bt i=false->(i=0/\φ 0= .ph .Fv/\sm=0)∨((∃k sv,φ i= .ph (.lk k (.Cz sv)))/\q=0)
 Ir:∀k,k<j->stored (φ (B.N0+k))->F.msg k (f k) (S (B.N0+k)).E
 le:Le B.E0 (S 0).E
 tape:w.tape=B.w0.tape
 os:Gf B.w0.os w.os
 output:w.output=B.w0.output
section
variable {P:Program}{F:Fam}{B:Base}{gs:Array Goroutine}{w w':World}{t:Trace}{φ:Nat->Nx}{r:Nat->Rk}{bt:Nat->Bool}{S:Nat->St}{Sh:Nat->Prop}{j:Nat}{c:Bool}{v wt' sm v₁ wt₁ sm₁:Nat}{m m₁:M4}{q q₁:Nat}{f f₁:Nat->Value}
theorem Inv.at_(h:Inv P F B gs w t φ r bt S Sh j c v wt' sm m q f)(d:Nat):Inv P F B gs (w.at d) t φ r bt S Sh j c v wt' sm m q f:=
 have K:BX t (w.at d) gs.size S Sh:=by
  have:=h.Cd.mute (u:= #[]) (w':=w.at d) (g:=0) (by simp) (by simp) (by simp) rfl;simpa using this
 {h with Cd:=K}
theorem Inv.size(h:Inv P F B gs w t φ r bt S Sh j c v wt' sm m q f):gs.size=B.N0+j:=by have:=h.CG.size;omega
theorem Inv.EB(h:Inv P F B gs w t φ r bt S Sh j c v wt' sm m q f){i:Nat}(hi:i<gs.size):i=0∨(i≠0/\∃d,φ i= .gone d/\i<B.N0)∨∃k,k<j/\i=B.N0+k/\i≠0/\GJ F k (φ i):=by
 have Y:=h.size;have Z:=h.CG.pos;rcases Nat.eq_zero_or_pos i with K | K
 ·exact .inl K
 rcases Nat.lt_or_ge i B.N0 with O | O
 ·have:=h.CG.old i K O;rw [IB (by omega) (by omega)] at this;cases U:φ i with
  | gone d=>exact .inr (.inl ⟨by omega,d,rfl,O⟩)
  | ph p=>rw [U] at this;exact this.elim
 ·have:=h.CG.work (i - B.N0) (by omega);rw [show B.N0+(i - B.N0)=i by omega,IB (by omega) (by omega)] at this;exact .inr (.inr ⟨i - B.N0,by omega,by omega,by omega,this⟩)
theorem Inv.main(h:Inv P F B gs w t φ r bt S Sh j c v wt' sm m q f):∃p,φ 0= .ph p/\Fam.CF p=true/\((c=false/\Hy F.n j c p)∨(c=true/\I7 (.ph p))):=by
 have Z:=h.size;cases K:c with
 | false=>
  have:=h.CG.main;rw [K,I5] at this;obtain⟨p,Y,O⟩:=this;exact⟨p,Y,by cases p <;> simp [Hy] at O <;> rfl,.inl ⟨rfl,O⟩⟩
 | true=>
  have:=h.CG.cls K;have ac:=h.CG.cj K;rw [K,show B.N0+F.n=gs.size by omega,Jz] at this;cases U:φ 0 with
  | gone d=>
   have:=h.CG.mode;rw [if_pos K,K,show B.N0+F.n=gs.size by omega,Jz,U] at this;simp [DD] at this
  | ph p=>rw [U] at this;exact⟨p,rfl,by cases p <;> simp [I7] at this <;> rfl,.inr ⟨rfl,this⟩⟩
theorem Ju(a b:LP->Nat)(N:Nat)(φ:Nat->Nx):Sg (λp=>a p+b p) N φ=Sg a N φ+Sg b N φ:=by
 unfold Sg
 induction N with
 | zero=>rfl
 | succ N K=>
  simp only [sumTo,K];have:De (λp=>a p+b p) (φ N)=De a (φ N)+De b (φ N):=by
   cases φ N with
   | gone d=>rfl
   | ph p=>cases p <;> rfl
  omega
theorem Ov{a b:Nat->Nat}:∀{N M:Nat},N<=M->(∀i,i<N->a i<=b i)->sumTo N a<=sumTo M b
 | 0,_,_,_=>by simp [sumTo]
 | N+1,0,h,_=>by omega
 | N+1,M+1,h,K=>by
  rcases Nat.lt_or_ge N M with q | q
  ·have O:sumTo (N+1) a<=sumTo M b:=Ov (by omega) K
   simp only [sumTo] at O ⊢;omega
  ·obtain rfl:N=M:=by omega
   have O:sumTo N a<=sumTo N b:=Ov (Nat.le_refl _) λi hi=>K i (by omega);have U:=K N (by omega);simp only [sumTo];omega
theorem Inv.small(h:Inv P F B gs w t φ r bt S Sh j c v wt' sm m q f):Da m:=by
 have Y:=h.size;have hb:Sg (λp=>(pQ p+pV p)+pD p) gs.size φ<=sumTo (gs.size+c.toNat) λi=>cU (CC c gs.size φ i):=by
  refine Ov (by omega) λi hi=>?_;rcases Nat.eq_zero_or_pos i with rfl | Z
  ·obtain⟨p,O,hm,_⟩:=h.main;rw [O];cases p <;> first | (simp [De];done) | (simp [Fam.CF] at hm)
  ·rw [IB (by omega) (by omega)];cases φ i with
   | gone d=>simp [De]
   | ph p=>
    cases p <;> simp only [De] <;> (try omega)
    rename_i k l;cases l <;> simp [pQ,pV,pD,cU]
 rw [Ju,Ju] at hb;have ac:=h.CG.cnt;have ag:=h.CG.P1;obtain⟨l1,l2,U⟩:=h.lock.ln;have al:=h.HL;show m.w<134217728;cases K:m.s with
 | false=>have:=(l2 K).2.2.2.1;omega
 | true=>have:=(U K).2.2.2.2.1;omega
theorem Inv.go(h:Inv P F B gs w t φ r bt S Sh j c v wt' sm m q f){i:Nat}{g g':Goroutine}{es:Array Event}{x:Nx}{ρ:Rk}{s':St}(hi:gs[i]? =some g)
  (aq:CH F B.N0 (gs.size+c.toNat) j c (CC c gs.size (upd φ i x)) v₁ wt₁ sm₁ false) (aw:LI gs.size (upd φ i x) m₁ q₁)
  (ay:EV F B.N0 B.t0 gs.size j (upd φ i x) (upd S i s') (t++MemOp.ofEvents i g.frame.fn g.frame.place es))
  (az:Gy P F (i==0) x ρ true g' (loc x s'))
  (hC:BX (t++MemOp.ofEvents i g.frame.fn g.frame.place es) w' gs.size (upd S i s') Sh)
  (a0:F.WG w' v₁ wt₁ sm₁) (a1:F.MU w' m₁ q₁) (a2:F.FD w' f₁)
  (a3:sm₁≠0->sm=0->mayWake P g=true/\g'.status= .running) (a4:q₁≠0->q=0->mayWake P g=true/\g'.status= .running)
  (a5:∀k,k<j->stored (upd φ i x (B.N0+k))->F.msg k (f₁ k) (upd S i s' (B.N0+k)).E)
  (a6:i=0->x≠ .ph .GR/\x≠ .ph .Hz) (a7:i=0->Le (S 0).E s'.E) (a8:w'.tape=w.tape) (a9:Gf w.os w'.os) (bb:w'.output=w.output):
  ∃O,Inv P F B ((gs.map (woken P g g' w')).setIfInBounds i g') w' (t++MemOp.ofEvents i g.frame.fn g.frame.place es) (upd φ i x) (upd r i ρ) O (upd S i s') Sh j c v₁ wt₁ sm₁ m₁ q₁ f₁:=by
 have be:i<gs.size:=(Array.getElem?_eq_some_iff.1 hi).1;have U:((gs.map (woken P g g' w')).setIfInBounds i g').size=gs.size:=by simp
 have am:∀a,∃b',(a=i->b'=true)/\(a≠i->∀o,gs[a]? =some o->Gy P F (a==0) (φ a) (r a) b' (woken P g g' w' o) (loc (φ a) (S a))/\(bt a=true->b'=true)/\(mayWake P g=true->g'.status= .running->b'=true)):=by
  intro a;by_cases e:a=i
  ·exact⟨true,λ_=>rfl,λq=>absurd e q⟩
  ·cases K:gs[a]? with
   | none=>exact⟨true,λ_=>rfl,λ_ o q=>by cases q⟩
   | some o=>
    obtain⟨b',bi,Y,Z⟩:=(h.Ks a o K).woken (g:=g) (g':=g') (w':=w');exact⟨b',λq=>absurd q e,λ_ o' q=>by cases q;exact⟨bi,Y,Z⟩⟩
 let O:Nat->Bool:=λa=>Classical.choose (am a);have hb:∀a,(a=i->O a=true)/\(a≠i->∀o,gs[a]? =some o->Gy P F (a==0) (φ a) (r a) (O a) (woken P g g' w' o) (loc (φ a) (S a))/\(bt a=true->O a=true)/\(mayWake P g=true->g'.status= .running->O a=true)):=λa=>Classical.choose_spec (am a);refine⟨O,by rw [U];exact aq,by rw [U];exact aw,by rw [U];exact ay,λa o K=>?_,by rw [U];exact hC,h.HJ,h.Iq,h.IL,h.L5,h.JN,h.JM,h.HL,(by
  by_cases e:i=0
  ·subst e;rw [upd_same];exact a6 rfl
  ·rw [upd_ne _ _ (Ne.symm e)];exact h.mn),a0,a1,a2,λa ag al=>?_,a5,λb o K=>?_,a8.trans h.tape,h.os.trans a9,bb.trans h.output⟩
 ·by_cases e:a=i
  ·subst e;rw [Array.getElem?_setIfInBounds_self_of_lt (by simpa using be)] at K;obtain rfl:=Option.some.inj K;rw [upd_same,upd_same,upd_same,(hb a).1 rfl];exact az
  ·rw [Array.getElem?_setIfInBounds_ne (Ne.symm e),Array.getElem?_map] at K;obtain⟨o',bn,rfl⟩:=Option.map_eq_some_iff.1 K;rw [upd_ne _ _ e,upd_ne _ _ e,upd_ne _ _ e];exact((hb a).2 e o' bn).1
 ·rw [U] at ag;have e:a≠i:=λe=>by have:=(hb a).1 e;rw [al] at this;cases this
  obtain⟨_,k1,bo⟩:=(hb a).2 e _ (Array.getElem?_eq_getElem ag);have ap:¬(mayWake P g=true/\g'.status= .running):=λ⟨x,y⟩=>by have:=bo x y;rw [al] at this;cases this
  have bq:bt a=false:=by
   cases ac:bt a with
   | false=>rfl
   | true=>have:=k1 ac;rw [al] at this;cases this
  rcases h.blk a ag bq with⟨rfl,Y,Z⟩ | ⟨⟨k,sv,Y⟩,Z⟩
  ·refine .inl ⟨rfl,by rw [upd_ne _ _ e];exact Y,?_⟩;exact Classical.not_not.1 λac=>ap (a3 ac Z)
  ·refine .inr ⟨⟨k,sv,by rw [upd_ne _ _ e];exact Y⟩,?_⟩;exact Classical.not_not.1 λac=>ap (a4 ac Z)
 ·by_cases e:i=0
  ·subst e;rw [upd_same];exact a7 rfl b o (h.le b o K)
  ·rw [upd_ne _ _ (Ne.symm e)];exact h.le b o K
end
end Pal
namespace Pal
open Go Go.Conc
open Go.ConcN (upd upd_same upd_ne sumTo sumTo_upd sumTo_upd_out sumTo_congr le_sumTo sumTo_le fork_knows RelBy)
def P6(P:Program)(F:Fam)(B:Base)(gs:Array Goroutine)(w:World)(t:Trace):Prop:=
 ∃q Sh g s,Hi P gs w t q Sh g s/\F.fin g s/\Le B.E0 s.E/\w.tape=B.w0.tape/\Gf B.w0.os w.os/\w.output=B.w0.output
def Ia(P:Program)(F:Fam)(B:Base)(gs:Array Goroutine)(w:World)(sl:Option (Nat×Nat))(t:Trace)(i:Nat)(K:Mu):Prop:=
 ∃gs' w' O u,runT P (crowd gs w sl) i=(.next (crowd gs' w' O),u)/\
  ((∃φ r bt S Sh j c v wt' sm m q f,Inv P F B gs' w' (t++u) φ r bt S Sh j c v wt' sm m q f/\Mu.lt (mu F gs'.size φ m q r bt) K)∨P6 P F B gs' w' (t++u))
theorem LI.same{N:Nat}{φ:Nat->Nx}{m:M4}{q i:Nat}{y:Nx}(h:LI N φ m q)(hi:i<N)(O:∀f,De f (φ i)=De f y∨(f≠pH/\f≠pN/\f≠pZ/\f≠pV/\f≠pT/\f≠pQ/\f≠pD/\f≠pX))(U:N1 y m):LI N (upd φ i y) m q:=by
 have e:∀f,(f=pH∨f=pN∨f=pZ∨f=pV∨f=pT∨f=pQ∨f=pD∨f=pX)->Sg f N (upd φ i y)=Sg f N φ:=λf Y=>M6 f hi (by
  rcases O f with q | ⟨a,b,c,d,e,f,g,h⟩
  ·exact q
  ·rcases Y with q | q | q | q | q | q | q | q <;> contradiction)
 refine⟨by rw [e pH (by simp),e pN (by simp),e pZ (by simp),e pV (by simp),e pT (by simp),e pQ (by simp),e pD (by simp),e pX (by simp)];exact h.ln,λa Z=>?_⟩;by_cases K:a=i
 ·subst K;rw [upd_same];exact U
 ·rw [upd_ne _ _ K];exact h.loc a Z
section
variable {P:Program}{F:Fam}{B:Base}{gs:Array Goroutine}{w w':World}{sl:Option (Nat×Nat)}{t:Trace}{φ:Nat->Nx}{r:Nat->Rk}{bt:Nat->Bool}{S:Nat->St}{Sh:Nat->Prop}{j:Nat}{c:Bool}{v wt' sm v₁ wt₁ sm₁:Nat}{m m₁:M4}{q q₁:Nat}{f f₁:Nat->Value}
theorem Inv.go'(h:Inv P F B gs w t φ r bt S Sh j c v wt' sm m q f){i:Nat}{g g':Goroutine}{es:Array Event}{x:Nx}{ρ:Rk}{s':St}(hi:gs[i]? =some g)(O:stepG P (i==0) g w= .go g' w' es)
  (U:CH F B.N0 (gs.size+c.toNat) j c (CC c gs.size (upd φ i x)) v₁ wt₁ sm₁ false) (Y:LI gs.size (upd φ i x) m₁ q₁)
  (Z:EV F B.N0 B.t0 gs.size j (upd φ i x) (upd S i s') (t++MemOp.ofEvents i g.frame.fn g.frame.place es))
  (ac:Gy P F (i==0) x ρ true g' (loc x s'))
  (hC:BX (t++MemOp.ofEvents i g.frame.fn g.frame.place es) w' gs.size (upd S i s') Sh)
  (ag:F.WG w' v₁ wt₁ sm₁) (al:F.MU w' m₁ q₁) (am:F.FD w' f₁)
  (ap:sm₁≠0->sm=0->mayWake P g=true/\g'.status= .running) (aq:q₁≠0->q=0->mayWake P g=true/\g'.status= .running)
  (aw:∀k,k<j->stored (upd φ i x (B.N0+k))->F.msg k (f₁ k) (upd S i s' (B.N0+k)).E)
  (ay:i=0->x≠ .ph .GR/\x≠ .ph .Hz) (az:i=0->Le (S 0).E s'.E) (a0:w'.tape=w.tape) (a1:Gf w.os w'.os) (a2:w'.output=w.output)
  (hm:∀K,Mu.lt (mu F gs.size (upd φ i x) m₁ q₁ (upd r i ρ) K) (mu F gs.size φ m q r bt)):Ia P F B gs w sl t i (mu F gs.size φ m q r bt):=by
 obtain⟨K,a3⟩:=h.go hi U Y Z ac hC ag al am ap aq aw ay az a0 a1 a2;refine⟨_,_,_,_,runT_crowd_go hi O,.inl ⟨_,_,_,_,_,_,_,_,_,_,_,_,_,a3,?_⟩⟩;have a4:((gs.map (woken P g g' w')).setIfInBounds i g').size=gs.size:=by simp
 rw [a4];exact hm K
theorem QB{k:Nat}{p:Ph}(hw:GJ F k (.ph p))(K:late (.ph p)):Fam.CO p=true:=by
 cases p <;> simp only [GJ] at hw <;> (try exact hw.elim) <;> first | rfl | exact K.elim
theorem Mo(a:Nat)(fn:FuncId)(pos:String):MemOp.ofEvents a fn pos #[]= #[]:=by rw [ofEvents_eq];simp
theorem Inv.own(h:Inv P F B gs w t φ r bt S Sh j c v wt' sm m q f)(be:∀k v E E',Le E E'->F.msg k v E->F.msg k v E'){i:Nat}{g g':Goroutine}{es:Array Event}{p:Ph}{ρ:Rk}{s':St}(hi:gs[i]? =some g)(K:φ i= .ph p)(a1:(i==0)=Fam.CF p)
  (a2:stepG P (i==0) g w= .go g' w' es) (a3:Jr P (i==0) (JQ (Stop P F p)) ρ g' s') (bi:Fits s' w') (O:Fr (loc (.ph p) (S i)) w s' w') (Y:∀e∈es,Ev (loc (.ph p) (S i)) w w' e) (bn:loc (.ph p) (S i)= .quiet->s'= .quiet/\w'=w/\es= #[]) (bo:Rk.sub ρ (r i)):
  Ia P F B gs w sl t i (mu F gs.size φ m q r bt):=by
 have U:i<gs.size:=(Array.getElem?_eq_some_iff.1 hi).1;have Z:upd φ i (.ph p)=φ:=by rw [← K];exact MI _ _
 have a4:∀a5,Mu.lt (mu F gs.size (upd φ i (.ph p)) m q (upd r i ρ) a5) (mu F gs.size φ m q r bt):=λa5=>TW U (λ_=>by rw [K]) (by rw [K]) bo;cases ac:Fam.CO p with
 | true=>
  have ag:loc (.ph p) (S i)= .quiet:=by simp [loc,Hv,ac]
  obtain⟨rfl,rfl,rfl⟩:=bn ag;have aw:upd S i (S i)=S:=MI _ _;refine h.go' hi a2 (x:= .ph p) (ρ:=ρ) (s':=S i) (by rw [Z];exact h.CG) (by rw [Z];exact h.lock) ?_ (by rw [ag];exact .walk a1 (λ_=>rfl) a3) ?_ h.wg h.Jb h.Gg (λa b=>absurd b a) (λa b=>absurd b a) (by rw [Z,aw];exact h.Ir) (λe=>by subst e;rw [← K];exact h.mn) (λe=>by subst e;exact .refl _) rfl (.refl _) rfl a4
  ·rw [Z,aw,Mo];simpa using h.EK
  ·rw [aw,Mo];simpa using h.Cd
 | false=>
  have ag:loc (.ph p) (S i)=S i:=by simp [loc,Hv,ac]
  rw [ag] at O Y;have bq:loc (.ph p) s'=s':=by simp [loc,Hv,ac]
  have ay:∀b₀,Sh b₀->∀b wr,GH (S i) w w' b wr->b≠b₀:=by
   intro b₀ am b wr br;have a6:=h.Cd.sh i U b₀ am;have bB:=h.Cd.Gd b₀ am;rintro rfl;rcases br.2 with q | q | ⟨q,_⟩
   ·exact q a6.1
   ·omega
   ·exact q a6.2
  have az:∀b₀,Sh b₀->w'.heap[b₀]? =w.heap[b₀]? :=λb₀ am=>O.keep b₀ (h.Cd.Gd b₀ am) (h.Cd.sh i U b₀ am).1;have a7:∀k,k<j->i=B.N0+k->¬late (φ i):=by
   intro k al e a8;rcases h.EB U with bC | ⟨_,d,hd,_⟩ | ⟨k',_,_,_,hw⟩
   ·have:=h.CG.pos;omega
   ·rw [K] at hd;cases hd
   ·rw [K] at hw a8;rw [QB hw a8] at ac;cases ac
  have bu:∀e∈es,e.loc≠ .mark .disable/\e.loc≠ .mark .enable:=by
   intro e he;have:=Y e he;refine⟨λaq=>?_,λaq=>?_⟩ <;> unfold Ev at this <;> rw [aq] at this <;> exact this
  refine h.go' (f₁:=f) hi a2 (x:= .ph p) (ρ:=ρ) (s':=s') (by rw [Z];exact h.CG) (by rw [Z];exact h.lock) ?_ (by rw [bq];exact .walk a1 (λe=>by rw [ac] at e;cases e) a3) (h.Cd.own U bi O Y) ?_ ?_ ?_ (λa b=>absurd b a) (λa b=>absurd b a) ?_ (λe=>by subst e;rw [← K];exact h.mn) (λe=>by subst e;exact λb o a0=>O.ext b o a0) O.tape (.of O.os) O.output a4
  ·refine h.EK.app U (by rw [K];exact deafBehind_still bu _) (λe he=>⟨λa b ap hb bv=>absurd bv ?_,λa ap hb=>absurd rfl (ay F.fd h.IL F.fd a.write (KL (Y e he) ap hb)),?_⟩) ?_ (λk al bw e he a b ap hb hw=>?_) (λk al e ag=>absurd (K▸ag) (a7 k al e))
   ·have:=KL (Y e he) ap hb;rintro(q | q)
    ·exact ay F.wg h.HJ b _ this q
    ·exact ay F.mu h.Iq b _ this q
   ·intro aq;have:=Y e he;unfold Ev at this;rw [aq] at this;exact this
   ·rcases h.EB U with e | ⟨_,d,hd,_⟩ | ⟨k,_,e,_,_⟩
    ·exact .inl (.inl e)
    ·rw [K] at hd;cases hd
    ·exact .inl (.inr (by omega))
   ·have bx:=KL (Y e he) ap hb;have bz:B.N0+k≠i:=λe=>a7 k al e.symm (e▸bw);have a9:B.N0+k<gs.size:=by have:=h.size;omega
    rcases bx.2 with y | y | ⟨_,y⟩
    ·exact(h.Cd.hh i (B.N0+k) U a9 (Ne.symm bz) b y).2
    ·cases bA:(S (B.N0+k)).E b with
     | none=>rfl
     | some o=>have:=(h.Cd.fits _ a9).e b o bA;simp [Array.getElem?_eq_none y] at this
    ·rw [y] at hw;cases hw
  ·show w'.heap[F.wg]? =_;rw [az _ h.HJ];exact h.wg
  ·show w'.heap[F.mu]? =_;rw [az _ h.Iq];exact h.Jb
  ·show w'.heap[F.fd]? =_;rw [az _ h.IL];exact h.Gg
  ·intro k al bb;rw [Z] at bb;have:=h.Ir k al bb;by_cases e:B.N0+k=i
   ·rw [e,upd_same];rw [e] at this;exact be _ _ _ _ (λb o a0=>O.ext b o a0) this
   ·rw [upd_ne _ _ e];exact this
theorem Inv.slip(h:Inv P F B gs w t φ r bt S Sh j c v wt' sm m q f){i:Nat}{g:Goroutine}(hi:gs[i]? =some g)(Z:g.status= .running){d U:Nat}(O:φ i= .gone d)(a0:r i=chain U)(ag:(i==0)=false)(ap:QuitsD P U d g):
  Ia P F B gs w sl t i (mu F gs.size φ m q r bt):=by
 have al:i<gs.size:=(Array.getElem?_eq_some_iff.1 hi).1;have ac:i≠0:=by simpa using ag
 cases U with
 | zero=>rw [ap.1] at Z;cases Z
 | succ U=>
  rcases ap with⟨a1,_⟩ | ⟨_,g',es,hm,a2,a3⟩
  ·rw [a1] at Z;cases Z
  have a4:∀op∈MemOp.ofEvents i g.frame.fn g.frame.place es,op.act.touch? =none:=λop Y=>by obtain⟨e,he,rfl⟩:=mem_ofEvents Y;exact touch_mute (hm e he)
  have a5:∀e∈es,e.loc≠ .mark (.release F.sA):=by
   intro e he aq;have:=hm e he;obtain⟨loc,wr,a8⟩:=e;simp only at aq;subst aq;simp [Event.mute] at this
  have aw:upd S i (S i)=S:=MI _ _;have ay:=h.CG.leave (i:=i) (d:=d) (d':=deafBehind d es) (by omega) (by rw [IB ac (by omega)];exact O);rw [MP ac (by omega)] at ay;refine h.go' hi (by rw [ag];exact a2 w) (x:= .gone (deafBehind d es)) (ρ:=chain U) (s':=S i) ay (h.lock.other al (λk p e=>by rw [O] at e;cases e) (λk p e=>by cases e)) ?_ (.gone ag a3) ?_ h.wg h.Jb h.Gg (λa b=>absurd b a) (λa b=>absurd b a) ?_ (λe=>absurd e ac) (λe=>absurd e ac) rfl (.refl _) rfl λa9=>TW al (λ_=>by rw [O];rfl) (by rw [O];rfl) (by rw [a0];exact VF U w)
  ·refine h.EK.app al (by rw [O];rfl) (λe he=>⟨λa b K=>(by rw [touch_mute (hm e he)] at K;cases K),λa K=>(by rw [touch_mute (hm e he)] at K;cases K),a5 e he⟩) (.inr λe he=>touch_mute (hm e he)) (λk am a6 e he a b K=>(by rw [touch_mute (hm e he)] at K;cases K)) (λk am e a6=> .inl ⟨by rw [O];trivial,rfl,λρ a7=>?_⟩);exact a7.appOwn _ _ es λm e he=> .inl (touch_mute (hm e (Array.mem_of_getElem? he)))
  ·rw [aw];exact h.Cd.mute (g:=i) (λop Y=>by obtain⟨e,_,rfl⟩:=mem_ofEvents Y;rfl) a4 (λop Y=>by obtain⟨e,he,rfl⟩:=mem_ofEvents Y;exact low_mute (hm e he) _) rfl
  ·rw [aw];intro k am az;refine h.Ir k am ?_;by_cases e:B.N0+k=i
   ·rw [e,O];trivial
   ·rw [upd_ne _ _ e] at az;exact az
theorem Zg{p:Ph}{es:Array Event}{K:Nx}(O:F.act p v wt' sm=some ((v₁,wt₁,sm₁),es,K)):
  (∀q,K= .ph q->Fam.CF q=Fam.CF p/\(Fam.CO q=true->p= .Gv∨Fam.CO p=true)/\(Fam.CO q=false->Fam.CO p=false/\p≠ .Gv)/\∀k l,q≠ .lk k l)/\(sm₁≠0->sm=0->p= .Fi)/\(∀d,K= .gone d->Fam.CF p=false/\Fam.CO p=true)/\
  (∀k l,p≠ .lk k l)/\(Fam.CF p=false->stored K)/\(Fam.CF p=false->late K->late (.ph p)∨p= .Gv)/\(Fam.CF p=false->stored (.ph p))/\K≠ .ph .GR/\K≠ .ph .Hz:=by
 cases p <;> simp only [Fam.act] at O <;> (try (cases O;done))
 all_goals (try (split at O)) <;> (try (cases O;done)) <;> (try (split at O))
 all_goals cases O
 all_goals first
  | (simp [Fam.CF,Fam.CO,stored,late];done)
  | (split <;> simp [Fam.CF,Fam.CO,stored,late];done)
  | (simp [Fam.CF,Fam.CO,stored,late];omega)
theorem CH.enabled{N0 N:Nat}{cl:Bool}(h:CH F N0 N j c φ v wt' sm cl){i:Nat}(hi:i<N){p:Ph}(K:φ i= .ph p)(a0:∀k,p≠ .Ha k)(a1:∀k,p≠ .FO k)(a2:p≠ .GR)(a3:∀a4 vs,p≠ .FI a4 vs)(a5:p≠ .Hz)(a6:p= .Fv->sm=1)(a7:p≠ .Gb)(a8:∀k l,p≠ .lk k l):
  ∃v' w' sm' es a9,F.act p v wt' sm=some ((v',w',sm'),es,a9):=by
 have hm:=h.mode;have bn:=h.P1;have bo:=h.HL;have O:=h.cnt;have ac:cU (φ i)<=sumTo N λa=>cU (φ a):=le_sumTo (f:=λa=>cU (φ a)) hi;have ag:cL (φ i)<=sumTo N λa=>cL (φ a):=le_sumTo (f:=λa=>cL (φ a)) hi;have aq:cS (φ i)<=sumTo N λa=>cS (φ a):=le_sumTo (f:=λa=>cS (φ a)) hi;rw [K] at ac ag aq;have bb:wt'<=1:=by
  generalize (if c=true then φ (N0+F.n) else Nx.ph .Dt)=y at hm
  cases y with
  | gone d=>simp only [DD] at hm;omega
  | ph q=>cases q <;> simp only [DD] at hm <;> (try exact hm.elim) <;> omega
 have al:1<=(sumTo N λa=>cL (φ a))+(sumTo N λa=>cS (φ a))->v=0/\sm=0/\wt'=sumTo N λa=>cL (φ a):=by
  intro hh;generalize (if c=true then φ (N0+F.n) else Nx.ph .Dt)=y at hm
  cases y with
  | gone d=>simp only [DD] at hm;omega
  | ph q=>cases q <;> simp only [DD] at hm <;> (try exact hm.elim) <;> omega
 have am:∀x,φ i= .ph x->I7 (.ph x)->c=true/\(if c=true then φ (N0+F.n) else Nx.ph .Dt)= .ph x:=by
  intro x Y aw;rcases h.EB hi with rfl | ⟨a,b⟩ | ⟨k,ap,rfl⟩ | ⟨O,rfl⟩
  ·obtain⟨q,U,Z⟩:=h.main;rw [Y] at U;cases U;cases x <;> simp [Hy] at Z <;> exact aw.elim
  ·have:=h.old i a b;rw [Y] at this;exact this.elim
  ·have:=h.work k ap;rw [Y] at this;cases x <;> simp [GJ] at this <;> exact aw.elim
  ·exact⟨O,by rw [if_pos O];exact Y⟩
 cases p <;> simp only [Fam.act]
 ·exact absurd rfl (a0 _)
 ·exact⟨_,_,_,_,_,rfl⟩
 ·exact⟨_,_,_,_,_,rfl⟩
 ·simp only [cU] at ac;have:1<=v:=by
   have bq:1<=sumTo N λa=>cU (φ a):=ac;omega
  rw [if_pos ⟨this,by omega,bb⟩];exact⟨_,_,_,_,_,rfl⟩
 ·have be:1<=sumTo N λa=>cL (φ a):=ag;have:=al (by omega);rw [if_pos ⟨this.1,by omega⟩];exact⟨_,_,_,_,_,rfl⟩
 ·have be:1<=sumTo N λa=>cL (φ a):=ag;have:=al (by omega);rw [if_pos ⟨this.1,by omega⟩];exact⟨_,_,_,_,_,rfl⟩
 ·have br:1<=sumTo N λa=>cS (φ a):=aq;have:=al (by omega);rw [if_pos this.2.1];exact⟨_,_,_,_,_,rfl⟩
 ·exact⟨_,_,_,_,_,rfl⟩
 ·obtain⟨ay,e⟩:=am _ K trivial;rw [e] at hm;rw [if_pos ⟨hm.2.2.2.2.2,hm.2.2.2.1⟩];exact⟨_,_,_,_,_,rfl⟩
 ·obtain⟨ay,e⟩:=am _ K trivial;rw [e] at hm;rw [if_pos ⟨hm.2.2.2.2.2.1,hm.2.2.2.2.2.2,hm.2.2.2.1⟩];split <;> exact⟨_,_,_,_,_,rfl⟩
 ·exact⟨_,_,_,_,_,rfl⟩
 ·rw [if_pos (a6 rfl)];exact⟨_,_,_,_,_,rfl⟩
 ·obtain⟨ay,e⟩:=am _ K trivial;rw [e] at hm;rw [if_pos ⟨hm.2.2.2.2.1,hm.2.2.2.1⟩];exact⟨_,_,_,_,_,rfl⟩
 ·exact⟨_,_,_,_,_,rfl⟩
 ·exact absurd rfl a7
 ·exact absurd rfl a5
 ·exact⟨_,_,_,_,_,rfl⟩
 ·have bi:c=false/\v<=j/\j<F.n:=by
   rcases h.EB hi with rfl | ⟨a,b⟩ | ⟨k,ap,rfl⟩ | ⟨O,rfl⟩
   ·obtain⟨q,U,Z⟩:=h.main;rw [K] at U;cases U;have az:=h.JU;rw [K] at az;exact⟨Z.2.2,by simpa [pend] using az,Z.2.1⟩
   ·have:=h.old i a b;rw [K] at this;exact this.elim
   ·have:=h.work k ap;rw [K] at this;exact this.elim
   ·have:=h.cls O;rw [K] at this;exact this.elim
  rw [bi.1] at hm;simp only [Bool.false_eq_true,if_false,DD] at hm;rw [if_pos ⟨by omega,hm.2.2.2.1⟩];exact⟨_,_,_,_,_,rfl⟩
 ·exact⟨_,_,_,_,_,rfl⟩
 ·exact⟨_,_,_,_,_,rfl⟩
 ·exact absurd rfl (a1 _)
 ·exact absurd rfl a2
 ·exact absurd rfl (a3 _ _)
 all_goals first | exact⟨_,_,_,_,_,rfl⟩ | exact absurd rfl (a8 _ _)
end
end Pal
namespace Pal
open Go Go.Conc
open Go.ConcN (upd upd_same upd_ne sumTo sumTo_upd sumTo_upd_out sumTo_congr le_sumTo sumTo_le fork_knows RelBy)
section
variable {P:Program}{F:Fam}{B:Base}{gs:Array Goroutine}{w w':World}{sl:Option (Nat×Nat)}{t:Trace}{φ:Nat->Nx}{r:Nat->Rk}{bt:Nat->Bool}{S:Nat->St}{Sh:Nat->Prop}{j:Nat}{c:Bool}{v wt' sm v₁ wt₁ sm₁:Nat}{m m₁:M4}{q q₁:Nat}{f f₁:Nat->Value}
theorem W6(w:World)(v wt sm:Nat):(F.put w v wt sm).heap.size=w.heap.size:=by simp [Fam.put]
theorem PI(w:World)(v wt sm:Nat){b:Nat}(h:b≠F.wg):(F.put w v wt sm).heap[b]? =w.heap[b]? :=by simp [Fam.put,Array.getElem?_setIfInBounds_ne (Ne.symm h)]
theorem Y3(w:World)(v wt sm:Nat)(h:F.wg<w.heap.size):F.WG (F.put w v wt sm) v wt sm:=by simp [Fam.WG,Fam.put,h]
theorem VG(w:World)(m:M4)(q:Nat):(F.FJ w m q).heap.size=w.heap.size:=by simp [Fam.FJ]
theorem Pb(w:World)(m:M4)(q:Nat){b:Nat}(h:b≠F.mu):(F.FJ w m q).heap[b]? =w.heap[b]? :=by simp [Fam.FJ,Array.getElem?_setIfInBounds_ne (Ne.symm h)]
theorem Xd(w:World)(m:M4)(q:Nat)(h:F.mu<w.heap.size):F.MU (F.FJ w m q) m q:=by simp [Fam.MU,Fam.FJ,h]
theorem Vz(w:World)(f:Nat->Value):(F.Hd w f).heap.size=w.heap.size:=by simp [Fam.Hd]
theorem O8(w:World)(f:Nat->Value){b:Nat}(h:b≠F.fd):(F.Hd w f).heap[b]? =w.heap[b]? :=by simp [Fam.Hd,Array.getElem?_setIfInBounds_ne (Ne.symm h)]
theorem XY(w:World)(f:Nat->Value)(h:F.fd<w.heap.size):F.FD (F.Hd w f) f:=by simp [Fam.FD,Fam.Hd,h]
theorem ZC{p:Ph}{s:St}(h:p≠ .Gv):Fam.Jc p s=s:=by cases p <;> first | rfl | exact absurd rfl h
theorem BX.heap{t:Trace}{w w':World}{N:Nat}{S:Nat->St}{Sh:Nat->Prop}(h:BX t w N S Sh)(hw:w'.heap=w.heap):BX t w' N S Sh:=by
 have:=h.mute (u:= #[]) (w':=w') (g:=0) (by simp) (by simp) (by simp) hw;simpa using this
theorem Inv.act(h:Inv P F B gs w t φ r bt S Sh j c v wt' sm m q f)(bz:∀k v E E',Le E E'->F.msg k v E->F.msg k v E'){i:Nat}{g:Goroutine}(hi:gs[i]? =some g){p:Ph}(K:φ i= .ph p)(ac:(i==0)=Fam.CF p){s₀:St}(bA:Cl (loc (.ph p) (S i)) s₀)(aq:Stop P F p g s₀)
  {es:Array Event} {Z:Nx} (O:F.act p v wt' sm=some ((v₁,wt₁,sm₁),es,Z)):Ia P F B gs w sl t i (mu F gs.size φ m q r bt):=by
 have U:i<gs.size:=(Array.getElem?_eq_some_iff.1 hi).1;obtain⟨g',bB,bC,a5⟩:=aq.law.act _ _ _ _ _ _ _ _ O;obtain⟨n1,n2,bD,bE,n5,bF,bG,bH⟩:=Zg O;obtain⟨am,e2,bI⟩:=Yi p O;have a6:=h.Cd.Gd F.wg h.HJ;have b2:=h.size;have b3:=h.CG.pos;have a7:i≠0->Fam.CF p=false:=λe=>by rw [← ac];simp [e]
 have a8:(p= .HK∨∃j,p= .HB j)->i=0:=by
  intro Y;have:Fam.CF p=true:=by rcases Y with rfl | ⟨j,rfl⟩ <;> rfl
  rw [this] at ac;simpa using ac
 have a9:i=0∨B.N0<=i:=by
  rcases h.EB U with e | ⟨_,d,hd,_⟩ | ⟨k,_,e,_,_⟩
  ·exact .inl e
  ·rw [K] at hd;cases hd
  ·exact .inr (by omega)
 let s':St:=if Fam.CO p=true then S i else s₀
 have aw:Fam.CO p=true->s'=S i:=λe=>by simp [s',e]
 have ag:Fam.CO p=false->s'=s₀:=λe=>by simp [s',e]
 have bb:Fam.CO p=false->Cl (S i) s₀:=λe=>by simpa [loc,Hv,e] using bA
 have hle:Le (S i).E s'.E:=by
  cases e:Fam.CO p with
  | true=>rw [aw e];exact .refl _
  | false=>rw [ag e];exact λb o ay=>(bb e).ext b o ay
 have be:BX t w gs.size (upd S i s') Sh:=by
  cases e:Fam.CO p with
  | true=>rw [aw e,MI];exact h.Cd
  | false=>rw [ag e];exact h.Cd.ghost U (bb e)
 have bJ:BX (t++MemOp.ofEvents i g.frame.fn g.frame.place es) (F.put w v₁ wt₁ sm₁) gs.size (upd S i s') Sh:=by
  refine be.ext (h.EK.noRace h.Cd.clean U a9 λe he=>(am e he).toS a8) (λop az a a0 b hb=>?_) (λop az=>?_) (W6 ..) (λb hb=>PI _ _ _ _ λe=>hb (e▸h.HJ))
  ·obtain⟨e,he,rfl⟩:=mem_ofEvents az;obtain⟨⟨b',al,a2⟩,_⟩:=(am e he).1 a a0;rw [hb] at al;cases al;rcases a2 with rfl | rfl
   ·exact h.HJ
   ·exact h.Iq
  ·obtain⟨e,he,rfl⟩:=mem_ofEvents az;exact bI e he _ a6
 have bK:stepG P (i==0) g w= .go g' (F.put w v₁ wt₁ sm₁) es:=by rw [ac];exact bB w h.wg
 have bL:CH F B.N0 (gs.size+c.toNat) j c (CC c gs.size (upd φ i Z)) v₁ wt₁ sm₁ false:=by
  by_cases e:i=0
  ·subst e;cases c with
   | false=>
    have:=h.CG.act (i:=0) (by omega) (by rw [I5];exact K) O;rw [I5] at this;rw [I5];exact this
   | true=>
    have:=h.CG.act (i:=gs.size) (by simp) (by rw [Jz];exact K) O
    rwa [WQ (by omega)] at this
  ·have:=h.CG.act (i:=i) (by omega) (by rw [IB e (by omega)];exact K) O
   rwa [MP e (by omega)] at this
 have bM:EV F B.N0 B.t0 gs.size j (upd φ i Z) (upd S i s') (t++MemOp.ofEvents i g.frame.fn g.frame.place es):=by
  refine h.EK.app U (by rw [K];exact e2) (λe he=>(am e he).keep a8 h.JN h.JM) (.inl a9) (λk ap bi e he a b a0 hb hw=>?_) (λk ap e bi=>?_)
  ·obtain⟨⟨b',al,a2⟩,_⟩:=(am e he).1 a a0;rw [hb] at al;cases al;have bn:B.N0+k<gs.size:=by omega
   rcases a2 with rfl | rfl
   ·exact(h.Cd.sh _ bn _ h.HJ).2
   ·exact(h.Cd.sh _ bn _ h.Iq).2
  ·have bo:i≠0:=by omega
   have bq:GJ F k (.ph p):=by
    rcases h.EB U with bN | ⟨_,d,hd,_⟩ | ⟨k',_,b4,_,hw⟩
    ·exact absurd bN bo
    ·rw [K] at hd;cases hd
    ·obtain rfl:k'=k:=by omega
     rwa [K] at hw
   rcases bF (a7 bo) bi with a3 | rfl
   ·refine .inl ⟨by rw [K];exact a3,by rw [aw (QB bq a3)],λρ a4=>?_⟩;refine a4.appOwn _ _ es λm e he=>?_;rw [h.EK.deaf _ U,K];exact Wi p O bq a3 m e he
   ·refine .inr ⟨t.size,h.EK.LX,?_,?_⟩
    ·simp only [Fam.act] at O;cases O;exact .new (by rw [h.EK.deaf _ U,K];rfl) _ _
    ·simp only [Fam.act] at O;cases O;rw [ag rfl];intro b hb x a br bO hw;have bP:MemOp.ofEvents i g.frame.fn g.frame.place #[Fam.CJ (.releaseMerge F.sA)]= #[{g:=i,fn:=g.frame.fn,pos:=g.frame.place,act:= .mark (.releaseMerge F.sA)}]:=by rw [ofEvents_eq];simp [Fam.CJ,MemAct.ofEvent]
     rw [bP] at br ⊢;obtain⟨op,ay,bu⟩:=touch_of br;rcases getElem?_append_cases ay with⟨_,bQ⟩ | ⟨_,bv⟩
     ·have bR:=be.kE i U b (by rw [upd_same,ag rfl];exact hb) x a (by rw [touchAt_of bQ];exact bu) bO hw;have bS:(t++ #[({g:=i,fn:=g.frame.fn,pos:=g.frame.place,act:= .mark (.releaseMerge F.sA)}:MemOp)])[t.size]? =some {g:=i,fn:=g.frame.fn,pos:=g.frame.place,act:= .mark (.releaseMerge F.sA)}:=by simp
      exact .inr (bR.hb_new (Nat.le_refl _) bS rfl)
     ·simp at bv;subst bv;cases bu
 have bT:∀k,k<j->stored (upd φ i Z (B.N0+k))->F.msg k (f k) (upd S i s' (B.N0+k)).E:=by
  intro k ap bw;by_cases e:B.N0+k=i
  ·rw [e,upd_same];have:=h.Ir k ap (by rw [e,K];exact bG (a7 (by omega)));rw [e] at this;exact bz _ _ _ _ hle this
  ·rw [upd_ne _ _ e] at bw ⊢;exact h.Ir k ap bw
 have bU:LI gs.size (upd φ i Z) m q:=h.lock.other U (λk l e=>bE k l (by rw [K] at e;exact Nx.ph.inj e)) (λk l e=>by subst e;exact(n1 _ rfl).2.2.2 k l rfl);have bV:∀q,Z= .ph q->loc (.ph q) s'=Fam.Jc p s₀:=by
  intro q e;obtain⟨_,bx,bW,_⟩:=n1 q e;cases Y:Fam.CO q with
  | true=>
   have:loc (.ph q) s'= .quiet:=by simp [loc,Hv,Y]
   rw [this];rcases bx Y with rfl | e
   ·rfl
   ·rw [aq.law.quiet e];cases p <;> rfl
  | false=>
   obtain⟨a1,bY⟩:=bW Y;rw [ZC bY,ag a1];simp [loc,Hv,Y]
 have fin:∀(ρ:Rk),Gy P F (i==0) Z ρ true g' (loc Z s')->Ia P F B gs w sl t i (mu F gs.size φ m q r bt):=λρ bZ=>
  h.go' (f₁:=f) hi bK bL bU bM bZ bJ (Y3 _ _ _ _ a6) (by show(F.put w v₁ wt₁ sm₁).heap[F.mu]? =_;rw [PI _ _ _ _ h.L5];exact h.Jb) (by show(F.put w v₁ wt₁ sm₁).heap[F.fd]? =_;rw [PI _ _ _ _ h.JN];exact h.Gg)
   (λa b=>⟨aq.law.II (.inl (n2 a b)),bC⟩) (λa b=>absurd b a) bT (λ_=>bH) (λe=>by subst e;exact hle) rfl (.refl _) rfl λb5=>SR U (by rw [K];exact Zn O)
 cases Z with
 | ph q=>
  obtain⟨ρ,a4⟩:=a5;refine fin ρ ?_;obtain⟨b0,bx,_,_⟩:=n1 q rfl;refine .walk (by rw [ac,b0]) (λY=>by simp [loc,Hv,Y]) ?_;rw [bV q rfl,ac];exact a4
 | gone d=>
  obtain⟨b1,Y⟩:=a5;exact fin (chain b1) (.gone (by rw [ac];exact(bD d rfl).1) Y)
theorem Y6{l:LP}{m m':M4}{q q':Nat}{es:Array Event}{o:Option LP}(K:(m',q',es,o)∈F.BY l m q):q'<=q∨∃b,l= .EW b:=by
 cases l <;> simp only [Fam.BY,List.mem_singleton,Prod.mk.injEq,List.not_mem_nil] at K
 case EW b=>exact .inr ⟨b,rfl⟩
 case Hb=>split at K <;> simp only [List.mem_singleton,Prod.mk.injEq] at K <;> exact .inl (by omega)
 case Cp sv aw it old=>
  simp only [Fam.Fx,List.mem_append] at K;left;rcases K with K | K
  ·split at K
   ·split at K
    ·simp only [List.mem_singleton] at K;split at K <;> simp only [Prod.mk.injEq] at K <;> omega
    ·simp only [List.mem_singleton,Prod.mk.injEq] at K;omega
   ·simp at K
  ·split at K
   ·split at K
    ·simp only [List.mem_singleton,Prod.mk.injEq] at K;omega
    ·simp only [List.mem_cons,List.not_mem_nil,or_false,Prod.mk.injEq] at K;rcases K with K | K <;> omega
   ·simp only [List.mem_singleton,Prod.mk.injEq] at K;omega
 case FY=>
  simp only [List.mem_cons,List.not_mem_nil,or_false,Prod.mk.injEq] at K;left;rcases K with K | K <;> omega
 case EA sv=>split at K <;> simp only [List.mem_singleton,Prod.mk.injEq] at K <;> exact .inl (by omega)
 case EJ old=>split at K <;> simp only [List.mem_singleton,Prod.mk.injEq] at K <;> exact .inl (by omega)
 all_goals exact .inl (by omega)
theorem Wg{l:LP}{m m':M4}{q q':Nat}{es:Array Event}{o:Option LP}(K:(m',q',es,o)∈F.BY l m q):(∀p,o=some p->Gu p->Gu l)/\(o=none->Gu l):=by
 cases l <;> simp only [Fam.BY,List.mem_singleton,Prod.mk.injEq,List.not_mem_nil] at K
 case Hb=>split at K <;> simp only [List.mem_singleton,Prod.mk.injEq] at K <;> obtain⟨-,-,-,rfl⟩:=K <;> simp [Gu]
 case Cp sv aw it old=>
  simp only [Fam.Fx,List.mem_append] at K;rcases K with K | K
  ·split at K
   ·split at K
    ·simp only [List.mem_singleton] at K;split at K <;> simp only [Prod.mk.injEq] at K <;> obtain⟨-,-,-,rfl⟩:=K <;> simp [Gu]
    ·simp only [List.mem_singleton,Prod.mk.injEq] at K;obtain⟨-,-,-,rfl⟩:=K;simp [Gu]
   ·simp at K
  ·split at K
   ·split at K
    ·simp only [List.mem_singleton,Prod.mk.injEq] at K;obtain⟨-,-,-,rfl⟩:=K;simp [Gu]
    ·simp only [List.mem_cons,List.not_mem_nil,or_false,Prod.mk.injEq] at K;rcases K with⟨-,-,-,rfl⟩ | ⟨-,-,-,rfl⟩ <;> simp [Gu]
   ·simp only [List.mem_singleton,Prod.mk.injEq] at K;obtain⟨-,-,-,rfl⟩:=K;simp [Gu]
 case FY=>
  simp only [List.mem_cons,List.not_mem_nil,or_false,Prod.mk.injEq] at K;rcases K with⟨-,-,-,rfl⟩ | ⟨-,-,-,rfl⟩ <;> simp [Gu]
 case Cz sv=>obtain⟨-,-,-,rfl⟩:=K;cases sv <;> simp [Gu]
 case EA sv=>split at K <;> simp only [List.mem_singleton,Prod.mk.injEq] at K <;> obtain⟨-,-,-,rfl⟩:=K <;> simp [Gu]
 all_goals first
  | (obtain⟨-,-,-,rfl⟩:=K;simp [Gu];done)
  | (exact⟨λ_ _ _=>trivial,λ_=>trivial⟩)
theorem Inv.BY(h:Inv P F B gs w t φ r bt S Sh j c v wt' sm m q f)(bi:∀k v E E',Le E E'->F.msg k v E->F.msg k v E'){i:Nat}{g:Goroutine}(hi:gs[i]? =some g){k:Nat}{l:LP}(K:φ i= .ph (.lk k l))(bn:l≠ .EX)(ag:(i==0)=false){s₀:St}(a2:Cl (S i) s₀)(a3:Stop P F (.lk k l) g s₀)
  (bo:∀sv,l= .Cz sv->q≠0):Ia P F B gs w sl t i (mu F gs.size φ m q r bt):=by
 have O:i<gs.size:=(Array.getElem?_eq_some_iff.1 hi).1;have ay:=h.lock.ok O K h.small bo;obtain⟨m',q',es,o,g',al,U,bq,Y,br,bu⟩:=a3.law.lk k l rfl bn w m q h.Jb ay;obtain⟨am,e2,bv⟩:=Xl U;have a4:=h.Cd.Gd F.mu h.Iq;have bP:=h.size;have bQ:=h.CG.pos;have Z:i≠0:=by simpa using ag
 obtain⟨k',bw,a5,_,a6⟩:∃k',k'<j/\i=B.N0+k'/\i≠0/\GJ F k' (φ i):=by
  rcases h.EB O with e | ⟨_,d,hd,_⟩ | e
  ·exact absurd e Z
  ·rw [K] at hd;cases hd
  ·exact e
 rw [K] at a6;obtain rfl:k=k':=a6;have bx:BX t w gs.size (upd S i s₀) Sh:=h.Cd.ghost O a2;have bz:BX (t++MemOp.ofEvents i g.frame.fn g.frame.place es) al gs.size (upd S i s₀) Sh:=by
  have:BX (t++MemOp.ofEvents i g.frame.fn g.frame.place es) (F.FJ w m' q') gs.size (upd S i s₀) Sh:=by
   refine bx.ext (h.EK.noRace h.Cd.clean O (.inr (by omega)) λe he=>(am e he).toS (λx=>x.elim)) (λop az a a0 b hb=>?_) (λop az=>?_) (VG ..) (λb hb=>Pb _ _ _ λe=>hb (e▸h.Iq))
   ·obtain⟨e,he,rfl⟩:=mem_ofEvents az;obtain⟨⟨b',ac,a1⟩,_⟩:=(am e he).1 a a0;rw [hb] at ac;cases ac;rcases a1 with rfl | rfl
    ·exact h.HJ
    ·exact h.Iq
   ·obtain⟨e,he,rfl⟩:=mem_ofEvents az;exact bv e he _ a4
  exact this.heap Y.1
 have bA:cU (.ph (Fam.Dd k o))=1/\cL (.ph (Fam.Dd k o))=0/\cS (.ph (Fam.Dd k o))=0/\GJ F k (.ph (Fam.Dd k o))/\(∀a,Nx.ph (Fam.Dd k o)≠ .ph (.Ha a))/\Fam.CF (Fam.Dd k o)=false/\Fam.CO (Fam.Dd k o)=false/\¬late (.ph (Fam.Dd k o)):=by
  cases o with
  | none=>exact⟨rfl,rfl,rfl,trivial,by simp [Fam.Dd],rfl,rfl,λx=>x⟩
  | some p=>exact⟨rfl,rfl,rfl,rfl,by simp [Fam.Dd],rfl,rfl,λx=>x⟩
 obtain⟨bB,x2,bC,bD,bE,bF,a7,bG⟩:=bA;have bH:CH F B.N0 (gs.size+c.toNat) j c (CC c gs.size (upd φ i (.ph (Fam.Dd k o)))) v wt' sm false:=by
  have ap:CC c gs.size φ (B.N0+k)= .ph (.lk k l):=by rw [← a5,IB Z (by omega)];exact K
  have:=h.CG.Ik (v':=v) (wt':=wt') (sm':=sm) (cl':=false) bw (x:= .ph (Fam.Dd k o)) bD (λa=>by rw [ap];simp) bE (by rw [ap,bB];rfl) λL S' a8 a9=>by
   rw [ap,x2] at a8;rw [ap,bC] at a9;have bI:L=_:=a8;have bJ:S'=_:=a9;rw [bI,bJ];exact h.CG.mode
  rwa [← a5,MP Z (by omega)] at this
 have bK:EV F B.N0 B.t0 gs.size j (upd φ i (.ph (Fam.Dd k o))) (upd S i s₀) (t++MemOp.ofEvents i g.frame.fn g.frame.place es):=by
  refine h.EK.app O (by rw [K];rw [show FN (.ph (.lk k l))=dl l from rfl,e2];cases o <;> rfl) (λe he=>(am e he).keep (λx=>x.elim) h.JN h.JM) (.inl (.inr (by omega))) (λk' aq bb e he a b a0 hb hw=>?_) (λk' aq e bb=>absurd bb bG);obtain⟨⟨b',ac,a1⟩,_⟩:=(am e he).1 a a0;rw [hb] at ac;cases ac;have be:B.N0+k'<gs.size:=by omega
  rcases a1 with rfl | rfl
  ·exact(h.Cd.sh _ be _ h.HJ).2
  ·exact(h.Cd.sh _ be _ h.Iq).2
 obtain⟨ρ,bL⟩:=bu;have bM:loc (.ph (Fam.Dd k o)) s₀=s₀:=by simp [loc,Hv,a7]
 refine h.go' (f₁:=f) hi (by rw [ag];exact bq) bH (h.lock.step O K h.small ay U) bK (ρ:=ρ) (by rw [bM];exact .walk (by rw [ag,bF]) (λe=>by rw [a7] at e;cases e) (by rw [ag];exact bL)) bz ?_ ?_ ?_ (λa b=>absurd b a) (λa b=>?_) (λk' aq aw=>?_) (λe=>absurd e Z) (λe=>absurd e Z) (Y.2.1) Y.2.2.1 Y.2.2.2 λbR=>ao O K U ay
 ·show al.heap[F.wg]? =_;rw [Y.1,Pb _ _ _ (Ne.symm h.L5)];exact h.wg
 ·show al.heap[F.mu]? =_;rw [Y.1];exact Xd _ _ _ a4
 ·show al.heap[F.fd]? =_;rw [Y.1,Pb _ _ _ h.JM];exact h.Gg
 ·rcases Y6 U with e | ⟨bN,rfl⟩
  ·omega
  ·exact⟨a3.law.II (.inr ⟨k,bN,rfl⟩),br⟩
 ·by_cases e:B.N0+k'=i
  ·rw [e,upd_same] at aw ⊢;obtain rfl:k'=k:=by omega
   have bO:Gu l:=by
    obtain⟨a,b⟩:=Wg U;cases o with
    | none=>exact b rfl
    | some p=>exact a p rfl aw
   have:=h.Ir k' aq (by rw [e,K];exact bO);rw [e] at this;exact bi _ _ _ _ (λb o U=>a2.ext b o U) this
  ·rw [upd_ne _ _ e] at aw ⊢;exact h.Ir k' aq aw
end
end Pal
namespace Pal
open Go Go.Conc
open Go.ConcN (upd upd_same upd_ne sumTo sumTo_upd sumTo_upd_out sumTo_congr le_sumTo sumTo_le fork_knows RelBy)
section
variable {P:Program}{F:Fam}{B:Base}{gs gs':Array Goroutine}{w w':World}{sl:Option (Nat×Nat)}{t:Trace}{φ:Nat->Nx}{r:Nat->Rk}{bt:Nat->Bool}{S:Nat->St}{Sh:Nat->Prop}{j:Nat}{c:Bool}{v wt' sm v₁ wt₁ sm₁:Nat}{m m₁:M4}{q q₁:Nat}{f f₁:Nat->Value}
theorem Inv.store(h:Inv P F B gs w t φ r bt S Sh j c v wt' sm m q f){i:Nat}{g:Goroutine}(hi:gs[i]? =some g){k:Nat}(O:φ i= .ph (.lk k .EX))(ag:(i==0)=false){s₀:St}(a5:Cl (S i) s₀)(a6:Stop P F (.lk k .EX) g s₀):
  Ia P F B gs w sl t i (mu F gs.size φ m q r bt):=by
 have U:i<gs.size:=(Array.getElem?_eq_some_iff.1 hi).1;obtain⟨v0,a7,g',bz,a8,a9⟩:=a6.law.store k rfl;have ay:=h.Cd.Gd F.fd h.IL;have bA:=h.size;have bB:=h.CG.pos;have Y:i≠0:=by simpa using ag
 obtain⟨k',al,Z,_,az⟩:∃k',k'<j/\i=B.N0+k'/\i≠0/\GJ F k' (φ i):=by
  rcases h.EB U with e | ⟨_,d,hd,_⟩ | e
  ·exact absurd e Y
  ·rw [O] at hd;cases hd
  ·exact e
 rw [O] at az;obtain rfl:k=k':=az;have ac:∀e∈(#[⟨.cell ⟨F.fd,k,none⟩,true,false⟩]:Array Event),∀a,(MemAct.ofEvent e).touch? =some a->a=⟨.cell ⟨F.fd,k,none⟩,true,.plain⟩:=by
  intro e he a K;simp at he;subst he;simp [MemAct.ofEvent,MemAct.touch?] at K;exact K.symm
 have a0:∀e∈(#[⟨.cell ⟨F.fd,k,none⟩,true,false⟩]:Array Event),e.loc≠ .mark (.release F.sA):=by
  intro e he;simp at he;subst he;simp
 have bb:∀e∈(#[⟨.cell ⟨F.fd,k,none⟩,true,false⟩]:Array Event),EvS F B.N0 j i e:=λe he=>
  ⟨λa K=>by have:=ac e he a K;subst this;exact⟨F.fd,rfl,.inr ⟨rfl,k,al,Z,rfl,rfl⟩⟩,a0 e he⟩
 have be:BX t w gs.size (upd S i s₀) Sh:=h.Cd.ghost U a5;have bi:BX (t++MemOp.ofEvents i g.frame.fn g.frame.place #[⟨.cell ⟨F.fd,k,none⟩,true,false⟩]) (F.Hd w (upd f k v0)) gs.size (upd S i s₀) Sh:=by
  refine be.ext (h.EK.noRace h.Cd.clean U (.inr (by omega)) bb) (λop am a bn b hb=>?_) (λop am=>?_) (Vz ..) (λb hb=>O8 _ _ λe=>hb (e▸h.IL))
  ·obtain⟨e,he,rfl⟩:=mem_ofEvents am;have:=ac e he a bn;subst this;have:b=F.fd:=by simpa [CP] using hb.symm
   subst this;exact h.IL
  ·obtain⟨e,he,rfl⟩:=mem_ofEvents am;simp at he;subst he;simp [MemAct.ofEvent,MemAct.low,Loc.low,ay]
 have bo:CH F B.N0 (gs.size+c.toNat) j c (CC c gs.size (upd φ i (.ph (.lk k .Gx)))) v wt' sm false:=by
  have ap:CC c gs.size φ (B.N0+k)= .ph (.lk k .EX):=by rw [← Z,IB Y (by omega)];exact O
  have:=h.CG.Ik (v':=v) (wt':=wt') (sm':=sm) (cl':=false) al (x:= .ph (.lk k .Gx)) rfl (λa=>by rw [ap];simp) (by simp) (by rw [ap];rfl) λL S' a1 a2=>by
   rw [ap] at a1 a2;have bq:L=_:=a1;have br:S'=_:=a2;rw [bq,br];exact h.CG.mode
  rwa [← Z,MP Y (by omega)] at this
 have bu:EV F B.N0 B.t0 gs.size j (upd φ i (.ph (.lk k .Gx))) (upd S i s₀) (t++MemOp.ofEvents i g.frame.fn g.frame.place #[⟨.cell ⟨F.fd,k,none⟩,true,false⟩]):=by
  refine h.EK.app U (by rw [O];rfl) (λe he=>⟨λa b K hb bv=>?_,λa K hb=>?_,a0 e he⟩) (.inl (.inr (by omega))) (λk' aq a3 e he a b K hb hw=>?_) (λk' aq e a3=>a3.elim)
  ·have:=ac e he a K;subst this;have aw:b=F.fd:=by simpa [CP] using hb.symm
   subst aw;rcases bv with e | e
   ·exact absurd e h.JN
   ·exact absurd e h.JM
  ·have:=ac e he a K;subst this;exact⟨k,al,Z,rfl,rfl⟩
  ·have:=ac e he a K;subst this;have aw:b=F.fd:=by simpa [CP] using hb.symm
   subst aw;exact(h.Cd.sh (B.N0+k') (by omega) _ h.IL).2
 obtain⟨ρ,bw⟩:=a9;have bx:LI gs.size (upd φ i (.ph (.lk k .Gx))) m q:=by
  refine h.lock.same U (λf=>?_) trivial;rw [O];by_cases e:f .EX=f .Gx
  ·exact .inl e
  ·right;refine⟨?_,?_,?_,?_,?_,?_,?_,?_⟩ <;> rintro rfl <;> exact e rfl
 refine h.go' (f₁:=upd f k v0) hi (by rw [ag];exact a8 w f h.Gg) bo bx bu (ρ:=ρ) (.walk (by rw [ag];rfl) (λe=>by cases e) (by rw [ag];exact bw)) bi ?_ ?_ (XY _ _ ay) (λa b=>absurd b a) (λa b=>absurd b a) (λk' aq a4=>?_) (λe=>absurd e Y) (λe=>absurd e Y) rfl (.refl _) rfl λbC=>SR U (by rw [O];simp [wt,Hg])
 ·show(F.Hd w (upd f k v0)).heap[F.wg]? =_;rw [O8 _ _ (Ne.symm h.JN)];exact h.wg
 ·show(F.Hd w (upd f k v0)).heap[F.mu]? =_;rw [O8 _ _ (Ne.symm h.JM)];exact h.Jb
 ·by_cases e:k'=k
  ·subst e;rw [← Z,upd_same,upd_same];exact a7
  ·rw [upd_ne _ _ e];rw [upd_ne _ _ (by omega)] at a4 ⊢;exact h.Ir k' aq a4
theorem Ul{g g' o:Goroutine}(h:g'.status= .blocked):woken P g g' w o=o:=by
 unfold woken;rw [if_neg (by simp [h])]
theorem EV.Y1{N0 t0 N:Nat}(h:EV F N0 t0 N j φ S t){i:Nat}{s':St}(U:∀k,k<j->late (φ (N0+k))->N0+k≠i):EV F N0 t0 N j φ (upd S i s') t:=
 ⟨h.deaf,h.above,h.plain,h.said,h.Gg,h.over,h.norel,h.LX,λk K O=>by rw [upd_ne _ _ (U k K O)];exact h.rel k K O⟩
theorem Inv.block(h:Inv P F B gs w t φ r bt S Sh j c v wt' sm m q f){i:Nat}{g:Goroutine}(hi:gs[i]? =some g){p:Ph}(K:φ i= .ph p)(a1:bt i=true)(ac:(i==0)=Fam.CF p){s₀:St}(ap:Cl (S i) s₀)(ag:Stop P F p g s₀)
  (al:(p= .Fv/\sm=0)∨((∃k sv,p= .lk k (.Cz sv))/\q=0)):Ia P F B gs w sl t i (mu F gs.size φ m q r bt):=by
 have Y:i<gs.size:=(Array.getElem?_eq_some_iff.1 hi).1;have a6:=h.size;have a2:stepG P (i==0) g w= .go {g with status:= .blocked} w #[]:=by
  rw [ac];rcases al with⟨rfl,rfl⟩ | ⟨⟨k,sv,rfl⟩,rfl⟩
  ·exact ag.law.EZ rfl w v wt' h.wg
  ·exact ag.law.Cz k sv rfl w m h.Jb
 have Z:Pu p:=by
  rcases al with⟨rfl,_⟩ | ⟨⟨k,sv,rfl⟩,_⟩
  ·exact .inl rfl
  ·exact .inr ⟨k,sv,rfl⟩
 have a3:=Qn Z;have aq:=runT_crowd_go (P:=P) (sl:=sl) (i:=i) hi a2;have a4:(gs.map (woken P g {g with status:= .blocked} w)).setIfInBounds i {g with status:= .blocked}=gs.setIfInBounds i {g with status:= .blocked}:=by
  have:(woken P g {g with status:= .blocked} w)=id:=by funext o;exact Ul rfl
  rw [this,Array.map_id]
 rw [a4,Mo] at aq;have O:(gs.setIfInBounds i {g with status:= .blocked}).size=gs.size:=by simp
 have aw:t++(#[]:Trace)=t:=by simp
 have a5:∀k,k<j->late (φ (B.N0+k))->B.N0+k≠i:=by
  intro k ay az e;rw [e,K] at az;rcases Z with rfl | ⟨k',sv,rfl⟩
  ·rcases h.EB Y with aw | ⟨_,d,hd,_⟩ | ⟨k',_,_,_,hw⟩
   ·have:=h.CG.pos;omega
   ·rw [K] at hd;cases hd
   ·rw [K] at hw;exact hw
  ·exact az
 refine⟨_,_,_,_,aq,.inl ⟨φ,r,upd bt i false,upd S i s₀,Sh,j,c,v,wt',sm,m,q,f,?_,?_⟩⟩
 ·rw [aw];refine⟨by rw [O];exact h.CG,by rw [O];exact h.lock,by rw [O];exact h.EK.Y1 a5,λa o U=>?_,by rw [O];exact h.Cd.ghost Y ap,h.HJ,h.Iq,h.IL,h.L5,h.JN,h.JM,h.HL,h.mn,h.wg,h.Jb,h.Gg,λa a0 hb=>?_,λk ay am=>?_,?_,h.tape,h.os,h.output⟩
  ·by_cases e:a=i
   ·subst e;rw [Array.getElem?_setIfInBounds_self_of_lt Y] at U;obtain rfl:=Option.some.inj U;rw [upd_same,upd_same,K];have:loc (.ph p) s₀=s₀:=by simp [loc,Hv,a3]
    rw [this];exact .blk Z ac ag
   ·rw [Array.getElem?_setIfInBounds_ne (Ne.symm e)] at U;rw [upd_ne _ _ e,upd_ne _ _ e];exact h.Ks a o U
  ·by_cases e:a=i
   ·subst e;rcases al with⟨rfl,rfl⟩ | ⟨⟨k,sv,rfl⟩,rfl⟩
    ·have:a=0:=by simpa [Fam.CF] using ac
     subst this;exact .inl ⟨rfl,K,rfl⟩
    ·exact .inr ⟨⟨k,sv,K⟩,rfl⟩
   ·rw [upd_ne _ _ e] at hb;rw [O] at a0;exact h.blk a a0 hb
  ·by_cases e:B.N0+k=i
   ·rw [e,K] at am;rcases Z with rfl | ⟨k',sv,rfl⟩ <;> exact am.elim
   ·rw [upd_ne _ _ e];exact h.Ir k ay am
  ·by_cases e:0=i
   ·subst e;rw [upd_same];exact λb o U=>ap.ext b o (h.le b o U)
   ·rw [upd_ne _ _ e];exact h.le
 ·rw [O];have:=sumTo_upd bt false bit Y;rw [a1] at this;exact .inr ⟨rfl,.inr ⟨rfl,.inr ⟨rfl,rfl,.inr ⟨rfl,by show(sumTo gs.size λa=>bit (upd bt i false a))<sumTo gs.size λa=>bit (bt a);simp only [bit] at this ⊢;simp only [if_true,Bool.false_eq_true,if_false] at this;omega⟩⟩⟩⟩
theorem LI.push{N:Nat}(h:LI N φ m q)(Z:0<N){p0:Ph}{j:Nat}(O:∀k p,φ 0≠ .ph (.lk k p))(U:∀k p,p0≠ .lk k p):LI (N+1) (upd (upd φ N (.ph (.lk j .F3))) 0 (.ph p0)) m q:=by
 have Y:LI (N+1) (upd φ N (.ph (.lk j .F3))) m q:=by
  have e:∀f,f LP.F3=0->Sg f (N+1) (upd φ N (.ph (.lk j .F3)))=Sg f N φ:=by
   intro f ac;unfold Sg;simp only [sumTo];have:=sumTo_upd_out φ (.ph (.lk j .F3)) (De f) (i:=N) (j:=N) (Nat.le_refl _);rw [upd_same];show _+f .F3=_;omega
  refine⟨by rw [e pH rfl,e pN rfl,e pZ rfl,e pV rfl,e pT rfl,e pQ rfl,e pD rfl,e pX rfl];exact h.ln,λa ag=>?_⟩;by_cases K:a=N
  ·subst K;rw [upd_same];trivial
  ·rw [upd_ne _ _ K];exact h.loc a (by omega)
 exact Y.other (by omega) (by rw [upd_ne _ _ (by omega)];exact O) (λk p e=>U k p (Nx.ph.inj e))
theorem Inv.spawn(h:Inv P F B gs w t φ r bt S Sh j c v wt' sm m q f){g:Goroutine}(hi:gs[0]? =some g){K:Nat}(ac:φ 0= .ph (.FO K)){s₀:St}(bi:Cl (S 0) s₀)(bu:Stop P F (.FO K) g s₀):
  Ia P F B gs w sl t 0 (mu F gs.size φ m q r bt):=by
 have Y:0<gs.size:=(Array.getElem?_eq_some_iff.1 hi).1;obtain⟨rfl,b0,rfl⟩:K=j/\j<F.n/\c=false:=by
  obtain⟨p,bn,_,hh⟩:=h.main;rw [ac] at bn;cases bn;rcases hh with⟨e,hm⟩ | ⟨_,hm⟩
  ·exact⟨hm.1,hm.2.1,e⟩
  ·exact hm.elim
 obtain⟨g',child,b1,b2,bv,bw,bx⟩:=bu.law.go _ rfl;have bz:=h.size;have b3:=h.CG.pos;have a4:=runT_crowd_spawn (P:=P) (sl:=sl) (i:=0) hi (show stepG P (0==0) g w=_ from bv w);rw [Mo] at a4;generalize bA:({g:=0,fn:=g.frame.fn,pos:=g.frame.place,act:= .go gs.size}:MemOp)=x at a4;generalize bB:({g:=gs.size,fn:=child.frame.fn,pos:=g.frame.place,act:= .start}:MemOp)=y at a4;have am:x.g=0/\x.act= .go gs.size:=by subst bA;exact⟨rfl,rfl⟩
 have ap:y.g=gs.size/\y.act= .start:=by subst bB;exact⟨rfl,rfl⟩
 have bC:((#[]:Trace).push x).push y= #[x,y]:=rfl;have al:((gs.setIfInBounds 0 g').push child).size=gs.size+1:=by simp
 have bD:Fam.CF (F.EC K)=true/\Fam.CO (F.EC K)=false/\FN (.ph (F.EC K))=0/\(∀k p,F.EC K≠ .lk k p):=by
  unfold Fam.EC;split <;> exact⟨rfl,rfl,rfl,by simp⟩
 obtain⟨bE,x2,bF,bG⟩:=bD;let φ':Nat->Nx:=upd (upd φ gs.size (.ph (F.start K))) 0 (.ph (F.EC K));have f0:φ' 0= .ph (F.EC K):=upd_same _ _ _;have aq:φ' gs.size= .ph (F.start K):=by show upd _ _ _ _=_;rw [upd_ne _ _ (by omega),upd_same]
 have aw:∀a,a≠0->a≠gs.size->φ' a=φ a:=λa bH a7=>by show upd _ _ _ _=_;rw [upd_ne _ _ bH,upd_ne _ _ a7]
 have hu:∀op∈(#[x,y]:Array MemOp),op.act.touch? =none/\∀m,op.act≠ .mark m:=by
  intro op O;simp only [List.mem_toArray,List.mem_cons,List.not_mem_nil,or_false] at O;rcases O with rfl | rfl
  ·rw [am.2];exact⟨rfl,by simp⟩
  ·rw [ap.2];exact⟨rfl,by simp⟩
 have ay:=h.CG.spawn (by rw [I5];exact ac);rw [I5] at ay;simp only [Bool.toNat_false,Nat.add_zero] at ay;have a8:∃az,CH F B.N0 (gs.size+1+az.toNat) (K+1) az (CC az (gs.size+1) φ') v wt' sm false:=by
  by_cases e:K+1=F.n
  ·refine⟨true,?_⟩;have a9:F.Fu K= .GR:=by unfold Fam.Fu;rw [if_pos e]
   have e2:F.EC K= .Dt:=by unfold Fam.EC;rw [if_pos e]
   have:=ay.YJ (by rw [upd_same,a9]);have bI:CC true (gs.size+1) φ'=upd (upd (upd (upd φ gs.size (.ph (F.start K))) 0 (.ph (F.Fu K))) (gs.size+1) (.ph .Dt)) 0 (.ph (.FI [] [])):=by
    funext a;unfold CC;by_cases bb:a=gs.size+1
    ·subst bb;rw [if_pos ⟨rfl,rfl⟩,upd_ne _ _ (by omega),upd_same,f0,e2]
    ·rw [if_neg (by simp [bb])];by_cases ag:a=0
     ·subst ag;rw [if_pos ⟨rfl,rfl⟩,upd_same]
     ·rw [if_neg (by simp [ag]),upd_ne _ _ ag,upd_ne _ _ bb];show upd _ _ _ _=_;rw [upd_ne _ _ ag,upd_ne _ _ ag]
   rw [bI];exact this
  ·refine⟨false,?_⟩;have a9:F.Fu K=F.EC K:=by unfold Fam.Fu Fam.EC;rw [if_neg e,if_neg e]
   rw [a9] at ay;rw [I5];exact ay
 obtain⟨az,a8⟩:=a8;have bo:BX t w gs.size (upd S 0 s₀) Sh:=h.Cd.ghost Y bi;have bJ:BX (t++ #[x,y]) w gs.size (upd S 0 s₀) Sh:=by
  refine bo.ext (λsaid=>?_) (λop O a a0=>by rw [(hu op O).1] at a0;cases a0) (λop O=>?_) rfl λ_ _=>rfl
  ·have e:t++ #[x,y]=(t++ #[x])++ #[y]:=by apply Array.ext';simp
   rw [e];exact noRace_append (g:=gs.size) (noRace_append (g:=0) (h.Cd.clean said) (λop O=>by simp at O;subst O;exact am.1) λz a _ op O b hb _=>by rw [(hu op (by simp at O ⊢;exact .inl O)).1] at hb;cases hb)
    (λop O=>by simp at O;subst O;exact ap.1) λz a _ op O b hb _=>by rw [(hu op (by simp at O ⊢;exact .inr O)).1] at hb;cases hb
  ·simp only [List.mem_toArray,List.mem_cons,List.not_mem_nil,or_false] at O;rcases O with rfl | rfl
   ·rw [am.2];trivial
   ·rw [ap.2];trivial
 have bK:Deaf t 0=0:=by rw [h.EK.deaf 0 Y,ac];rfl
 have bL:BX (t++ #[x,y]) w (gs.size+1) (upd (upd S 0 s₀) gs.size ⟨s₀.E,λ_=>none,false⟩) Sh:=by
  refine bJ.push (i:=0) Y (E:=s₀.E) (λb o a2=>by rw [upd_same];exact a2) λb hb z a bM bN bO=>?_;have hold:touchAt t z=some a:=by
   obtain⟨op,a2,be⟩:=touch_of bM;rcases getElem?_append_cases a2 with⟨_,bP⟩ | ⟨_,bQ⟩
   ·rw [touchAt_of bP];exact be
   ·rw [(hu op bQ).1] at be;cases be
  exact fork_knows am ap bK (h.EK.above _ (Nat.le_refl _)) (bo.kE 0 Y b (by rw [upd_same];exact hb) z a hold bN bO)
 have bq:∀k,k<K->upd (upd S 0 s₀) gs.size ⟨s₀.E,λ_=>none,false⟩ (B.N0+k)=S (B.N0+k):=λk br=>by rw [upd_ne _ _ (by omega),upd_ne _ _ (by omega)]
 have bR:EV F B.N0 B.t0 (gs.size+1) (K+1) φ' (upd (upd S 0 s₀) gs.size ⟨s₀.E,λ_=>none,false⟩) (t++ #[x,y]):=by
  refine h.EK.spawn Y bz (λa a0=>?_) (by rw [aq];rfl) (by rw [ac];rfl) (λk br a5=>?_) am ap
  ·by_cases e:a=0
   ·subst e;rw [f0,ac,bF];rfl
   ·rw [aw a e (by omega)]
  ·by_cases e:k=K
   ·subst e;rw [show B.N0+k=gs.size by omega,aq] at a5;exact a5.elim
   ·rw [aw _ (by omega) (by omega)] at a5;exact⟨by omega,a5,by rw [bq k (by omega)]⟩
 obtain⟨bS,bT⟩:=bx;obtain⟨bU,bV⟩:=bw;have a3:∀{α:Type} (f:Nat->α) (a b:α),upd (upd f 0 a) gs.size b 0=a:=λf a b=>by rw [upd_ne _ _ (by omega),upd_same]
 have bW:∀s:St,loc (.ph (F.EC K)) s=s:=λs=>by simp [loc,Hv,x2]
 refine⟨_,_,_,_,a4,.inl ⟨φ',upd (upd r 0 bS) gs.size bU,upd (upd bt 0 true) gs.size true,upd (upd S 0 s₀) gs.size ⟨s₀.E,λ_=>none,false⟩,Sh,K+1,az,v,wt',sm,m,q,f,?_,?_⟩⟩
 ·rw [bC];refine⟨by rw [al];exact a8,by rw [al];exact h.lock.push Y (λk p e=>by rw [ac] at e;cases e) bG,by rw [al];exact bR,λa o Z=>?_,by rw [al];exact bL,h.HJ,h.Iq,h.IL,h.L5,h.JN,h.JM,h.HL,(by rw [f0];unfold Fam.EC;split <;> simp),h.wg,h.Jb,h.Gg,λa a0 hb=>?_,λk br a6=>?_,?_,h.tape,h.os,h.output⟩
  ·by_cases e:a=0
   ·subst e;rw [Array.getElem?_push_lt (by simpa using Y)] at Z;simp at Z;subst Z;rw [f0,a3,a3,a3,bW];exact .walk bE.symm (λq=>by rw [x2] at q;cases q) bT
   ·by_cases U:a=gs.size
    ·subst U;have:child=o:=by
      rw [show gs.size=(gs.setIfInBounds 0 g').size by simp,Array.getElem?_push_size] at Z;exact Option.some.inj Z
     subst this;rw [aq,upd_same,upd_same,upd_same];have bY:(gs.size==0)=false:=by rw [beq_eq_false_iff_ne];omega
     rw [bY];exact .walk rfl (λq=>by cases q) bV
    ·rw [aw a e U,upd_ne _ _ U,upd_ne _ _ e,upd_ne _ _ U,upd_ne _ _ e,upd_ne _ _ U,upd_ne _ _ e];have:gs[a]? =some o:=by
      rw [Array.getElem?_push] at Z;simp [U] at Z;simpa [Array.getElem?_setIfInBounds_ne (Ne.symm e)] using Z
     exact h.Ks a o this
  ·rw [al] at a0;by_cases e:a=0
   ·subst e;rw [a3] at hb;cases hb
   ·by_cases U:a=gs.size
    ·subst U;rw [upd_same] at hb;cases hb
    ·rw [upd_ne _ _ U,upd_ne _ _ e] at hb;rcases h.blk a (by omega) hb with⟨ag,_⟩ | ⟨⟨k,sv,a7⟩,bZ⟩
     ·exact absurd ag e
     ·exact .inr ⟨⟨k,sv,by rw [aw a e U];exact a7⟩,bZ⟩
  ·by_cases e:k=K
   ·subst e;rw [show B.N0+k=gs.size by omega,aq] at a6;exact a6.elim
   ·rw [aw _ (by omega) (by omega)] at a6;rw [bq k (by omega)];exact h.Ir k (by omega) a6
  ·rw [a3];exact h.le.trans λb o a2=>bi.ext b o a2
 ·rw [al];refine Z8 ?_;simp only [sumTo];rw [aq];have a1:=sumTo_upd (upd φ gs.size (.ph (F.start K))) (.ph (F.EC K)) (wt F.n) Y;rw [upd_ne _ _ (by omega),ac] at a1;have b4:=sumTo_upd_out φ (.ph (F.start K)) (wt F.n) (i:=gs.size) (j:=gs.size) (Nat.le_refl _);have b5:wt F.n (.ph (F.start K))=23:=rfl;have b6:wt F.n (.ph (.FO K))=5*F.n+85+50*(F.n - K):=rfl;have b7:wt F.n (.ph (F.EC K))+30<=5*F.n+85+50*(F.n - K):=by
   unfold Fam.EC;split <;> simp only [wt] <;> omega
  show(sumTo gs.size λi=>wt F.n (upd (upd φ gs.size (.ph (F.start K))) 0 (.ph (F.EC K)) i))+_<_;omega
end
end Pal
namespace Pal
open Go Go.Conc
open Go.ConcN (upd upd_same upd_ne sumTo sumTo_upd sumTo_upd_out sumTo_congr le_sumTo sumTo_le fork_knows RelBy)
theorem BX.final{t:Trace}{w:World}{N:Nat}{S:Nat->St}{Sh:Nat->Prop}(h:BX t w N S Sh)(am:0<N){s':St}{fd:Nat}
  (Z:∀b o,s'.E b=some o->w.heap[b]? =some o/\¬Sh b/\∀x a,touchAt t x=some a->CP a.loc=some b->a.write=true->Knows t 0 x)
  (ac:∀b o,s'.H b=some o->w.heap[b]? =some o/\(¬Sh b∨b=fd)/\∀x a,touchAt t x=some a->CP a.loc=some b->Knows t 0 x)
  (hd:∀b,s'.E b≠none->s'.H b=none) (ap:s'.E fd=none):BX t w N (lone s') (λb=>Sh b/\b≠fd):=by
 have l0:lone s' 0=s':=rfl;have ln:∀i,i≠0->lone s' i= .quiet:=λi hi=>by simp [lone,hi]
 have Y:∀i b,i≠0->(lone s' i).E b=none:=λi b hi=>by rw [ln i hi];rfl
 have U:∀i b,i≠0->(lone s' i).H b=none:=λi b hi=>by rw [ln i hi];rfl
 refine⟨λi hi=>?_,λa b aq hb al x O=>?_,λi hi b hb=>?_,λb hb=>h.Gd b hb.1,h.clean,h.low,λi hi b hb x a O ag=>?_,λi hi b hb x a O ag hw=>?_⟩
 ·by_cases e:i=0
  ·subst e;rw [l0];exact⟨λb o K=>(Z b o K).1,λb o K=>(ac b o K).1,hd⟩
  ·exact⟨λb o K=>(by rw [Y i b e] at K;cases K),λb o K=>(by rw [U i b e] at K;cases K),λb hb=>U i b e⟩
 ·by_cases e:b=0
  ·subst e;rw [U a x al] at O;exact absurd rfl O
  ·exact⟨U b x e,Y b x e⟩
 ·by_cases e:i=0
  ·subst e;rw [l0];constructor
   ·cases O:s'.H b with
    | none=>rfl
    | some o=>rcases(ac b o O).2.1 with q | q;exact absurd hb.1 q;exact absurd q hb.2
   ·cases O:s'.E b with
    | none=>rfl
    | some o=>exact absurd hb.1 (Z b o O).2.1
  ·exact⟨U i b e,Y i b e⟩
 ·by_cases e:i=0
  ·subst e;obtain⟨o,K⟩:=HV (x:=s'.H b) hb;exact(ac b o K).2.2 x a O ag
  ·rw [U i b e] at hb;exact absurd rfl hb
 ·by_cases e:i=0
  ·subst e;obtain⟨o,K⟩:=HV (x:=s'.E b) hb;exact(Z b o K).2.2 x a O ag hw
  ·rw [Y i b e] at hb;exact absurd rfl hb
section
variable {P:Program}{F:Fam}{B:Base}{gs gs':Array Goroutine}{w w':World}{sl:Option (Nat×Nat)}{t:Trace}{φ:Nat->Nx}{r:Nat->Rk}{bt:Nat->Bool}{S:Nat->St}{Sh:Nat->Prop}{j:Nat}{c:Bool}{v wt' sm v₁ wt₁ sm₁:Nat}{m m₁:M4}{q q₁:Nat}{f f₁:Nat->Value}
theorem Inv.over(h:Inv P F B gs w t φ r bt S Sh j c v wt' sm m q f)(bO:∀k v E E',Le E E'->F.msg k v E->F.msg k v E'){g:Goroutine}(hi:gs[0]? =some g)(a9:φ 0= .ph .Gb){s₀:St}(bz:Cl (S 0) s₀)(am:Stop P F .Gb g s₀)(bP:Mu):
  Ia P F B gs w sl t 0 bP:=by
 classical
 have ag:0<gs.size:=(Array.getElem?_eq_some_iff.1 hi).1;have b4:=h.size;have b5:=h.CG.pos;obtain rfl:c=true:=by
  obtain⟨p,bA,_,hh⟩:=h.main;rw [a9] at bA;cases bA;rcases hh with⟨_,hm⟩ | ⟨e,_⟩
  ·exact hm.elim
  ·exact e
 have b6:j=F.n:=h.CG.cj rfl;have bb:∀i,i≠0->i<gs.size->∃d,φ i= .gone d:=by
  intro i be a3;rcases h.EB a3 with e | ⟨_,d,hd,_⟩ | ⟨k,Z,bQ,_,_⟩
  ·exact absurd e be
  ·exact⟨d,hd⟩
  ·have:=h.CG.Xq rfl (.inr (.inr (.inl (by rw [show B.N0+F.n=gs.size by omega,Jz];exact a9)))) k Z;rw [← bQ,IB be (by omega)] at this;cases U:φ i with
   | gone d=>exact⟨d,rfl⟩
   | ph p=>rw [U] at this;exact this.elim
 obtain⟨g',bR,bS⟩:=am.law.fin rfl;have bB:=runT_crowd_go (P:=P) (sl:=sl) (i:=0) hi (show stepG P (0==0) g w=_ from bR w);have bC:Deaf t 0=0:=by rw [h.EK.deaf 0 ag,a9];rfl
 have bi:MemOp.ofEvents 0 g.frame.fn g.frame.place #[Fam.CJ (.acquire F.sA)]= #[{g:=0,fn:=g.frame.fn,pos:=g.frame.place,act:= .mark (.acquire F.sA)}]:=by rw [ofEvents_eq];simp [Fam.CJ,MemAct.ofEvent]
 generalize hu:MemOp.ofEvents 0 g.frame.fn g.frame.place #[Fam.CJ (.acquire F.sA)]=u at bB;have ap:∀op∈u,op.act.touch? =none/\op.g=0/\op.act.low w.heap.size:=by
  intro op aq;rw [← hu,bi] at aq;simp at aq;subst aq;exact⟨rfl,rfl,h.Cd.Gd F.wg h.HJ⟩
 have a4:(t++u)[t.size]? =some {g:=0,fn:=g.frame.fn,pos:=g.frame.place,act:= .mark (.acquire F.sA)}:=by rw [← hu,bi];simp
 have bT:(t++u).heard t.size:=⟨0,by simp [Trace.g?,a4],by rw [deaf_old (Nat.le_refl _)];exact bC⟩;have bU:(t++u).g? t.size=some 0:=by simp [Trace.g?,a4]
 have bV:∀x,B.t0<=x->(t++u).act? x≠some (.mark (.release F.sA)):=Oz h.EK.norel λop aq e=>by rw [← hu,bi] at aq;simp at aq;subst aq;cases e
 have bn:∀k,k<F.n->∃ρ,ρ<t.size/\RelBy F.sA t (B.N0+k) ρ/\KE t (S (B.N0+k)).E ρ/\HappensBefore (t++u) ρ t.size:=by
  intro k Z;obtain⟨d,hd⟩:=bb (B.N0+k) (by omega) (by omega);obtain⟨ρ,a,b,e⟩:=h.EK.rel k (by omega) (by rw [hd];trivial);have a5:ρ<t.size:=lt_of_act? b.act;refine⟨ρ,a5,b,e,.single (.inr ⟨.marked a5 (.inr (by rw [act?_old a5];exact b.act)) (by rw [act?_of a4]) λz Y al=>bV z (by omega),(heard_old a5).2 b.heard,bT⟩)⟩
 have bD:∀{x ρ},Before t x ρ->HappensBefore (t++u) ρ t.size->Knows (t++u) 0 x:=λY al=>⟨t.size,_,a4,rfl,.inr ((Y.app u).hb al)⟩;have bE:∀{x k},k<F.n->t.g? x=some (B.N0+k)->t.counts x->Knows (t++u) 0 x:=by
  intro x k Z ac aw;obtain⟨ρ,Y,al,_,a2⟩:=bn k Z;have hle:x<=ρ:=Nat.le_of_not_lt λaz=>al.after x az ac aw;refine bD (ρ:=ρ) ?_ a2;rcases Nat.lt_or_ge x ρ with U | U
  ·exact .inr (.single (.inl ⟨U,_,ac,al.g⟩))
  ·exact .inl (by omega)
 have hold:∀{y a},touchAt (t++u) y=some a->touchAt t y=some a:=by
  intro y a U;obtain⟨op,O,bo⟩:=touch_of U;rcases getElem?_append_cases O with⟨az,bq⟩ | ⟨_,br⟩
  ·rw [touchAt_of bq];exact bo
  ·rw [(ap op br).1] at bo;cases bo
 have ay:BX t w gs.size (upd S 0 s₀) Sh:=h.Cd.ghost ag bz;have bu:BX (t++u) w gs.size (upd S 0 s₀) Sh:=ay.mute (g:=0) (λop O=>(ap op O).2.1) (λop O=>(ap op O).1) (λop O=>(ap op O).2.2) rfl;let K:Nat->Obj->Prop:=λb o=>s₀.E b=some o∨∃k,k<F.n/\(S (B.N0+k)).E b=some o;have bv:∀b o,K b o->w.heap[b]? =some o:=by
  rintro b o (Y | ⟨k,Z,Y⟩)
  ·exact(ay.fits 0 ag).e b o (by rw [upd_same];exact Y)
  ·exact(h.Cd.fits (B.N0+k) (by omega)).e b o Y
 let E':LH:=λb=>if hb:∃o,K b o then some (Classical.choose hb) else none
 have bw:∀b o,E' b=some o->K b o:=by
  intro b o O;simp only [E'] at O;split at O
  ·rename_i hb;have:=Classical.choose_spec hb;rw [Option.some.inj O] at this;exact this
  ·cases O
 have bF:∀b o,K b o->E' b=some o:=by
  intro b o O;have hb:∃o,K b o:=⟨o,O⟩;have bW:E' b=some (Classical.choose hb):=by simp only [E'];rw [dif_pos hb]
  have e2:=bv b _ (Classical.choose_spec hb);rw [bv b o O] at e2;rw [bW,← Option.some.inj e2]
 have bG:Le s₀.E E':=λb o O=>bF b o (.inl O);have bY:∀k,k<F.n->Le (S (B.N0+k)).E E':=λk Z b o O=>bF b o (.inr ⟨k,Z,O⟩);have bH:∀b o,K b o->¬Sh b:=by
  rintro b o (Y | ⟨k,Z,Y⟩) hb
  ·have:=(ay.sh 0 ag b hb).2;rw [upd_same,Y] at this;cases this
  ·have:=(h.Cd.sh (B.N0+k) (by omega) b hb).2;rw [Y] at this;cases this
 have bx:E' F.fd=none:=by
  cases U:E' F.fd with
  | none=>rfl
  | some o=>exact absurd h.IL (bH _ _ (bw _ _ U))
 have bI:∀b,E' b≠none->s₀.H b=none:=by
  intro b hb;obtain⟨o,O⟩:=HV hb;rcases bw b o O with Y | ⟨k,Z,Y⟩
  ·have:=(ay.fits 0 ag).d b (by rw [upd_same,Y];simp)
   rwa [upd_same] at this
  ·cases U:s₀.H b with
   | none=>rfl
   | some o'=>
    have:=(ay.hh 0 (B.N0+k) ag (by omega) (by omega) b (by rw [upd_same,U];simp)).2;rw [upd_ne _ _ (by omega),Y] at this;cases this
 have bZ:∀k,k<F.n->F.msg k (f k) E':=λk Z=>by
  obtain⟨d,hd⟩:=bb (B.N0+k) (by omega) (by omega);exact bO _ _ _ _ (bY k Z) (h.Ir k (by omega) (by rw [hd];trivial))
 have b0:=bS E' f bG bx bI bZ;have bJ:((gs.map (woken P g g' w)).setIfInBounds 0 g').size=gs.size:=by simp
 have b1:BX (t++u) w gs.size (lone ⟨E',F.Jv s₀.H f,false⟩) (λb=>Sh b/\b≠F.fd):=by
  refine bu.final ag (λb o O=>?_) (λb o O=>?_) (λb hb=>?_) bx
  ·have Z:=bw b o O;refine⟨bv b o Z,bH b o Z,λx a U a0 hw=>?_⟩;rcases Z with Y | ⟨k,Z,Y⟩
   ·exact bu.kE 0 ag b (by rw [upd_same,Y];simp) x a U a0 hw
   ·obtain⟨ρ,_,_,b2,a2⟩:=bn k Z;exact bD (b2 b (by rw [Y];simp) x a (hold U) a0 hw) a2
  ·simp only [Fam.Jv] at O;split at O
   ·rename_i e;subst e;cases O;refine⟨h.Gg,.inr rfl,λx a U a0=>?_⟩;rcases h.EK.Gg x a (hold U) a0 with z | ⟨k,Z,ac,aw,_⟩
    ·exact(z 0 ag (.inl rfl)).app u
    ·exact bE (by omega) ac aw
   ·refine⟨(ay.fits 0 ag).h b o (by rw [upd_same];exact O),.inl λhb=>?_,λx a U a0=>bu.kH 0 ag b (by rw [upd_same,O];simp) x a U a0⟩;have:=(ay.sh 0 ag b hb).1;rw [upd_same,O] at this;cases this
  ·simp only [Fam.Jv];rw [if_neg (λe=>by subst e;exact hb bx)];exact bI b hb
 have b3:∀i g,i≠0->gs[i]? =some g->∃q d,φ i= .gone d/\QuitsD P q d g:=by
  intro i g hi ac;obtain⟨d,hd⟩:=bb i hi (Array.getElem?_eq_some_iff.1 ac).1;have am:=h.Ks i g ac;rw [hd] at am;generalize U:Nx.gone d=x at am;generalize loc x (S i)=s at am;generalize r i=ρ at am;generalize bt i=b7 at am;cases am with
  | gone _ a6=>cases U;exact⟨_,_,hd,a6⟩
  | _=>cases U
 have a6:∀i,∃q,∀g,i≠0->gs[i]? =some g->QuitsD P q (Deaf t i) g:=by
  intro i;by_cases hi:i≠0/\i<gs.size
  ·obtain⟨q,d,Y,al⟩:=b3 i _ hi.1 (Array.getElem?_eq_getElem hi.2);refine⟨q,λg _ ac=>?_⟩;rw [Array.getElem?_eq_getElem hi.2] at ac;obtain rfl:=Option.some.inj ac;rw [h.EK.deaf i hi.2,Y];exact al
  ·exact⟨0,λg Y al=>absurd ⟨Y,(Array.getElem?_eq_some_iff.1 al).1⟩ hi⟩
 have bK:∀i,i≠0->Deaf (t++u) i=Deaf t i:=λi hi=>Deaf_other t (Ne.symm hi) u λop O=>(ap op O).2.1;refine⟨_,_,_,_,bB,.inr ⟨λi=>Classical.choose (a6 i),λb=>Sh b/\b≠F.fd,g',⟨E',F.Jv s₀.H f,false⟩,⟨by simp [ag],⟨λi x be U=>?_,λi a3=>?_⟩,by rw [bJ];exact b1,λx a7 ac a1 aw=>?_,?_⟩,b0,?_,h.tape,h.os,h.output⟩⟩
 ·have a1:i≠0:=by omega
  rw [Array.getElem?_setIfInBounds_ne (Ne.symm a1),Array.getElem?_map] at U;obtain⟨o',bq,rfl⟩:=Option.map_eq_some_iff.1 U;have bL:=Classical.choose_spec (a6 i) o' a1 bq;rw [woken_quitsD bL,bK i a1];exact bL
 ·rw [bJ] at a3;rw [bK i (by omega)];exact h.EK.above i a3
 ·have:=ON h.EK.over (u:=u) (N0:=B.N0) (N:=gs.size) (λop O=> .inl (ap op O).2.1) x a7 ac a1 aw;rcases this with z | ⟨z1,b8⟩
  ·exact z
  ·have a8:x<t.size:=by
    rcases Nat.lt_or_ge x t.size with z | z
    ·exact z
    ·obtain⟨op,O,bM⟩:=Option.map_eq_some_iff.1 ac;rcases getElem?_append_cases O with⟨az,_⟩ | ⟨_,br⟩
     ·exact az
     ·rw [(ap op br).2.1] at bM;exact absurd bM.symm a1
   obtain⟨b9,z,ca,cb,cc⟩:=bE (k:=a7 - B.N0) (by omega) (by rw [← g?_old (u:=u) a8,ac];congr 1;omega) ((counts_old a8).1 aw);refine⟨t.size,bU,?_⟩;obtain⟨ρ,Y,al,_,a2⟩:=bn (a7 - B.N0) (by omega);have bN:t.g? x=some (B.N0+(a7 - B.N0)):=by rw [← g?_old (u:=u) a8,ac];congr 1;omega
   have hle:x<=ρ:=Nat.le_of_not_lt λaz=>al.after x az bN ((counts_old a8).1 aw);have hb:Before t x ρ:=by
    rcases Nat.lt_or_ge x ρ with U | U
    ·exact .inr (.single (.inl ⟨U,_,bN,al.g⟩))
    ·exact .inl (by omega)
   exact(hb.app u).hb a2
 ·have:=Deaf_own t 0 g.frame.fn g.frame.place #[Fam.CJ (.acquire F.sA)];rw [hu] at this;rw [this,bC];rfl
 ·exact(h.le.trans λb o O=>bz.ext b o O).trans bG
end
end Pal
namespace Pal
open Go Go.Conc
open Go.ConcN (upd upd_same upd_ne sumTo sumTo_upd sumTo_upd_out sumTo_congr le_sumTo sumTo_le fork_knows RelBy)
theorem LN.busy{m:M4}{h rn rs v t s d x:Nat}(Z:LN m 0 h rn rs v t s d x)(am:1<=s):1<=h+rn+rs+v+t+d+x:=by
 obtain⟨O,ac,ag⟩:=Z;cases hm:m.s with
 | true=>have:=(ag hm).2.2.2.1;rw [← O] at this;omega
 | false=>
  obtain⟨a1,ap,K,aq,al⟩:=ac hm;cases Y:m.l with
  | true=>rw [Y] at O;simp at O;omega
  | false=>
   cases U:m.k with
   | true=>rw [U] at K;simp at K;omega
   | false=>
    rw [U] at K;simp at K;have:=al Y U (by omega);omega
section
variable {P:Program}{F:Fam}{B:Base}{gs gs':Array Goroutine}{w w':World}{sl:Option (Nat×Nat)}{t:Trace}{φ:Nat->Nx}{r:Nat->Rk}{bt:Nat->Bool}{S:Nat->St}{Sh:Nat->Prop}{j:Nat}{c:Bool}{v wt' sm v₁ wt₁ sm₁:Nat}{m m₁:M4}{q q₁:Nat}{f f₁:Nat->Value}
theorem V1{N:Nat}{f:Nat->Nat}(h:1<=sumTo N f):∃i,i<N/\1<=f i:=by
 induction N with
 | zero=>simp [sumTo] at h
 | succ N K=>
  simp only [sumTo] at h;by_cases e:1<=f N
  ·exact⟨N,by omega,e⟩
  ·obtain⟨i,hi,O⟩:=K (by omega);exact⟨i,by omega,O⟩
theorem Inv.runs(h:Inv P F B gs w t φ r bt S Sh j c v wt' sm m q f):∃(i:Nat) (g:Goroutine),gs[i]? =some g/\g.status= .running:=by
 have bw:=h.CG.pos;have bx:=h.size;have aq:0<gs.size:=by omega
 have ag:∀i (hi:i<gs.size) p,φ i= .ph p->bt i=true->∃(i:Nat) (g:Goroutine),gs[i]? =some g/\g.status= .running:=by
  intro i hi p U hb;refine⟨i,_,Array.getElem?_eq_getElem hi,?_⟩;have K:=h.Ks i _ (Array.getElem?_eq_getElem hi);rw [U,hb] at K;generalize loc (Nx.ph p) (S i)=s at K;generalize a7:Nx.ph p=x at K;generalize a8:true=b at K;generalize gs[i]=o at K ⊢;generalize r i=ρ at K;cases K with
  | walk _ _ aw=>exact aw.running
  | blk _ _ _=>cases a8
  | gone _ _=>cases a7
 obtain⟨p0,ac,a9,hh⟩:=h.main;cases ay:bt 0 with
 | true=>exact ag 0 aq p0 ac ay
 | false=>
  obtain⟨U,bz⟩:φ 0= .ph .Fv/\sm=0:=by
   rcases h.blk 0 aq ay with⟨_,a,b⟩ | ⟨⟨k,sv,a⟩,_⟩
   ·exact⟨a,b⟩
   ·rw [ac] at a;cases a;cases a9
  rw [U] at ac;cases ac;obtain⟨rfl⟩:c=true:=by
   rcases hh with⟨_,hm⟩ | ⟨e,_⟩
   ·exact hm.elim
   ·exact e
  have aw:j=F.n:=h.CG.cj rfl;have az:=h.CG.mode;rw [if_pos rfl,show B.N0+F.n=gs.size by omega,Jz,U] at az;obtain⟨bb,_,_⟩:=az;have al:=h.CG.cnt;have a0:CC true gs.size φ 0= .ph (.FI [] []):=by simp [CC];omega
  rw [a0] at al;simp only [pend,Nat.add_zero] at al;have hex:∃i,i<gs.size+1/\1<=cU (CC true gs.size φ i)+cL (CC true gs.size φ i)+cS (CC true gs.size φ i):=by
   apply Classical.byContradiction;intro be;have am:∀i,i<gs.size+1->cU (CC true gs.size φ i)=0/\cL (CC true gs.size φ i)=0/\cS (CC true gs.size φ i)=0:=λi hi=>by
    have:¬1<=cU (CC true gs.size φ i)+cL (CC true gs.size φ i)+cS (CC true gs.size φ i):=λq=>be ⟨i,hi,q⟩;omega
   have zero:∀f:Nat->Nat,(∀i,i<gs.size+1->f i=0)->sumTo (gs.size+1) f=0:=λf bi=>by
    have:=sumTo_le (f:=f) (c:=0) (j:=gs.size+1) (λi hi=>by rw [bi i hi];exact Nat.le_refl _);omega
   have z1:=zero (λi=>cU (CC true gs.size φ i)) λi hi=>(am i hi).1;have bA:=zero (λi=>cL (CC true gs.size φ i)) λi hi=>(am i hi).2.1;have bB:=zero (λi=>cS (CC true gs.size φ i)) λi hi=>(am i hi).2.2;simp only [Bool.toNat_true] at bb al;omega
  obtain⟨i,hi,O⟩:=hex;have a1:i≠0:=by rintro rfl;rw [a0] at O;simp [cU,cL,cS] at O
  have bn:i≠gs.size:=by rintro rfl;rw [Jz,U] at O;simp [cU,cL,cS] at O
  rw [IB a1 bn] at O;have ap:i<gs.size:=by omega
  cases a2:φ i with
  | gone d=>rw [a2] at O;simp [cU,cL,cS] at O
  | ph pi=>
   cases a3:bt i with
   | true=>exact ag i ap pi a2 a3
   | false=>
    obtain⟨⟨k,sv,bo⟩,bq⟩:(∃k sv,φ i= .ph (.lk k (.Cz sv)))/\q=0:=by
     rcases h.blk i ap a3 with⟨e,_⟩ | e
     ·exact absurd e a1
     ·exact e
    subst bq;have br:1<=Sg pQ gs.size φ:=by
     have:=le_sumTo (f:=λa=>De pQ (φ a)) ap;have e:De pQ (φ i)=1:=by rw [bo];rfl
     simp only [e] at this;exact this
    have hb:=h.lock.ln.busy br;have bu:1<=Sg (λp=>(((((pH p+pN p)+pZ p)+pV p)+pT p)+pD p)+pX p) gs.size φ:=by
     rw [Ju,Ju,Ju,Ju,Ju,Ju];exact hb
    obtain⟨a,a4,Y⟩:=V1 bu;cases Z:φ a with
    | gone d=>rw [Z] at Y;simp [De] at Y
    | ph bv=>
     rw [Z] at Y;cases bv <;> (try (simp [De] at Y;done))
     rename_i k' l;cases a5:bt a with
     | true=>exact ag a a4 _ Z a5
     | false=>
      rcases h.blk a a4 a5 with⟨e,a6,_⟩ | ⟨⟨bC,bD,e⟩,_⟩
      ·subst e;rw [Z] at a6;cases a6
      ·rw [Z] at e;cases e;simp [De,pH,pN,pZ,pV,pT,pD,pX] at Y
theorem Inv.step(h:Inv P F B gs w t φ r bt S Sh j c v wt' sm m q f)(am:∀k v E E',Le E E'->F.msg k v E->F.msg k v E'):
  ∃gs' w' aw u,stepT P (crowd gs w sl)=(.next (crowd gs' w' aw),u)/\
  ((∃φ' r' a6 S' bo ap bq v' br sm' m' q' bu,Inv P F B gs' w' (t++u) φ' r' a6 S' bo ap bq v' br sm' m' q' bu/\Mu.lt (mu F gs'.size φ' m' q' r' a6) (mu F gs.size φ m q r bt))∨P6 P F B gs' w' (t++u)):=by
 have bK:=h.size;have bv:∀x∈gs,awake x:=by
  intro x K;obtain⟨i,hi,rfl⟩:=Array.mem_iff_getElem.1 K;exact(h.Ks i _ (Array.getElem?_eq_getElem hi)).awake
 obtain⟨i,g,d,aw,hi,a7,bw⟩:=crowd_pick (P:=P) (w:=w) (sl:=sl) bv h.runs
 suffices Ia P F B gs (w.at d) aw t i (mu F gs.size φ m q r bt) by
  obtain⟨gs',w',bx,u,ay,az⟩:=this;exact⟨gs',w',bx,u,bw.trans ay,az⟩
 have O:=h.at_ d;have a8:i<gs.size:=(Array.getElem?_eq_some_iff.1 hi).1;have ac:=h.Ks i g hi;generalize K:φ i=x at ac;generalize a9:r i=ρ at ac;generalize hb:bt i=b at ac;generalize bb:loc x (S i)=s at ac;cases ac with
 | blk _ _ _=>cases a7
 | gone hm be=>exact O.slip hi a7 K a9 hm be
 | @walk p _ _ _ hm be a0=>
  have bz:JQ (Stop P F p) g s∨∃f,ρ= .node f/\(∀w,Fits s w->∃g' s' w' es,stepG P (i==0) g w= .go g' w' es/\Jr P (i==0) (JQ (Stop P F p)) (f w) g' s'/\Fits s' w'/\Fr s w s' w'/\(∀e∈es,Ev s w w' e)/\(s= .quiet->s'= .quiet/\w'=w/\es= #[])):=by
   cases ρ with
   | leaf=>exact .inl a0
   | node f=>
    rcases a0 with q | ⟨_,q⟩
    ·exact .inl q
    ·exact .inr ⟨f,rfl,q⟩
  rcases bz with⟨s₀,bi,U⟩ | ⟨f0,rfl,hgo⟩
  ·subst bb;have Y:Fam.CO p=false->Cl (S i) s₀:=λe=>by simpa [loc,Hv,e] using bi
   by_cases c1:∃k l,p= .lk k l
   ·obtain⟨k,l,rfl⟩:=c1;by_cases c2:l= .EX
    ·subst c2;exact O.store hi K hm (Y rfl) U
    by_cases c3:(∃sv,l= .Cz sv)/\q=0
    ·obtain⟨⟨sv,rfl⟩,c3⟩:=c3;exact O.block hi K hb hm (Y rfl) U (.inr ⟨⟨k,sv,rfl⟩,c3⟩)
    exact O.BY am hi K c2 hm (Y rfl) U λsv e a1=>c3 ⟨⟨sv,e⟩,a1⟩
   by_cases c2:∃ap,p= .FO ap
   ·obtain⟨ap,rfl⟩:=c2;have ag:i=0:=by simpa [Fam.CF] using hm
    subst ag;exact O.spawn hi K (Y rfl) U
   by_cases c3:p= .Gb
   ·subst c3;have ag:i=0:=by simpa [Fam.CF] using hm
    subst ag;exact O.over am hi K (Y rfl) U _
   by_cases c4:p= .Fv/\sm=0
   ·obtain⟨rfl,c4⟩:=c4;exact O.block hi K hb hm (Y rfl) U (.inl ⟨rfl,c4⟩)
   have bA:∃a2,a2<gs.size+c.toNat/\CC c gs.size φ a2= .ph p:=by
    by_cases e:i=0
    ·subst e;cases c with
     | false=>exact⟨0,by omega,by rw [I5];exact K⟩
     | true=>exact⟨gs.size,by simp,by rw [Jz];exact K⟩
    ·exact⟨i,by omega,by rw [IB e (by omega)];exact K⟩
   have bB:p= .Fv->sm=1:=by
    rintro rfl;have ag:i=0:=by simpa [Fam.CF] using hm
    subst ag;obtain⟨p0,al,_,hh⟩:=h.main;rw [K] at al;cases al;obtain rfl:c=true:=by
     rcases hh with⟨_,hm⟩ | ⟨e,_⟩
     ·exact hm.elim
     ·exact e
    have a0:=h.CG.cj rfl;have bn:=h.CG.mode;rw [if_pos rfl,show B.N0+F.n=gs.size by omega,Jz,K] at bn;obtain⟨bL,_⟩:=bn;have:sm≠0:=λq=>c4 ⟨rfl,q⟩;omega
   obtain⟨a2,bC,bD⟩:=bA;have aq:(∀k,p≠ .Ha k)/\p≠ .GR/\(∀a3 vs,p≠ .FI a3 vs)/\p≠ .Hz:=by
    by_cases e:i=0
    ·subst e;have a4:=h.mn;rw [K] at a4;obtain⟨p0,al,_,hh⟩:=h.main;rw [K] at al;cases al;refine⟨λk e=>?_,λe=>?_,λa3 vs e=>?_,λe=>?_⟩
     ·subst e;rcases hh with⟨_,Z⟩ | ⟨_,Z⟩ <;> exact Z.elim
     ·subst e;exact a4.1 rfl
     ·subst e;rcases hh with⟨e,Z⟩ | ⟨_,Z⟩
      ·have:=Z.2;rw [e] at this;cases this
      ·exact Z.elim
     ·subst e;exact a4.2 rfl
    ·rcases h.EB a8 with a1 | ⟨_,d,hd,_⟩ | ⟨k',bM,bN,_,hw⟩
     ·exact absurd a1 e
     ·rw [K] at hd;cases hd
     ·rw [K] at hw;refine⟨λk e=>?_,λe=>?_,λa3 vs e=>?_,λe=>?_⟩ <;> subst e
      ·exact absurd hw.2 Bool.false_ne_true
      all_goals exact hw.elim
   obtain⟨v',w',sm',es,bO,bE⟩:=h.CG.enabled bC bD aq.1 (λk e=>c2 ⟨k,e⟩) aq.2.1 aq.2.2.1 aq.2.2.2 bB c3 λk l e=>c1 ⟨k,l,e⟩;exact O.act am hi K hm bi U bE
  ·subst bb;have bF:Fits (loc (.ph p) (S i)) (w.at d):=by
    have:=O.Cd.fits i a8;unfold loc;split
    ·exact⟨λb o a5=>(by cases a5),λb o a5=>(by cases a5),λb hb=>rfl⟩
    ·exact this
   obtain⟨g',s',w',es,ay,az,bG,bH,bI,bJ⟩:=hgo (w.at d) bF;exact O.own am hi K hm ay az bG bH bI bJ (by rw [a9];exact⟨f0,_,rfl,rfl⟩)
theorem Inv.run(Z:∀k v E E',Le E E'->F.msg k v E->F.msg k v E'):∀(K:Mu) (gs:Array Goroutine) (w:World) (sl:Option (Nat×Nat)) (t:Trace) (φ:Nat->Nx) (r:Nat->Rk) (bt:Nat->Bool) (S:Nat->St) (Sh:Nat->Prop) (j:Nat) (c:Bool) (v wt' sm:Nat) (m:M4) (q:Nat) (f:Nat->Value),
  mu F gs.size φ m q r bt=K->Inv P F B gs w t φ r bt S Sh j c v wt' sm m q f->∃n gs' w' O U,runNT P n (crowd gs w sl) t=(.next (crowd gs' w' O),U)/\P6 P F B gs' w' U:=by
 intro K
 induction K using Mu.wf.induction with
 | _ K ac=>
  intro gs w sl t φ r bt S Sh j c v wt' sm m q f ag h;obtain⟨gs',w',O,u,Y,hh⟩:=h.step (sl:=sl) Z;rcases hh with⟨φ',r',al,S',am,ap,aq,v',aw,sm',m',q',ay,az,a0⟩ | a1
  ·obtain⟨n,a2,a3,a4,a5,a6,a7⟩:=ac _ (ag▸a0) gs' w' O (t++u) φ' r' al S' am ap aq v' aw sm' m' q' ay rfl az;exact⟨n+1,a2,a3,a4,a5,Mw Y a6,a7⟩
  ·exact⟨1,gs',w',O,t++u,Mw Y rfl,a1⟩
end
def Js(H:LH)(a b c:Nat):LH:=λx=>if x=c then none else if x=b then none else if x=a then none else H x
theorem Xt{P:Program}(F:Fam){Q:GP}{g:Goroutine}{s:St}{f₀:Nat->Value}(ay:1<=F.n)(a6:F.n<134217728)(a7:∀k v E E',Le E E'->F.msg k v E->F.msg k v E')
  (az:F.mu≠F.wg) (a0:F.fd≠F.wg) (a1:F.fd≠F.mu) (ac:s.H F.wg=some (F.HM 0 0)) (ag:s.H F.mu=some (F.HN 0 0)) (am:s.H F.fd=some (F.Im f₀))
  (a8:Way P true (Stop P F (.Gc 0)) g ⟨s.E,Js s.H F.wg F.mu F.fd,false⟩) (a9:∀g s,F.fin g s->(GI P).ok Q g s):(GI P).ok Q g s:=by
 intro gs w sl t q Sh hC;have Y:0<gs.size:=(Array.getElem?_eq_some_iff.1 hC.main).1;let s1:St:={s with H:=λb=>if b=F.wg then none else s.H b}
 let s2:St:={s with H:=λb=>if b=F.mu then none else s1.H b}
 have a2:lone s 0=s:=rfl;have c1:BX t w gs.size (upd (lone s) 0 s1) (λb=>Sh b∨b=F.wg):=by
  have:=hC.Cd.share (i:=0) Y (b₀:=F.wg) (o₀:=F.HM 0 0) (by rw [a2];exact ac);exact this
 have c2:BX t w gs.size (upd (upd (lone s) 0 s1) 0 s2) (λb=>(Sh b∨b=F.wg)∨b=F.mu):=by
  have:=c1.share (i:=0) Y (b₀:=F.mu) (o₀:=F.HN 0 0) (by rw [upd_same];simp [s1,az,ag]);refine this.congr λi hi=>?_;by_cases e:i=0
  ·subst e;simp only [upd_same];exact⟨rfl,rfl⟩
  ·have h:∀(f:Nat->St) (x:St),upd f 0 x i=f i:=λf x=>upd_ne f x e;constructor <;> simp only [h]
 have c3:BX t w gs.size (upd (upd (upd (lone s) 0 s1) 0 s2) 0 ⟨s.E,Js s.H F.wg F.mu F.fd,false⟩) (λb=>((Sh b∨b=F.wg)∨b=F.mu)∨b=F.fd):=by
  have:=c2.share (i:=0) Y (b₀:=F.fd) (o₀:=F.Im f₀) (by rw [upd_same];simp [s2,s1,a0,a1,am]);refine this.congr λi hi=>?_;by_cases e:i=0
  ·subst e;simp only [upd_same];exact⟨rfl,rfl⟩
  ·have h:∀(f:Nat->St) (x:St),upd f 0 x i=f i:=λf x=>upd_ne f x e;constructor <;> simp only [h]
 have Z:∀b,s.H b≠none->∀x a,touchAt t x=some a->CP a.loc=some b->Knows t 0 x:=λb hb=>hC.Cd.kH 0 Y b (by rw [a2];exact hb);have ap:=hC.Cd.fits 0 Y;obtain⟨ρ,bb⟩:=a8;let φ:Nat->Nx:=λi=>if i=0 then .ph (.Gc 0) else .gone (Deaf t i)
 have z:∀f:Nx->Nat,(∀d,f (.gone d)=0)->f (.ph (.Gc 0))=0->(sumTo gs.size λi=>f (φ i))=0:=by
  intro f a3 a4;have:=sumTo_le (f:=λi=>f (φ i)) (c:=0) (j:=gs.size) λi _=>by
   show f (φ i)<=0;by_cases e:i=0
   ·simp [φ,e,a4]
   ·simp [φ,e,a3]
  omega
 have O:∀f:LP->Nat,Sg f gs.size φ=0:=λf=>z (De f) (λ_=>rfl) rfl;have be:∀i,(upd (upd (upd (lone s) 0 s1) 0 s2) 0 ⟨s.E,Js s.H F.wg F.mu F.fd,false⟩) i=if i=0 then⟨s.E,Js s.H F.wg F.mu F.fd,false⟩ else .quiet:=by
  intro i;by_cases e:i=0
  ·subst e;rw [upd_same];rfl
  ·rw [upd_ne _ _ e,upd_ne _ _ e,upd_ne _ _ e];simp [lone,e]
 have bi:F.HM (Fam.word 0 0) (0:Nat)=F.HM 0 0:=by simp [Fam.word]
 have bn:F.HN M4.zero.num (0:Nat)=F.HN 0 0:=by simp [M4.num,M4.zero]
 have a5:∀i,i<gs.size->(i=0∨gs.size<=i)->i=0:=λi hi al=>by omega
 have bo:Inv P F ⟨gs.size,t.size,s.E,w⟩ gs w t φ (λi=>if i=0 then ρ else chain (q i)) (λ_=>true) (upd (upd (upd (lone s) 0 s1) 0 s2) 0 ⟨s.E,Js s.H F.wg F.mu F.fd,false⟩) (λb=>((Sh b∨b=F.wg)∨b=F.mu)∨b=F.fd) 0 false 0 0 0 M4.zero 0 f₀:=by
  refine⟨?_,⟨?_,λi hi=>?_⟩,⟨λi hi=>?_,λi hi=>hC.lv.above i hi,λx a b K hb aq U i hi al=>?_,λx a b K hb aq U=>?_,λx a K hb=> .inl λi hi al=>?_,λx g bq br bu=> .inl (hC.over x g bq br bu),λx K e=>?_,Nat.le_refl _,λk U=>by omega⟩,λi g' aw=>?_,c3,.inl (.inl (.inr rfl)),.inl (.inr rfl),.inr rfl,az,a0,a1,a6,by simp [φ],?_,?_,ap.h _ _ am,λi hi hb=>(by cases hb),λk U=>(by omega),?_,rfl,.refl _,rfl⟩
  ·rw [I5];refine⟨Y,ay,by omega,by simp,Nat.zero_le _,by simp,⟨.Gc 0,rfl,rfl,ay,rfl⟩,λi a3 a4=>?_,λk U=>by omega,by simp,?_,by simp [φ,pend],?_,λk U=>by omega,.nil,λk U=>by cases U⟩
   ·have:i≠0:=by omega
    simp [φ,this,Nb]
   ·have:=z cU (λ_=>rfl) rfl;simp only [Bool.toNat_false,Nat.add_zero];rw [this];simp [φ,pend]
   ·simp only [Bool.false_eq_true,if_false,DD];exact⟨z cL (λ_=>rfl) rfl,z cS (λ_=>rfl) rfl,trivial,trivial,trivial⟩
  ·rw [O,O,O,O,O,O,O,O];simp [LN,M4.zero]
  ·by_cases e:i=0
   ·simp [φ,e,N1]
   ·simp [φ,e,N1]
  ·by_cases e:i=0
   ·subst e;simp [φ,FN];exact hC.hears
   ·simp [φ,e,FN]
  ·obtain rfl:=a5 i hi al;rcases aq with rfl | rfl
   ·exact Z _ (by rw [ac];simp) x a K hb
   ·exact Z _ (by rw [ag];simp) x a K hb
  ·rcases aq with rfl | rfl
   ·exact Z _ (by rw [ac];simp) x a K hb
   ·exact Z _ (by rw [ag];simp) x a K hb
  ·obtain rfl:=a5 i hi al;exact Z _ (by rw [am];simp) x a K hb
  ·have:=lt_of_act? e;have bQ:t.size<=x:=K;omega
  ·rw [be];by_cases e:i=0
   ·subst e;rw [hC.main] at aw;obtain rfl:=Option.some.inj aw;simp only [if_true,φ];exact .walk rfl (λh=>by cases h) bb
   ·have hm:(i==0)=false:=by rw [beq_eq_false_iff_ne];exact e
    simp only [e,if_false,φ];exact .gone hm (hC.lv.old i g' (by omega) aw)
  ·show w.heap[F.wg]? =_;rw [bi];exact ap.h _ _ ac
  ·show w.heap[F.mu]? =_;rw [bn];exact ap.h _ _ ag
  ·rw [upd_same];exact Le.refl _
 obtain⟨n,gs',w',bv,bw,bx,q',bz,g',s',bA,bB,hle,bC,bD,bE⟩:=Inv.run a7 _ _ _ sl _ _ _ _ _ _ _ _ _ _ _ _ _ _ rfl bo;obtain⟨n2,bF,w2,bG,t2,bH,bI,g2,bJ,k1,bK,bL,bM,bN,bO,bP⟩:=a9 g' s' bB gs' w' bv bw q' bz bA;refine⟨n+n2,bF,w2,bG,t2,bH,bI,g2,bJ,?_,bK,bL,λb o h=>bM b o (hle b o h),bN.trans bC,bD.trans bO,bP.trans bE⟩;rw [runNT_add,bx];exact k1
end Pal
namespace Pal
open Go Go.Conc
section
variable {P:Program}{F:Fam}{J:Judge P}{Q:GP}{n:Nat}{L L':Env}{ds:Ld_}{k:Li_}{cs:Lf_}{s s':St}{b:Frame}{main:Bool}
theorem BM(hb:b.roundOf=none)(T:Av_)(todo:Li_):fr b T ds todo=b.at ⟨T,ds⟩ todo:=by simp [fr,Frame.at,hb]
theorem KI(hb:b.roundOf=none)(T:Av_)(todo:Li_):Eo b T ds todo={b.at ⟨T,ds⟩ todo with mode:= .returning}:=by simp [Eo,Frame.at,hb]
theorem EF(T:Av_)(ds:Ld_)(x:Operand):(⟨T,ds⟩:Act).eval x=BB T x:=by cases x <;> rfl
theorem Eg(T:Av_)(ds:Ld_)(d:Option Tmp)(v:Value):(⟨T,ds⟩:Act).put d v=⟨CM T d v,ds⟩:=by cases d <;> rfl
def JO(J:Judge P)(Q:GP)(b:Frame)(n:Nat)(L:Env)(ds:Ld_)(cs:Lf_)(s:St):Prop:=
 ∀T,Has n L T->∀todo,J.ok Q (G (Eo b T ds todo) cs) s
theorem JL.out(K:b.roundOf=none)(h:JO J Q b n L ds cs s):JL J Q b n L ds [] cs s:=λT O=>
 Judge.Dh rfl (λw=>by simp [G,stepG,stepG.exec,fr,Eo,K]) (h T O [])
theorem HX(K:b.roundOf=none)(h:JO J Q b n L ds cs s):JL J Q b n L ds (.code .ret::k) cs s:=λT O=>
 Judge.Dh rfl (λw=>by simp [G,stepG,stepG.exec,fr,Eo,K]) (h T O (.code .ret::k))
theorem JO.leave{c:Frame}{v:Value}(O:b.kind= .normal)(K:Bz P b.fn L n s v)(h:J.ok Q (G (c.finish v) cs) s):JO J Q b n L [] (c::cs) s:=λT U todo=>by
 obtain⟨fn,Y,K⟩:=K
 exact Judge.leave O Y (K T U) h
theorem JO.leaveD{c:Frame}{fn:Func}(O:b.kind= .deferred)(U:P.funcs[b.fn]? =some fn)(K:fn.results= #[])(Y:c.mode= .returning∨c.mode= .panicking [goexitEntry])(h:J.ok Q (G c cs) s):JO J Q b n L [] (c::cs) s:=λT ac todo=>by
 refine Judge.Dh rfl (λw=>?_) h
 have Z:=results_none K T P w
 have e2:=λ(x:Array Event)=>events_results_none (P:=P) (w:=w) K T x
 rcases Y with e | e <;> simp [G,stepG,unwind,Eo,U,Z,e2,doReturn,O,GStep.after,seen_none,e,goexitEntry]
theorem JO.enter{f:FuncId}{fn:Func}{c:Code}{vs:Lv_}(O:b.roundOf=none)(Y:P.funcs[f]? =some fn)(Z:(fn.name== "runtime.NumGoroutine")=false)(hb:fn.body=some c)(am:vs.length<=fn.ntmps)
  (h:∀T,Has n L T->∀todo,JL J Q (baseD f) fn.ntmps (Ga 0 vs) [] [.code c] (Eo b T ds todo::cs) s):JO J Q b n L (dcall f vs.toArray::ds) cs s:=λT ac todo=>by
 refine Judge.Dh rfl (λw=>?_) (h T ac todo (vs.toArray++Array.replicate (fn.ntmps - vs.length) undef) ⟨by simp;omega,λt v ag=>?_⟩)
 ·rw [KI O,stepG_unwind_enter (a:=⟨T,dcall f vs.toArray::ds⟩) rfl Y Z hb,KI O]
  rw [BM (b:=baseD f) rfl];simp
 ·obtain⟨_,K⟩:=Jj ag;have al:t<vs.length:=by
   rcases Nat.lt_or_ge t vs.length with U | U
   ·exact U
   ·simp at K;have:=(List.getElem?_eq_some_iff.1 K).1;omega
  rw [Array.getD_eq_getD_getElem?,Array.getElem?_append_left (by simpa using al)];simp at K;simp [K]
theorem JL.defer{ops:Ao_}{i:Nat}{rest:List Nat}{d:Option Tmp}{f:FuncId}{args:Array Operand}{ats:Array TypeId}{ty:TypeId}{p:String}{af:Ae_}{g:On_}{vs:Lv_}
  (U:ops[i]? =some ⟨d,.defer ⟨.value (.func f),args,ats⟩,ty,p,af,g⟩) (Y:b.roundOf=none) (hw:AL L ops ⟨d,.defer ⟨.value (.func f),args,ats⟩,ty,p,af,g⟩=some true) (K:((b.kind != .early)&&Bf n d)=true)
  (Z:evs L args.toList=some vs) (h:JL J Q b n (Av L d undef) (dcall f vs.toArray::ds) (.inRegion ops rest::k) cs s):
  JL J Q b n L ds (.inRegion ops (i::rest)::k) cs s:=λT O=>by
 simp only [Bool.and_eq_true] at K
 have ac:args.map (BB T)=vs.toArray:=by
  rw [← Gn O.F0 Z];apply Array.ext';simp
 refine Judge.oper U (B6 O hw) (by simpa using K.1) (.inl Y) ?_;have hd:execOp (BB T) ⟨d,.defer ⟨.value (.func f),args,ats⟩,ty,p,af,g⟩= .pure (.defer (dcall f vs.toArray)):=by
  simp only [execOp,resolve,bind,Sem.bind,Deferred.ofValue,BB,pure,dcall];rw [ac];simp
 rw [hd];exact h _ (O.put K.2 undef)
def KQ:Ph->Bool
 | .Ha _ | .FO _ | .GR | .FI _ _ | .Hz | .Fv | .Gb | .lk _ _=>false
 | _=>true
theorem Iy{p:Ph}{g:Goroutine}(K:KQ p=true)(Y:g.status= .running)(Z:g.offers=none)(O:if Fam.CO p=true then s= .quiet else s.q=false)(ac:p= .Fi->mayWake P g=true)
  (h:∀v wt sm v' wt' sm' es U,F.act p v wt sm=some ((v',wt',sm'),es,U)->∃g',(∀w,F.WG w v wt sm->stepG P (Fam.CF p) g w= .go g' (F.put w v' wt' sm') es)/\g'.status= .running/\L4 P (Stop P F) (Fam.CF p) U g' (Fam.Jc p s)):Stop P F p g s:=
 GW.stop {
  run:=Y
  offers:=Z
  quiet:=λe=>by rw [if_pos e] at O;exact O
  live:=λe=>by rw [if_neg (by rw [e];simp)] at O;exact O
  act:=h
  II:=λe=>by rcases e with e | ⟨k,b,e⟩;exact ac e;subst e;cases K
  EZ:=λe=>by subst e;cases K
  go:=λj e=>by subst e;cases K
  lk:=λk l e=>by subst e;cases K
  Cz:=λk sv e=>by subst e;cases K
  store:=λk e=>by subst e;cases K
  fin:=λe=>by subst e;cases K}
theorem KG{w:World}{v wt sm:Nat}(h:F.WG w v wt sm):F.put w v wt sm=w:=by
 unfold Fam.put;have:w.heap.setIfInBounds F.wg (F.HM (Fam.word v wt) sm)=w.heap:=by
  apply Array.ext_getElem?;intro i;by_cases e:F.wg=i
  ·subst e;unfold Fam.WG at h;have O:F.wg<w.heap.size:=by
    rcases Nat.lt_or_ge F.wg w.heap.size with K | K
    ·exact K
    ·simp [Array.getElem?_eq_none K] at h
   rw [Array.getElem?_setIfInBounds_self_of_lt O,h]
  ·rw [Array.getElem?_setIfInBounds_ne e]
 rw [this]
theorem Iz{w:World}{v wt sm:Nat}(h:F.WG w v wt sm):w.cell? F.sA=some (.int .u64 (Fam.word v wt))/\w.cell? F.mA=some (.int .u32 sm)/\w.frozen? F.sA=false/\w.frozen? F.mA=false:=by
 unfold Fam.WG Fam.HM at h;refine⟨?_,?_,?_,?_⟩
 ·simp [World.cell?,Fam.sA,h]
 ·simp [World.cell?,Fam.mA,h]
 ·simp [World.frozen?,Fam.sA,h]
 ·simp [World.frozen?,Fam.mA,h]
theorem My{w:World}{v wt sm v' wt':Nat}(h:F.WG w v wt sm):w.setCell F.sA (.int .u64 (Fam.word v' wt'))=F.put w v' wt' sm:=by
 unfold Fam.put World.setCell;congr 1;apply Array.ext_getElem?;intro i;unfold Fam.WG Fam.HM at h;rw [Array.getElem?_modify];have O:F.wg<w.heap.size:=by
  rcases Nat.lt_or_ge F.wg w.heap.size with K | K
  ·exact K
  ·simp [Array.getElem?_eq_none K] at h
 by_cases e:F.wg=i
 ·subst e;rw [Array.getElem?_setIfInBounds_self_of_lt O,h];simp [Fam.sA,Fam.HM]
 ·rw [Array.getElem?_setIfInBounds_ne e];simp [Fam.sA,e]
theorem QE{w:World}{v wt sm sm':Nat}(h:F.WG w v wt sm):w.setCell F.mA (.int .u32 sm')=F.put w v wt sm':=by
 unfold Fam.put World.setCell;congr 1;apply Array.ext_getElem?;intro i;unfold Fam.WG Fam.HM at h;rw [Array.getElem?_modify];have O:F.wg<w.heap.size:=by
  rcases Nat.lt_or_ge F.wg w.heap.size with K | K
  ·exact K
  ·simp [Array.getElem?_eq_none K] at h
 by_cases e:F.wg=i
 ·subst e;rw [Array.getElem?_setIfInBounds_self_of_lt O,h];simp [Fam.mA,Fam.HM]
 ·rw [Array.getElem?_setIfInBounds_ne e];simp [Fam.mA,e]
structure B5 (P:Program) (f:FuncId) (e:Av_->Sem Value):Prop where
 h:∃fn,P.funcs[f]? =some fn/\(fn.name== "runtime.NumGoroutine")=false/\fn.body.isNone=true/\Extern.findNext fn=none/\Extern.find fn=some e
section
variable {ops:Ao_}{i:Nat}{rest:List Nat}{d:Option Tmp}{f:FuncId}{args:Array Operand}{ats:Array TypeId}{ty:TypeId}{pp:String}{af:Ae_}{g:On_}{vs:Lv_}{p q:Ph}
theorem JE{T:Av_}(K:Has n L T)(O:evs L args.toList=some vs):args.map (⟨T,ds⟩:Act).eval=vs.toArray:=by
 have:(⟨T,ds⟩:Act).eval=BB T:=funext λx=>EF T ds x;rw [this,← Gn K.F0 O];apply Array.ext';simp
theorem Lx{m:Mark}(Z:KQ p=true)(ac:if Fam.CO p=true then s= .quiet else s.q=false)(ag:p≠ .Fi)(al:∀v wt sm,F.act p v wt sm=some ((v,wt,sm),#[Fam.CJ m],.ph q))(am:Fam.Jc p s=s)
  (ap:ops[i]? =some ⟨d,.call ⟨.value (.func f),args,ats⟩,ty,pp,af,g⟩) (O:b.roundOf=none) (hw:AL L ops ⟨d,.call ⟨.value (.func f),args,ats⟩,ty,pp,af,g⟩=some true) (K:((b.kind != .early)&&Bf n d)=true)
  (hm:∀x,m≠ .extern x) (he:B5 P f (λ_=>do mark m;pure Extern.Race.none_))
  (h:JL (AW P (Fam.CF p)) (Stop P F q) b n (Av L d (.tuple #[])) ds (.inRegion ops rest::k) cs s):
  JL (AW P (Fam.CF p)) (Stop P F p) b n L ds (.inRegion ops (i::rest)::k) cs s:=λT U=>by
 simp only [Bool.and_eq_true] at K
 obtain⟨fn,aq,aw,hb,ay,he⟩:=he.h
 refine(AW P _).stop (Iy Z rfl rfl ac (λe=>absurd e ag) λv wt sm v' wt' sm' es a0 Y=>?_)
 rw [al] at Y;cases Y
 refine⟨_,λw az=>?_,rfl,by rw [am];exact h _ (U.put K.2 _)⟩
 rw [BM O,BM O,stepG_mark0 (a:=⟨T,ds⟩) m hm ap (B6 U hw) (by simpa using K.1) rfl aq aw hb ay he,KG az,Eg]
 rfl
theorem OB{mk:Addr->Mark}{ad:Addr}(Z:KQ p=true)(ac:if Fam.CO p=true then s= .quiet else s.q=false)(ag:p≠ .Fi)(al:∀v wt sm,F.act p v wt sm=some ((v,wt,sm),#[Fam.CJ (mk ad)],.ph q))
  (am:ops[i]? =some ⟨d,.call ⟨.value (.func f),args,ats⟩,ty,pp,af,g⟩) (U:b.roundOf=none) (hw:AL L ops ⟨d,.call ⟨.value (.func f),args,ats⟩,ty,pp,af,g⟩=some true) (K:((b.kind != .early)&&Bf n d)=true)
  (hm:∀ad x,mk ad≠ .extern x) (he:B5 P f (Extern.Race.marked mk)) (ap:evs L args.toList=some vs) (aq:vs[0]? =some (.pointer (some ad)))
  (h:JL (AW P (Fam.CF p)) (Stop P F q) b n (Av L d (.tuple #[])) ds (.inRegion ops rest::k) cs (Fam.Jc p s)):
  JL (AW P (Fam.CF p)) (Stop P F p) b n L ds (.inRegion ops (i::rest)::k) cs s:=λT O=>by
 simp only [Bool.and_eq_true] at K
 obtain⟨fn,aw,ay,hb,az,he⟩:=he.h
 refine(AW P _).stop (Iy Z rfl rfl ac (λe=>absurd e ag) λv wt sm v' wt' sm' es a1 Y=>?_)
 rw [al] at Y;cases Y
 refine⟨_,λw a0=>?_,rfl,h _ (O.put K.2 _)⟩
 rw [BM U,BM U,stepG_markAt (a:=⟨T,ds⟩) mk hm am (B6 O hw) (by simpa using K.1) rfl aw ay hb az he (ad:=ad) (by rw [JE O ap];simpa using aq),KG a0,Eg]
 rfl
end
end
end Pal
namespace Pal
open Go Go.Conc
section
variable {E H:LH}{S:List Seg}{j l:Nat}{o o':Obj}
theorem I0(ap:Ap E H S)(Y:S[j]? =some [(l,o)])(o':Obj):(Ak E H S).upd l o'=Ak E H (S.set j [(l,o')])/\Ap E H (S.set j [(l,o')]):=by
 obtain⟨K,Z⟩:=G5 ap Y;have U:=Nd.iff.1 Z;have ac:E l=none:=(U.2 (l,o) (by simp)).1;have aq:H l=none:=(U.2 (l,o) (by simp)).2;have ag:Nd E H (S.set j []).flatten:=J3.Nd.left Z;have aw:∀q∈(S.set j []).flatten,q.1≠l:=λq O e=>by
  have:=U.1;rw [List.map_append,List.nodup_append] at this;exact this.2.2 q.1 (List.mem_map_of_mem O) l (by simp) e
 have al:Bi (S.set j []).flatten H l=none:=by
  have key:∀(B:List (Nat×Obj)),(∀q∈B,q.1≠l)->Bi B H l=none:=by
   intro B
   induction B with
   | nil=>intro _;exact aq
   | cons q B ay=>
    intro O;obtain⟨c,az⟩:=q;have am:l≠c:=λe=>O (c,az) (by simp) e.symm;have K:=ay λq' a0=>O q' (List.mem_cons_of_mem _ a0);simp only [Bi]
    first
    | rw [if_neg am];exact K
    | rw [if_neg (Ne.symm am)];exact K
  exact key _ aw
 have f1:=Ka (E:=E) (H:=H) (B:=(S.set j []).flatten) (r:=l) ac al o ag;have f2:=Ka (E:=E) (H:=H) (B:=(S.set j []).flatten) (r:=l) ac al o' ag;obtain⟨a1,g2⟩:=I4 (seg:= [(l,o)]) Y f2.1;refine⟨?_,g2⟩;rw [K,← a1,← f1.2,← f2.2];unfold St.upd;congr 1;funext x;by_cases a2:x=l <;> simp [a2]
end
section
variable {P:Program}{J:Judge P}{Q:Gs_}{b:Frame}{n:Nat}{L:Env}{ds:Ld_}{k:Li_}{cs:Lf_}{E H:LH}{S:List Seg}{j l:Nat}
theorem Judge.EZ{α:Type}{g:Goroutine}{g':α->Goroutine}{s:St}(x:Sem α)(ac:s.q=false)(ag:g.status= .running)
  (al:∀w a w',x.run P w= .ok a w'->∃es,stepG P J.main g w= .go (g' a) w' es/\∀e∈es,e∈x.events P w #[])
  (h:lp P x s (λa s'=>J.ok Q (g' a) s') (λ_ _=>False)):J.ok Q g s:=by
 refine J.step ⟨ag,λw f=>?_,λe=>by subst e;cases ac⟩;obtain⟨s',O,U,Y,K⟩:=MH _ h f;cases Z:x.run P w with
 | ok a w'=>
  rw [Z] at O U Y K;simp only [Kq] at O U Y;obtain⟨es,he,hm⟩:=al w a w' Z;exact⟨g' a,s',w',es,he,K,O,U,λe am=>Y e (hm e am)⟩
 | halt a w'=>rw [Z] at K;exact K.elim
theorem Mr{r:Loop}{s:St}{K:Loop->St->Prop}{X:Halt->St->Prop}(h:s.get l=some (.loop r))(k:K r s):lp P (Instr.getLoop l) s K X:=by
 unfold Instr.getLoop getObj;simp only [bind,Sem.bind,lp];exact⟨_,h,rfl,k⟩
theorem Uy{r:Loop}{T:Av_}(j:Nat)(K:Ap E H S)(O:S[j]? =some [(l,.loop r)])(U:(r.state== .busy)=false)(Y:r.pending=none)
  (h:Ap E H (S.set j [(l,.loop {r with state:= .exhausted})])->J.ok Q (G (fr b T ds k) cs) (Ak E H (S.set j [(l,.loop {r with state:= .exhausted})]))):
  J.ok Q (G (fr b T ds (.endRangeFunc l::k)) cs) (Ak E H S):=by
 obtain⟨Z,ac⟩:=I0 K O (.loop {r with state:= .exhausted});have ag:lp P (Instr.endLoop l) (Ak E H S) (λa s'=>a=none/\s'=Ak E H (S.set j [(l,.loop {r with state:= .exhausted})])) (λ_ _=>False):=by
  unfold Instr.endLoop;refine Au _ _ (Mr (Dx (i:=0) K O rfl) ?_);rw [if_neg (by rw [U];simp)];have al:(Ak E H S).H l=some (.loop r):=by
   have:=Dx (i:=0) K O rfl;have am:E l=none:=Na K O;unfold St.get at this;rw [show(Ak E H S).E l=none from am] at this;exact this
  simp only [bind,Sem.bind,lp,setObj,pure];refine⟨⟨_,al,rfl⟩,rfl,Y,?_⟩;exact Z
 refine Judge.EZ (g':=λap=>G (fr b T ds ((ap.map Item.code).toList++k)) cs) (Instr.endLoop l) rfl rfl (λw a w' aq=>?_) (En _ ag (λa s' ⟨aw,ay⟩=>by subst aw ay;exact h ac) (λ_ _ h=>h));refine⟨seen P b.fn ((Instr.endLoop l).events P w #[])++ #[],?_,λe he=>?_⟩
 ·simp [G,stepG,stepG.exec,fr,aq,GStep.after]
 ·exact mem_seen (by simpa using he)
def TG(l:Nat)(f:FuncId):Frame:={(default:Frame) with fn:=f,kind:= .normal,roundOf:=some l}
theorem F4.yield{r:Loop}{t:Tmp}{v:Value}{B:Seg}{R:Value->LH->Seg->Prop}{i:Nat}(K:B[i]? =some (l,.loop r))(O:r.params= #[t])
  (h:∀(Q:Gs_) (U:Frame) (cs:Lf_) (H:LH),Ap E H [B]->(∀w E' S' B',Le E E'->S'.flatten=B'->R w E' B'->Ap E' H S'->J.ok Q (G (U.finish w) cs) (Ak E' H S'))->
   J.ok Q (G (fr (TG l r.fn) (r.tmps.setIfInBounds t v) [] [.code r.assign,.beginRound,.code r.body]) (U::cs)) (Ak E H [B])):
  F4 J (.func (.yield l) #[] #[]) [v] E B R:=λH Y Q c cs Z=>by
 have ac:(mk E H B).get l=some (.loop r):=Ot Y K
 simp only [Deferred.ofValue,bind,Sem.bind,pure,invoke]
 unfold Instr.yield
 refine Au _ _ (Mr ac ?_)
 have ag:¬((#[]:Av_)++ [v].toArray).size≠r.params.size:=by rw [O];simp
 rw [if_neg ag];have e2:((r.params.zip ((#[]:Av_)++ [v].toArray)).foldl (λtmps (t,a)=>tmps.setIfInBounds t a) r.tmps)=r.tmps.setIfInBounds t v:=by rw [O];simp [Array.zip,Array.zipWith,Array.zipWithMAux]
 simp only [lp,pure];have al:mk E H B=Ak E H [B]:=by unfold Ak;simp
 rw [e2,al];exact h Q c cs H (by unfold Ap;simpa using Y) λw E' S' B' hle K am ap=>by
  subst K;exact Z w _ ⟨E',S'.flatten,hle,am,ap,rfl⟩
theorem JL.beginRound{r:Loop}(j:Nat)(U:b.roundOf=some l)(Y:b.kind= .normal)(K:Ap E H S)(O:S[j]? =some [(l,.loop r)])(Z:r.state= .ready)
  (h:Ap E H (S.set j [(l,.loop {r with state:= .busy})])->JL J Q b n L ds k cs (Ak E H (S.set j [(l,.loop {r with state:= .busy})]))):
  JL J Q b n L ds (.beginRound::k) cs (Ak E H S):=λT ac=>by
 obtain⟨ag,al⟩:=I0 K O (.loop {r with state:= .busy})
 have am:lp P (Instr.beginRound l) (Ak E H S) (λ_ s'=>s'=Ak E H (S.set j [(l,.loop {r with state:= .busy})])) (λ_ _=>False):=by
  unfold Instr.beginRound;refine Au _ _ (Mr (Dx (i:=0) K O rfl) ?_);have ap:(Ak E H S).H l=some (.loop r):=by
   have:=Dx (i:=0) K O rfl;have aq:E l=none:=Na K O;unfold St.get at this;rw [show(Ak E H S).E l=none from aq] at this;exact this
  simp only [bind,Sem.bind,lp,setObj,pure,Z];exact⟨⟨_,ap,rfl⟩,rfl,ag⟩
 refine Judge.EZ (g':=λ_=>G (fr b T ds k) cs) (Instr.beginRound l) rfl rfl (λw a w' aw=>?_) (En _ am (λa s' ay=>by subst ay;exact h al T ac) (λ_ _ h=>h));refine⟨seen P b.fn ((Instr.beginRound l).events P w #[])++ #[],?_,λe he=>?_⟩
 ·simp [G,stepG,stepG.exec,fr,stepG.apply,U,Y,aw,GStep.after,Frame.finish]
 ·exact mem_seen (by simpa using he)
theorem IK{o:Obj}{seg:Seg}(K:Ap E H S)(O:S[j]? =some ((l,o)::seg)):(Ak E H S).H l=some o:=by
 have:=Dx (i:=0) K O rfl;have U:E l=none:=Na K O;unfold St.get at this;rw [show(Ak E H S).E l=none from U] at this;exact this
theorem JL.endRound{r:Loop}{c:Frame}(j:Nat)(U:b.roundOf=some l)(Y:b.kind= .normal)(K:Ap E H S)(O:S[j]? =some [(l,.loop r)])
  (h:Ap E H (S.set j [(l,.loop {r with state:= .ready,pending:=none})])->J.ok Q (G (c.finish (.bool true)) cs) (Ak E H (S.set j [(l,.loop {r with state:= .ready,pending:=none})]))):
  JL J Q b n L [] [] (c::cs) (Ak E H S):=λT aq=>by
 obtain⟨Z,ac⟩:=I0 K O (.loop {r with state:= .ready,pending:=none})
 have ag:lp P (Instr.endRound l none) (Ak E H S) (λa s'=>a= .bool true/\s'=Ak E H (S.set j [(l,.loop {r with state:= .ready,pending:=none})])) (λ_ _=>False):=by
  unfold Instr.endRound;refine Au _ _ (Mr (Dx (i:=0) K O rfl) ?_);simp only [bind,Sem.bind,lp,setObj,pure];exact⟨⟨_,IK K O,rfl⟩,rfl,rfl,Z⟩
 refine Judge.EZ (g':=λv=>G (c.finish v) cs) (Instr.endRound l none) rfl rfl (λw a w' al=>?_) (En _ ag (λa s' ⟨am,ap⟩=>by subst am ap;exact h ac) (λ_ _ h=>h));refine⟨seen P b.fn ((Instr.endRound l none).events P w #[])++ #[],?_,λe he=>?_⟩
 ·simp [G,stepG,stepG.exec,fr,U,Y,al,GStep.after,doReturn]
 ·exact mem_seen (by simpa using he)
theorem JL.rangeFunc{x:Operand}{params:Array Tmp}{as O:Code}{f:FuncId}{caps:Lv_}(aq:b.roundOf=none)(aw:b.kind≠ .early)(ag:ev L x=some (.func (.func f) #[] caps.toArray))(hb:DO P f=true)(ay:Ap E H S)
  (h:∀K l T,Has n L T->Ap E H (S++ [[(K,.deferred (some []))]]++ [[(l,.loop ⟨.ready,none,b.fn,T,params,as,O,K⟩)]])->
   J.ok Q (G (Frame.enter P f (.func (.yield l) #[] #[]::caps).toArray .normal) (fr b T (⟨.collected K,#[]⟩::ds) (.inRangeFunc l::k)::cs)) (Ak E H (S++ [[(K,.deferred (some []))]]++ [[(l,.loop ⟨.ready,none,b.fn,T,params,as,O,K⟩)]]))):
  JL J Q b n L ds (.code (.rangeFunc x params as O)::k) cs (Ak E H S):=λT al=>by
 have az:lp P (Instr.enterLoop b.fn T params as O b.roundOf) (Ak E H S) (λq s'=>∃K,q.2= [⟨.collected K,#[]⟩]/\Ap E H (S++ [[(K,.deferred (some []))]]++ [[(q.1,.loop ⟨.ready,none,b.fn,T,params,as,O,K⟩)]])/\s'=Ak E H (S++ [[(K,.deferred (some []))]]++ [[(q.1,.loop ⟨.ready,none,b.fn,T,params,as,O,K⟩)]])) (λ_ _=>False):=by
  unfold Instr.enterLoop;rw [aq];simp only [newObj,bind,Sem.bind,lp,pure];refine⟨rfl,λK Y Z=>?_⟩;obtain⟨ac,a0⟩:=Ka Y Z (.deferred (some [])) ay;obtain⟨a1,p2⟩:=Fe ac;have a2:(Ak E H S).upd K (.deferred (some []))=Ak E H (S++ [[(K,.deferred (some []))]]):=by rw [← a1,← a0];rfl
  rw [a2];refine⟨rfl,λl a3 a4=>?_⟩;obtain⟨a5,a6⟩:=Ka a3 a4 (.loop ⟨.ready,none,b.fn,T,params,as,O,K⟩) p2;obtain⟨p3,p4⟩:=Fe a5;exact⟨K,rfl,p4,by rw [← p3,← a6];rfl⟩
 refine Judge.EZ (g':=λq=>G (Frame.enter P f (.func (.yield q.1) #[] #[]::caps).toArray .normal) (fr b T (q.2++ds) (.inRangeFunc q.1::k)::cs)) (Instr.enterLoop b.fn T params as O b.roundOf) rfl rfl (λw a w' a7=>?_) (En _ az (λa s' ⟨K,Y,Z,ac⟩=>by subst ac;simp only [Y];exact h K a.1 T al Z) (λ_ _ h=>h));obtain⟨l,mk⟩:=a;have a8:BB T x= .func (.func f) #[] caps.toArray:=al.ev ag;obtain⟨fn,U,a9,am⟩:∃fn,P.funcs[f]? =some fn/\(fn.name== "runtime.NumGoroutine")=false/\fn.body.isNone=false:=by
  unfold DO at hb;cases U:P.funcs[f]? with
  | none=>rw [U] at hb;cases hb
  | some fn=>
   rw [U] at hb;simp only [Bool.and_eq_true,Bool.not_eq_true'] at hb;exact⟨fn,rfl,hb.1,by cases ag:fn.body <;> simp_all⟩
 refine⟨seen P b.fn ((Instr.enterLoop b.fn T params as O b.roundOf).events P w #[])++ #[],?_,λe he=>?_⟩
 ·have ap:=Rx (b:=b) (ds:=mk++ds) T (.inRangeFunc l::k);simp only [fr] at ap;have bb:¬fn.name= "runtime.NumGoroutine" :=by simpa using a9
  have be:¬fn.body=none:=by intro e;rw [e] at am;cases am
  have bi:BB T (.const (.func (.yield l) #[] #[]))= .func (.yield l) #[] #[]:=rfl;simp [G,stepG,stepG.exec,fr,a7,GStep.after,stepG.apply,resolve,ap,a8,Deferred.ofValue,invoke,callFunc,U,bb,be,aw,bi,seen_none]
 ·exact mem_seen (by simpa using he)
theorem JO.collected{K:Nat}(j:Nat)(aq:b.roundOf=none)(O:Ap E H S)(U:S[j]? =some [(K,.deferred (some []))])
  (h:Ap E H (S.set j [(K,.deferred none)])->JO J Q b n L ds cs (Ak E H (S.set j [(K,.deferred none)]))):JO J Q b n L (⟨.collected K,#[]⟩::ds) cs (Ak E H S):=λT Y todo=>by
 obtain⟨Z,ac⟩:=I0 O U (.deferred none)
 have ag:lp P (Instr.takeDeferred K) (Ak E H S) (λa s'=>a= []/\s'=Ak E H (S.set j [(K,.deferred none)])) (λ_ _=>False):=by
  unfold Instr.takeDeferred getObj;simp only [bind,Sem.bind,lp,setObj,pure];exact⟨_,Dx (i:=0) O U rfl,rfl,⟨_,IK O U,rfl⟩,rfl,rfl,Z⟩
 refine Judge.EZ (g':=λl=>G (Eo b T (l++ds) todo) cs) (Instr.takeDeferred K) rfl rfl (λw a w' al=>?_) (En _ ag (λa s' ⟨am,ap⟩=>by subst am ap;exact h ac T Y todo) (λ_ _ h=>h));refine⟨seen P b.fn ((Instr.takeDeferred K).events P w #[])++ #[],?_,λe he=>?_⟩
 ·simp [G,stepG,unwind,Eo,al,GStep.after]
 ·exact mem_seen (by simpa using he)
def Kn(f:FuncId)(args caps:Av_):Deferred:={target:= .fn (.func f) caps,args:=args}
theorem JO.Pl{f:FuncId}{fn:Func}{c:Code}{vs caps:Lv_}(ap:b.roundOf=none)(O:P.funcs[f]? =some fn)(Y:(fn.name== "runtime.NumGoroutine")=false)(hb:fn.body=some c)(Z:(vs++caps).length<=fn.ntmps){s:St}
  (h:∀T,Has n L T->∀todo,JL J Q (baseD f) fn.ntmps (Ga 0 (vs++caps)) [] [.code c] (Eo b T ds todo::cs) s):JO J Q b n L (Kn f vs.toArray caps.toArray::ds) cs s:=λT ac todo=>by
 have ag:¬fn.name= "runtime.NumGoroutine" :=by simpa using Y
 refine Judge.Dh rfl (λw=>?_) (h T ac todo ((vs++caps).toArray++Array.replicate (fn.ntmps - (vs++caps).length) undef) ⟨by simp;simp at Z;omega,λt v al=>?_⟩)
 ·rw [BM (b:=baseD f) rfl];have:=enter_atD (P:=P) (vs++caps).toArray O hb;simp only [List.size_toArray] at this;rw [← this];simp [G,stepG,unwind,callDeferred,Eo,Kn,invoke,callFunc,O,ag,hb,GStep.after,seen_none]
 ·obtain⟨_,K⟩:=Jj al;have am:t<(vs++caps).length:=by
   rcases Nat.lt_or_ge t (vs++caps).length with U | U
   ·exact U
   ·simp only [Nat.sub_zero] at K;have:=(List.getElem?_eq_some_iff.1 K).1;omega
  rw [Array.getD_eq_getD_getElem?,Array.getElem?_append_left (by simpa using am)];simp only [Nat.sub_zero] at K;rw [List.getElem?_toArray,K];rfl
theorem U9{ops:Ao_}{i:Nat}{rest:List Nat}{d:Option Tmp}{x:Operand}{f:FuncId}{caps:Lv_}{args:Array Operand}{ats:Array TypeId}{ty:TypeId}{p:String}{af:Ae_}{g:On_}{vs:Lv_}{s:St}
  (U:ops[i]? =some ⟨d,.defer ⟨.value x,args,ats⟩,ty,p,af,g⟩) (Y:b.roundOf=none) (hw:AL L ops ⟨d,.defer ⟨.value x,args,ats⟩,ty,p,af,g⟩=some true) (O:((b.kind != .early)&&Bf n d)=true)
  (Z:ev L x=some (.func (.func f) #[] caps.toArray)) (ac:evs L args.toList=some vs) (h:JL J Q b n (Av L d undef) (Kn f vs.toArray caps.toArray::ds) (.inRegion ops rest::k) cs s):
  JL J Q b n L ds (.inRegion ops (i::rest)::k) cs s:=λT K=>by
 simp only [Bool.and_eq_true] at O
 have ag:args.map (BB T)=vs.toArray:=by
  rw [← Gn K.F0 ac];apply Array.ext';simp
 refine Judge.oper U (B6 K hw) (by simpa using O.1) (.inl Y) ?_;have hd:execOp (BB T) ⟨d,.defer ⟨.value x,args,ats⟩,ty,p,af,g⟩= .pure (.defer (Kn f vs.toArray caps.toArray)):=by
  simp only [execOp,resolve,bind,Sem.bind,Deferred.ofValue,K.ev Z,pure,Kn];rw [ag];simp
 rw [hd];exact h _ (K.put O.2 undef)
end
end Pal
namespace Pal
open Go Go.Conc
section
variable {P:Program}{s:St}{ρ:Operand->Value}{x y z:Operand}{d:Option Tmp}{t u ty e:TypeId}{p:String}{af:Ae_}{g:On_}{a:Option Addr}{l c:Nat}
theorem MB(K:P.underlying t=some (.slice e))(O:ρ x= .slice a l c)(U:ρ (.const (.slice none 0 0))= .slice none 0 0):Yl P ⟨d,.binOp .eql t x (.const (.slice none 0 0)) u,ty,p,af,g⟩ ρ s (.bool a.isNone):=by
 refine FV (sm:=do eqGuard .eql t x (.const (.slice none 0 0)) (ρ x) (ρ (.const (.slice none 0 0)));binOp .eql t (ρ x) (ρ (.const (.slice none 0 0)))) rfl ?_
 rw [O,U];have Y:lp P (eqGuard .eql t x (.const (.slice none 0 0)) (.slice a l c) (.slice none 0 0)) s (λ_ s'=>s'=s) (λ_ _=>False):=by
  simp [eqGuard,lp,pure]
 refine Au _ _ (En _ Y ?_ (λ_ _ h=>h));rintro _ _ rfl;have hb:binOp .eql t (.slice a l c) (.slice none 0 0)=(do pure (.bool (← Op.equal t (.slice a l c) (.slice none 0 0)))):=rfl
 rw [hb];refine Au (x:=Op.equal t (.slice a l c) (.slice none 0 0)) _ ?_;unfold Op.equal Op.maxDepth Op.equalIn;refine Au _ _ (Co K ?_);cases a <;> exact⟨rfl,rfl⟩
end
section
variable {P:Program}{J:Judge P}{Q:Gs_}{b:Frame}{n:Nat}{L:Env}{ds:Ld_}{k:Li_}{cs:Lf_}{s:St}
end
section
variable {P:Program}{J:Judge P}{Q:Gs_}{b:Frame}{n:Nat}{ds:Ld_}{ops:Ao_}{k:Li_}{cs:Lf_}{m fuel:Nat}{listed:Array Bool}{L:Env}{E H:LH}{S:List Seg}
variable {d:Option Tmp}{x y:Operand}{t u ty e:TypeId}{p:String}{af:Ae_}{g:On_}{v:Value}{i:Nat}
end
end Pal
namespace Pal
open Go Go.Conc
def IF(P:Program)(d:Nat):GP:=λg _=>∃q,QuitsD P q d g
def K6(P:Program):Frame:={(default:Frame) with fn:=P.funcs.size,defers:= [],mode:= .panicking [goexitEntry]}
section
variable {P:Program}{F:Fam}{J:Judge P}{Q:GP}{n:Nat}{L L':Env}{ds:Ld_}{k:Li_}{cs:Lf_}{s s':St}{b:Frame}{main:Bool}
theorem Lv.quits{d:Nat}:∀{m:Nat} {g:Goroutine},Lv P (IF P d) m g->∃q,QuitsD P q d g
 | 0,_,h=>h
 | m+1,_,h=>by
  rcases h with h | ⟨K,g',O,h⟩
  ·exact h
  ·obtain⟨q,U⟩:=h.quits;exact⟨q+1,.ctl K O U⟩
theorem Om{d:Nat}{g:Goroutine}(h:(HY P).ok (IF P d) g .quiet):∃q,QuitsD P q d g:=by
 obtain⟨m,hm⟩:=h rfl;exact hm.quits
theorem UL:(HY P).ok (IF P 0) (G (K6 P) []) .quiet:=by
 refine Judge.Dh (g':={frame:=K6 P,callers:= [],status:= .finished,dying:=none}) rfl (λw=>?_) ((HY P).stop ⟨0,rfl,rfl⟩);have K:(default:Frame).todo= []:=rfl;have O:∀(m:FrameMode),Frame.catches P {fn:=P.funcs.size,tmps:=(default:Frame).tmps,todo:= [],defers:= [],mode:=m,kind:=(default:Frame).kind,roundOf:=(default:Frame).roundOf}=false:=λm=>by simp [Frame.catches]
 simp [G,stepG,unwind,K6,goexitEntry,K,O]
theorem RI{ops:Ao_}{i:Nat}{rest:List Nat}{d:Option Tmp}{f:FuncId}{args:Array Operand}{ats:Array TypeId}{ty:TypeId}{pp:String}{af:Ae_}{g:On_}{T:Av_}{e:Av_->Sem Value}
  (K:ops[i]? =some ⟨d,.call ⟨.value (.func f),args,ats⟩,ty,pp,af,g⟩) (he:B5 P f e):mayWake P (G (fr b T ds (.inRegion ops (i::rest)::k)) cs)=true:=by
 obtain⟨fn,O,_,hb,_⟩:=he.h;have U:fn.body.isSome=false:=by cases h:fn.body <;> simp_all
 simp [mayWake,G,fr,K,Frame.eval,O,U]
theorem Wr{v wt:Nat}(K:1<=v)(O:v<2147483648)(U:wt<=1):IntKind.u64.wrap (Fam.word v wt+18446744069414584320)=Fam.word (v - 1) wt:=by
 simp only [Fam.word,Fam.KK,IntKind.wrap,IntKind.bits,IntKind.signed];simp;omega
theorem Ws{v:Nat}(h:v<2147483647):IntKind.u64.wrap (Fam.word v 0+4294967296)=Fam.word (v+1) 0:=by
 simp only [Fam.word,Fam.KK,IntKind.wrap,IntKind.bits,IntKind.signed];simp;omega
theorem word_inj{v v' wt:Nat}(h:Fam.word v wt=Fam.word v' wt):v=v':=by
 simp only [Fam.word,Fam.KK] at h;omega
section
variable {ops:Ao_}{i:Nat}{rest:List Nat}{d:Option Tmp}{f:FuncId}{x y z:Operand}{ats:Array TypeId}{ty:TypeId}{pp:String}{af:Ae_}{g:On_}{p q:Ph}
theorem Xk(ag:ops[i]? =some ⟨d,.call ⟨.value (.func f),#[x,y],ats⟩,ty,pp,af,g⟩)(Z:b.roundOf=none)(hw:AL L ops ⟨d,.call ⟨.value (.func f),#[x,y],ats⟩,ty,pp,af,g⟩=some true)(O:((b.kind != .early)&&Bf n d)=true)
  (he:B5 P f (Extern.Atomic.update (Op.intArith .add) .u64 true)) (al:ev L x=some (.pointer (some F.sA))) (am:ev L y=some (.int .u64 18446744069414584320))
  (ap:JL (AW P false) (Stop P F .GM) b n (Av L d (.int .u64 (Fam.word 0 1))) ds (.inRegion ops rest::k) cs .quiet)
  (aq:∀v wt:Nat,v<2147483647->wt<=1->¬(v=0/\wt=1)->JL (HY P) (IF P 1) b n (Av L d (.int .u64 (Fam.word v wt))) ds (.inRegion ops rest::k) cs .quiet):
  JL (AW P false) (Stop P F .Hc) b n L ds (.inRegion ops (i::rest)::k) cs .quiet:=λT K=>by
 simp only [Bool.and_eq_true] at O
 obtain⟨fn,aw,ay,hb,az,he⟩:=he.h
 refine(AW P _).stop (Iy rfl rfl rfl rfl (by simp) λv wt sm v' wt' sm' es a0 U=>?_)
 simp only [Fam.act] at U
 split at U
 ·rename_i Y
  cases U;refine⟨G (fr b (CM T d (.int .u64 (Fam.word (v - 1) wt))) ds (.inRegion ops rest::k)) cs,λw ac=>?_,rfl,?_⟩
  ·obtain⟨c1,_,c3,_⟩:=Iz ac;rw [BM Z,BM Z];show stepG P false _ w=_;rw [stepG_add_atomic (a:=⟨T,ds⟩) ag (B6 K hw) (by simpa using O.1) rfl aw ay hb az .u64 he (by rw [EF];exact K.ev al) (by rw [EF];exact K.ev am) c1 c3,Wr Y.1 Y.2.1 Y.2.2,My ac,Eg]
   rfl
  ·split
   ·rename_i e;obtain⟨rfl,rfl⟩:=e;exact ap _ (K.put O.2 _)
   ·rename_i e;exact Om (aq (v - 1) wt (by omega) Y.2.2 (by omega) _ (K.put O.2 _))
 ·cases U
theorem Xi{j:Nat}(ag:s.q=false)(al:ops[i]? =some ⟨d,.call ⟨.value (.func f),#[x,y],ats⟩,ty,pp,af,g⟩)(Z:b.roundOf=none)(hw:AL L ops ⟨d,.call ⟨.value (.func f),#[x,y],ats⟩,ty,pp,af,g⟩=some true)(O:((b.kind != .early)&&Bf n d)=true)
  (he:B5 P f (Extern.Atomic.update (Op.intArith .add) .u64 true)) (am:ev L x=some (.pointer (some F.sA))) (ap:ev L y=some (.int .u64 4294967296))
  (aq:JL (AW P true) (Stop P F (.Ip j)) b n (Av L d (.int .u64 (Fam.word 1 0))) ds (.inRegion ops rest::k) cs s)
  (aw:∀v:Nat,1<=v->v<2147483647->JL (AW P true) (Stop P F (.GX j)) b n (Av L d (.int .u64 (Fam.word (v+1) 0))) ds (.inRegion ops rest::k) cs s):
  JL (AW P true) (Stop P F (.Ii j)) b n L ds (.inRegion ops (i::rest)::k) cs s:=λT K=>by
 simp only [Bool.and_eq_true] at O
 obtain⟨fn,ay,az,hb,a0,he⟩:=he.h
 refine(AW P _).stop (Iy rfl rfl rfl ag (by simp) λv wt sm v' wt' sm' es a1 U=>?_)
 simp only [Fam.act] at U
 split at U
 ·rename_i Y
  obtain⟨Y,rfl⟩:=Y;cases U;refine⟨G (fr b (CM T d (.int .u64 (Fam.word (v+1) 0))) ds (.inRegion ops rest::k)) cs,λw ac=>?_,rfl,?_⟩
  ·obtain⟨c1,_,c3,_⟩:=Iz ac;rw [BM Z,BM Z];show stepG P true _ w=_;rw [stepG_add_atomic (a:=⟨T,ds⟩) al (B6 K hw) (by simpa using O.1) rfl ay az hb a0 .u64 he (by rw [EF];exact K.ev am) (by rw [EF];exact K.ev ap) c1 c3,Ws Y,My ac,Eg]
   rfl
  ·split
   ·rename_i e;subst e;exact aq _ (K.put O.2 _)
   ·rename_i e;exact aw v (by omega) Y _ (K.put O.2 _)
 ·cases U
theorem YT(al:KQ p=true)(am:if Fam.CO p=true then s= .quiet else s.q=false)(ap:p≠ .Fi)(aq:Fam.Jc p s=s)(aw:∀v wt sm r,F.act p v wt sm=some r->r.1=(v,wt,sm)/\r.2.1= #[Fam.Cf F.sA])
  (ay:ops[i]? =some ⟨d,.call ⟨.value (.func f),#[x],ats⟩,ty,pp,af,g⟩) (U:b.roundOf=none) (hw:AL L ops ⟨d,.call ⟨.value (.func f),#[x],ats⟩,ty,pp,af,g⟩=some true) (K:((b.kind != .early)&&Bf n d)=true)
  (he:B5 P f (Extern.Atomic.loadT (.int .u64))) (az:ev L x=some (.pointer (some F.sA)))
  (h:∀v wt sm r,F.act p v wt sm=some r->∃q,r.2.2= .ph q/\JL (AW P (Fam.CF p)) (Stop P F q) b n (Av L d (.int .u64 (Fam.word v wt))) ds (.inRegion ops rest::k) cs s):
  JL (AW P (Fam.CF p)) (Stop P F p) b n L ds (.inRegion ops (i::rest)::k) cs s:=λT O=>by
 simp only [Bool.and_eq_true] at K
 obtain⟨fn,a0,a1,hb,a2,he⟩:=he.h
 refine(AW P _).stop (Iy al rfl rfl am (λe=>absurd e ap) λv wt sm v' wt' sm' es a4 Y=>?_)
 obtain⟨Z,e2⟩:=aw _ _ _ _ Y
 obtain⟨q,ac,a3⟩:=h _ _ _ _ Y
 simp only at Z e2 ac
 cases Z
 subst e2 ac
 refine⟨_,λw ag=>?_,rfl,by rw [aq];exact a3 _ (O.put K.2 _)⟩
 obtain⟨c1,_,_,_⟩:=Iz ag
 rw [BM U,BM U,stepG_load_atomic (a:=⟨T,ds⟩) ay (B6 O hw) (by simpa using K.1) rfl a0 a1 hb a2 .u64 he (by rw [EF];exact O.ev az) c1,KG ag,Eg]
 rfl
theorem YY(ac:ops[i]? =some ⟨d,.call ⟨.value (.func f),#[x,y],ats⟩,ty,pp,af,g⟩)(Y:b.roundOf=none)(hw:AL L ops ⟨d,.call ⟨.value (.func f),#[x,y],ats⟩,ty,pp,af,g⟩=some true)(U:((b.kind != .early)&&Bf n d)=true)
  (he:B5 P f Extern.Atomic.storeT) (ag:ev L x=some (.pointer (some F.sA))) (al:ev L y=some (.int .u64 0))
  (h:JL (AW P false) (Stop P F .Fi) b n (Av L d (.tuple #[])) ds (.inRegion ops rest::k) cs .quiet):
  JL (AW P false) (Stop P F .G8) b n L ds (.inRegion ops (i::rest)::k) cs .quiet:=λT K=>by
 simp only [Bool.and_eq_true] at U
 obtain⟨fn,am,ap,hb,aq,he⟩:=he.h
 refine(AW P _).stop (Iy rfl rfl rfl rfl (by simp) λv wt sm v' wt' sm' es az O=>?_)
 simp only [Fam.act] at O
 split at O
 ·rename_i aw
  obtain⟨rfl,rfl⟩:=aw;cases O;refine⟨_,λw Z=>?_,rfl,h _ (K.put U.2 _)⟩;obtain⟨c1,_,c3,_⟩:=Iz Z;have ay:(.int .u64 0:Value)= .int .u64 (Fam.word 0 0):=by simp [Fam.word]
  rw [BM Y,BM Y];show stepG P false _ w=_;rw [stepG_store_atomic (a:=⟨T,ds⟩) ac (B6 K hw) (by simpa using U.1) rfl am ap hb aq he (by rw [EF];exact K.ev ag) (by rw [EF];exact K.ev al) c1 c3,ay,My Z,Eg]
  rfl
 ·cases O
theorem Yf{m:Nat}(ay:s.q=false)(ac:ops[i]? =some ⟨d,.call ⟨.value (.func f),#[x,y,z],ats⟩,ty,pp,af,g⟩)(Z:b.roundOf=none)(hw:AL L ops ⟨d,.call ⟨.value (.func f),#[x,y,z],ats⟩,ty,pp,af,g⟩=some true)(U:((b.kind != .early)&&Bf n d)=true)
  (he:B5 P f (Extern.Atomic.casT (.int .u64))) (ag:ev L x=some (.pointer (some F.sA))) (al:ev L y=some (.int .u64 (Fam.word m 0))) (am:ev L z=some (.int .u64 (Fam.word m 1)))
  (az:JL (AW P true) (Stop P F .Io) b n (Av L d (.bool true)) ds (.inRegion ops rest::k) cs s)
  (a0:JL (AW P true) (Stop P F (.FZ (m - 1))) b n (Av L d (.bool false)) ds (.inRegion ops rest::k) cs s):
  JL (AW P true) (Stop P F (.Hf m)) b n L ds (.inRegion ops (i::rest)::k) cs s:=λT K=>by
 simp only [Bool.and_eq_true] at U
 obtain⟨fn,ap,aq,hb,aw,he⟩:=he.h
 refine(AW P _).stop (Iy rfl rfl rfl ay (by simp) λv wt sm v' wt' sm' es a2 O=>?_)
 simp only [Fam.act] at O
 split at O
 ·rename_i a1
  obtain⟨_,_,rfl⟩:=a1;split at O
  ·rename_i e;subst e;cases O;refine⟨_,λw Y=>?_,rfl,az _ (K.put U.2 _)⟩;obtain⟨c1,_,c3,_⟩:=Iz Y;rw [BM Z,BM Z];show stepG P true _ w=_;rw [stepG_cas_hit (a:=⟨T,ds⟩) ac (B6 K hw) (by simpa using U.1) rfl ap aq hb aw .u64 he (by rw [EF];exact K.ev ag) (by rw [EF];exact K.ev al) (by rw [EF];exact K.ev am) c1 c3,My Y,Eg]
   rfl
  ·rename_i e;cases O;refine⟨_,λw Y=>?_,rfl,a0 _ (K.put U.2 _)⟩;obtain⟨c1,_,c3,_⟩:=Iz Y;rw [BM Z,BM Z];show stepG P true _ w=_;rw [stepG_cas_miss (a:=⟨T,ds⟩) ac (B6 K hw) (by simpa using U.1) rfl ap aq hb aw .u64 he (by rw [EF];exact K.ev ag) (by rw [EF];exact K.ev al) (by rw [EF];exact K.ev am) c1 c3 (λq=>e (word_inj q)),KG Y,Eg]
   rfl
 ·cases O
theorem Ww{args:Array Operand}{vs:Lv_}(Y:ops[i]? =some ⟨d,.call ⟨.value (.func f),args,ats⟩,ty,pp,af,g⟩)(Z:b.roundOf=none)(hw:AL L ops ⟨d,.call ⟨.value (.func f),args,ats⟩,ty,pp,af,g⟩=some true)(O:((b.kind != .early)&&Bf n d)=true)
  (he:B5 P f Extern.Sync.semrelease) (ag:evs L args.toList=some vs) (al:vs[0]? =some (.pointer (some F.mA)))
  (h:JL (HY P) (IF P 1) b n (Av L d (.tuple #[])) ds (.inRegion ops rest::k) cs .quiet):
  JL (AW P false) (Stop P F .Fi) b n L ds (.inRegion ops (i::rest)::k) cs .quiet:=λT U=>by
 simp only [Bool.and_eq_true] at O
 have am:=RI (P:=P) (b:=b) (ds:=ds) (k:=k) (cs:=cs) (rest:=rest) (T:=T) Y he
 obtain⟨fn,ap,aq,hb,aw,he⟩:=he.h
 refine(AW P _).stop (Iy rfl rfl rfl rfl (λ_=>am) λv wt sm v' wt' sm' es a0 K=>?_)
 simp only [Fam.act] at K
 split at K
 ·rename_i ay
  subst ay;cases K;refine⟨_,λw ac=>?_,rfl,Om (h _ (U.put O.2 _))⟩;obtain⟨_,c2,_,c4⟩:=Iz ac;rw [BM Z,BM Z];show stepG P false _ w=_;rw [stepG_semrelease (a:=⟨T,ds⟩) Y (B6 U hw) (by simpa using O.1) rfl ap aq hb aw he (ad:=F.mA) (by rw [JE U ag];simpa using al) c2 c4,Eg];have az:IntKind.u32.wrap (((0:Nat):Int)+1)=((1:Nat):Int):=by decide
  rw [az,QE ac]
 ·cases K
theorem UN{args:Array Operand}{vs:Lv_}(aq:s.q=false)(ac:ops[i]? =some ⟨d,.call ⟨.value (.func f),args,ats⟩,ty,pp,af,g⟩)(Y:b.roundOf=none)(hw:AL L ops ⟨d,.call ⟨.value (.func f),args,ats⟩,ty,pp,af,g⟩=some true)(Z:((b.kind != .early)&&Bf n d)=true)
  (he:B5 P f Extern.Sync.semacquire) (aw:evs L args.toList=some vs) (ay:vs[0]? =some (.pointer (some F.mA)))
  (h:JL (AW P true) (Stop P F .G7) b n (Av L d (.tuple #[])) ds (.inRegion ops rest::k) cs s):
  JL (AW P true) (Stop P F .Fv) b n L ds (.inRegion ops (i::rest)::k) cs s:=λT K=>by
 simp only [Bool.and_eq_true] at Z
 obtain⟨fn,ag,al,hb,am,he⟩:=he.h
 have ap:(args.map (⟨T,ds⟩:Act).eval)[0]? =some (.pointer (some F.mA)):=by rw [JE K aw];simpa using ay
 refine(AW P _).stop (GW.stop {
  run:=rfl,offers:=rfl,quiet:=(by simp [Fam.CO]),live:=λ_=>aq,act:=?_,II:=(by simp),EZ:=?_,go:=(by simp),lk:=(by simp),Cz:=(by simp),store:=(by simp),fin:=(by simp)})
 ·intro v wt sm v' wt' sm' es a1 O;simp only [Fam.act] at O;split at O
  ·rename_i az;subst az;cases O;refine⟨_,λw U=>?_,rfl,h _ (K.put Z.2 _)⟩;obtain⟨_,c2,_,c4⟩:=Iz U;rw [BM Y,BM Y];show stepG P true _ w=_;rw [stepG_semacquire (a:=⟨T,ds⟩) ac (B6 K hw) (by simpa using Z.1) rfl ag al hb am he (ad:=F.mA) ap c2 (by decide) c4,Eg];have a0:(((1:Nat):Int) - 1)=((0:Nat):Int):=by decide
   rw [a0,QE U]
  ·cases O
 ·intro _ w v wt U;obtain⟨_,c2,_,c4⟩:=Iz U;rw [BM Y];exact stepG_semacquire_wait (a:=⟨T,ds⟩) ac (B6 K hw) rfl ag al hb am he (ad:=F.mA) ap c2
theorem Sr{args:Array Operand}{vs:Lv_}(Y:s.q=false)(Z:ops[i]? =some ⟨d,.call ⟨.value (.func f),args,ats⟩,ty,pp,af,g⟩)(U:b.roundOf=none)(hw:AL L ops ⟨d,.call ⟨.value (.func f),args,ats⟩,ty,pp,af,g⟩=some true)(K:((b.kind != .early)&&Bf n d)=true)
  (he:B5 P f (Extern.Race.marked .acquire)) (ac:evs L args.toList=some vs) (ag:vs[0]? =some (.pointer (some F.sA)))
  (h:∀E' f,Le s.E E'->E' F.fd=none->(∀b,E' b≠none->s.H b=none)->(∀k,k<F.n->F.msg k (f k) E')->∀T,Has n (Av L d (.tuple #[])) T->F.fin (G (fr b T ds (.inRegion ops rest::k)) cs) ⟨E',F.Jv s.H f,false⟩):
  JL (AW P true) (Stop P F .Gb) b n L ds (.inRegion ops (i::rest)::k) cs s:=λT O=>by
 simp only [Bool.and_eq_true] at K
 obtain⟨fn,al,am,hb,ap,he⟩:=he.h
 refine(AW P _).stop (GW.stop {
  run:=rfl,offers:=rfl,quiet:=(by simp [Fam.CO]),live:=λ_=>Y,act:=(by simp [Fam.act]),II:=(by simp),EZ:=(by simp),go:=(by simp),lk:=(by simp),Cz:=(by simp),store:=(by simp),fin:=λ_=>?_})
 refine⟨_,λw=>?_,λE' f a1 aq aw ay=>h E' f a1 aq aw ay _ (O.put K.2 _)⟩
 rw [BM U,BM U,stepG_markAt (a:=⟨T,ds⟩) .acquire (by simp) Z (B6 O hw) (by simpa using K.1) rfl al am hb ap he (ad:=F.sA) (by rw [JE O ac];simpa using ag),Eg]
 rfl
end
end
end Pal
namespace Pal
open Go Go.Conc
section
variable {P:Program}{F:Fam}{J:Judge P}{Q:GP}{n:Nat}{L L':Env}{ds:Ld_}{k:Li_}{cs:Lf_}{s s':St}{b:Frame}{main:Bool}
variable {ops:Ao_}{i:Nat}{rest:List Nat}{d:Option Tmp}{f:FuncId}{x y z:Operand}{ats:Array TypeId}{ty t e:TypeId}{pp:String}{af:Ae_}{g:On_}{p q:Ph}
theorem KD(T:Av_)(ds:Ld_):(⟨T,ds⟩:Act).eval=BB T:=funext λx=>EF T ds x
theorem Wt{X:GP}{fn:Func}{c:Code}{vs:Lv_}{caps:Av_}{args:Av_}(O:P.funcs[f]? =some fn)(Z:(fn.name== "runtime.NumGoroutine")=false)(hb:fn.body=some c)(ac:args++caps=vs.toArray)(ap:vs.length<=fn.ntmps)
  (h:JL (AW P false) X (baseD f) fn.ntmps (Ga 0 vs) [] [.code c] [K6 P] s):Way P false X (born P {target:= .fn (.func f) caps,args:=args}) s:=by
 have ag:¬fn.name= "runtime.NumGoroutine" :=by simpa using Z
 refine Judge.Dh (J:=AW P false) rfl (λw=>?_) (h (vs.toArray++Array.replicate (fn.ntmps - vs.length) undef) ⟨by simp;omega,λt v al=>?_⟩)
 ·show stepG P false _ w=_;have U:=enter_atD (P:=P) vs.toArray O hb;rw [BM (b:=baseD f) rfl];simp only [List.size_toArray] at U;simp [G,born,stepG,unwind,callDeferred,invoke,callFunc,O,ag,hb,GStep.after,seen_none,ac,K6,U]
 ·obtain⟨_,K⟩:=Jj al;have am:t<vs.length:=by
   rcases Nat.lt_or_ge t vs.length with Y | Y
   ·exact Y
   ·simp at K;have:=(List.getElem?_eq_some_iff.1 K).1;omega
  rw [Array.getD_eq_getD_getElem?,Array.getElem?_append_left (by simpa using am)];simp at K;simp [K]
theorem Zc{T:Av_}{args:Array Operand}{K:Go.Fn}{fi O:Av_}{as:Lv_}(U:Has n L T)(Y:ev L x=some (.func K fi O))(Z:evs L args.toList=some as):
  execOp (BB T) ⟨d,.go ⟨.value x,args,ats⟩,ty,pp,af,g⟩= .pure (.spawn {target:= .fn K O,args:=fi++as.toArray}):=by
 have ac:args.map (BB T)=as.toArray:=by
  rw [← Gn U.F0 Z];apply Array.ext';simp
 simp only [execOp,resolve,bind,Sem.bind,Deferred.ofValue,U.ev Y,pure,ac]
theorem Yx{j:Nat}{args:Array Operand}{fi U:Av_}{as:Lv_}{Y:FuncId}(ag:s.q=false)(al:ops[i]? =some ⟨d,.go ⟨.value x,args,ats⟩,ty,pp,af,g⟩)(Z:b.roundOf=none)(hw:AL L ops ⟨d,.go ⟨.value x,args,ats⟩,ty,pp,af,g⟩=some true)(K:((b.kind != .early)&&Bf n d)=true)
  (am:ev L x=some (.func (.func Y) fi U)) (ap:evs L args.toList=some as)
  (aq:Way P false (Stop P F (F.start j)) (born P {target:= .fn (.func Y) U,args:=fi++as.toArray}) ⟨s.E,λ_=>none,false⟩)
  (aw:JL (AW P true) (Stop P F (F.EC j)) b n (Av L d undef) ds (.inRegion ops rest::k) cs s):
  JL (AW P true) (Stop P F (.FO j)) b n L ds (.inRegion ops (i::rest)::k) cs s:=λT O=>by
 simp only [Bool.and_eq_true] at K
 have ac:=Zc (d:=d) (ats:=ats) (ty:=ty) (pp:=pp) (af:=af) (g:=g) O am ap
 refine(AW P _).stop (GW.stop {
  run:=rfl,offers:=rfl,quiet:=(by simp [Fam.CO]),live:=λ_=>ag,act:=(by simp [Fam.act]),II:=(by simp),EZ:=(by simp),go:=λay e=>?_,lk:=(by simp),Cz:=(by simp),store:=(by simp),fin:=(by simp)})
 cases e
 refine⟨G (fr b (CM T d undef) ds (.inRegion ops rest::k)) cs,_,rfl,rfl,λw=>?_,aq,aw _ (O.put K.2 _)⟩
 rw [BM Z,BM Z,stepG_spawn (a:=⟨T,ds⟩) (w':=w) al (B6 O hw) (by simpa using K.1) (by rw [KD,ac];rfl) rfl,listed_none (by rw [KD,ac];simp [Sem.events_pure']),Eg]
theorem JO.SO{j:Nat}(Y:s.q=false)(K:b.roundOf=none)(he:B5 P f (λ_=>do mark .enable;pure Extern.Race.none_))
  (h:JO (AW P true) (Stop P F (.FO j)) b n L ds cs s):JO (AW P true) (Stop P F (.GX j)) b n L (dcall f #[]::ds) cs s:=λT Z todo=>by
 obtain⟨fn,ac,ag,hb,al,he⟩:=he.h
 refine(AW P _).stop (Iy rfl rfl rfl Y (by simp) λv wt sm v' wt' sm' es ap O=>?_)
 simp only [Fam.act] at O
 cases O
 refine⟨G (Eo b T ds todo) cs,λw am=>?_,rfl,h T Z todo⟩
 rw [KI K,KI K,KG am]
 exact stepG_unwind_entry (a:=⟨T,dcall f #[]::ds⟩) (v:= .tuple #[]) (evs:= #[Fam.CJ .enable]) rfl ac ag hb al he (by simp [Extern.Race.none_]) (by simp;rfl) (by
  intro x U
  simp at U
  subst U
  exact⟨rfl,λg h=>by cases h⟩)
theorem JO.MS(K:b.roundOf=none)(he:B5 P f (λ_=>do mark .enable;pure Extern.Race.none_))
  (h:JO (HY P) (IF P 0) b n L ds cs .quiet):JO (HY P) (IF P 1) b n L (dcall f #[]::ds) cs .quiet:=λT U todo=>by
 obtain⟨fn,Y,Z,hb,ac,he⟩:=he.h
 refine(HY P).stop ?_
 obtain⟨q,O⟩:=Om (h T U todo)
 rw [KI K] at O
 rw [KI K]
 exact⟨q+1,QuitsD.unwind_mark (a:=⟨T,dcall f #[]::ds⟩) .enable rfl (by simp) rfl Y Z hb ac he O⟩
end
end Pal
namespace Pal
open Go Go.Conc
def T2:BinOp->Int->Int->Option Bool
 | .lss,m,m'=>some (decide (m<m'))
 | .leq,m,m'=>some (decide (m<=m'))
 | .gtr,m,m'=>some (decide (m'<m))
 | .geq,m,m'=>some (decide (m'<=m))
 | .eql,m,m'=>some (decide (m=m'))
 | .neq,m,m'=>some (decide (m≠m'))
 | _,_,_=>none
def Ki(L:Env):Op->Option Value
 | .move x=>ev L x
 | .assign x=>ev L x
 | .pick z x y=>match ev L z with
  | some (.bool true)=>ev L x
  | some (.bool false)=>ev L y
  | _=>none
 | .extract x i=>match ev L x with
  | some (.tuple vs)=>vs[i]?
  | _=>none
 | .nilCheck x=>match ev L x with
  | some (.pointer (some a))=>some (.pointer (some a))
  | _=>none
 | .binOp op _ x y _=>match ev L x with
  | some (.int kd m)=>match ev L y with
   | some (.int kd' m')=>if kd=kd' then(match T2 op m m' with | some t=>some (.bool t) | none=>none) else none
   | _=>none
  | _=>none
 | _=>none
theorem Xa{P:Program}{s:St}{ρ:Operand->Value}{d:Option Tmp}{x y:Operand}{t u ty:TypeId}{p:String}{af:Ae_}{g:On_}{kd:IntKind}{m m':Int}(K:ρ x= .int kd m)(O:ρ y= .int kd m'):Yl P ⟨d,.binOp .neq t x y u,ty,p,af,g⟩ ρ s (.bool (decide (m≠m'))):=by
 have h:=Yl.neq (P:=P) (s:=s) (d:=d) (t:=t) (u:=u) (ty:=ty) (p:=p) (af:=af) (g:=g) K O;simpa using h
theorem M1{P:Program}{L:Env}{ρ:Operand->Value}{s:St}{o:Oper}{v:Value}(K:EP L ρ)(h:Ki L o.op=some v):Yl P o ρ s v:=by
 obtain⟨d,op,ty,p,af,g⟩:=o;simp only at h;unfold Ki at h;split at h
 ·exact Yl.move (K _ _ h)
 ·exact Yl.assign (K _ _ h)
 ·split at h
  ·rename_i e;exact Lw (K _ _ e) (K _ _ h)
  ·rename_i e;exact Vl (K _ _ e) (K _ _ h)
  ·cases h
 ·split at h
  ·rename_i e;exact Yl.extract (K _ _ e) h
  ·cases h
 ·split at h
  ·rename_i e;cases h;exact Yl.nilCheck (K _ _ e)
  ·cases h
 ·split at h
  ·rename_i O;split at h
   ·rename_i U;split at h
    ·rename_i e;subst e;split at h
     ·rename_i e;cases h;unfold T2 at e;split at e
      ·cases e;exact Yl.lss (K _ _ O) (K _ _ U)
      ·cases e;exact Yl.leq (K _ _ O) (K _ _ U)
      ·cases e;exact Yl.gtr (K _ _ O) (K _ _ U)
      ·cases e;exact Yl.geq (K _ _ O) (K _ _ U)
      ·cases e;exact Yl.eql (K _ _ O) (K _ _ U)
      ·cases e;exact Xa (K _ _ O) (K _ _ U)
      ·cases e
     ·cases h
    ·cases h
   ·cases h
  ·cases h
 ·cases h
def I9:List Oper->Nat->Option Oper
 | [],_=>none
 | o::_,0=>some o
 | _::os,i+1=>I9 os i
theorem KU:∀(os:List Oper) (i:Nat),I9 os i=os[i]?
 | [],i=>by simp [I9]
 | _::_,0=>rfl
 | _::os,i+1=>by simp [I9,KU os i]
def PR(b:Frame)(n:Nat)(L:Env):Li_->Option (Li_×Env)
 | .code (.seq x y)::k=>some (.code x:: .code y::k,L)
 | .code (.block i c)::k=>some (.code c:: .inBlock i::k,L)
 | .code (.scope c)::k=>some (.code c:: .inScope c::k,L)
 | .code .skip::k=>some (k,L)
 | .code (.exit i)::k=>match exitTo i k with
  | some k'=>some (k',L)
  | none=>none
 | .code (.cond c x y)::k=>match ev L c with
  | some (.bool true)=>some (.code x::k,L)
  | some (.bool false)=>some (.code y::k,L)
  | _=>none
 | .code (.region _ ops false)::k=>some (.inRegion ops (List.range ops.size)::k,L)
 | .inBlock _::k=>some (k,L)
 | .inScope _::k=>some (k,L)
 | .inRegion _ []::k=>some (k,L)
 | .inRegion ops (i::rest)::k=>match I9 ops.toList i with
  | some ⟨d,op,ty,p,af,g⟩=>match AL L ops ⟨d,op,ty,p,af,g⟩ with
   | some true=>match BL b n ⟨d,op,ty,p,af,g⟩ with
    | true=>match Ki L op with
     | some v=>match d with
      | some d=>some (.inRegion ops rest::k,(d,v)::L)
      | none=>some (.inRegion ops rest::k,L)
     | none=>none
    | false=>none
   | some false=>match Bf n d with
    | true=>match d with
     | some d=>some (.inRegion ops rest::k,(d,undef)::L)
     | none=>some (.inRegion ops rest::k,L)
    | false=>none
   | none=>none
  | none=>none
 | _=>none
def No(b:Frame)(n:Nat):Nat->Li_->Env->Option (Li_×Env)
 | 0,k,L=>some (k,L)
 | m+1,k,L=>match PR b n L k with
  | some (k',L')=>No b n m k' L'
  | none=>none
section
variable {P:Program}{J:Judge P}{Q:Gs_}{b:Frame}{n:Nat}{L L':Env}{ds:Ld_}{k k':Li_}{cs:Lf_}{s:St}
theorem Zw(h:PR b n L k=some (k',L'))(K:JL J Q b n L' ds k' cs s):JL J Q b n L ds k cs s:=by
 unfold PR at h;split at h
 ·cases h;exact JL.seq K
 ·cases h;exact JL.block K
 ·cases h;exact JL.scope K
 ·cases h;exact JL.skip K
 ·split at h
  ·rename_i e;cases h;exact JL.exit e K
  ·cases h
 ·split at h
  ·rename_i e;cases h;exact V5 e K
  ·rename_i e;cases h;exact V2 e K
  ·cases h
 ·cases h;exact JL.region K
 ·cases h;exact Lo K
 ·cases h;exact UB K
 ·cases h;exact JL.done K
 ·split at h
  ·rename_i d op ty p af g O;rw [KU,Array.getElem?_toList] at O;split at h
   ·rename_i hw;split at h
    ·rename_i U;split at h
     ·rename_i v Z;cases d with
      | none=>cases h;exact A5 O hw U (λρ Y=>M1 Y Z) K
      | some d=>cases h;exact A5 O hw U (λρ Y=>M1 Y Z) K
     ·cases h
    ·cases h
   ·rename_i hw;split at h
    ·rename_i U;cases d with
     | none=>cases h;exact Ie O hw U K
     | some d=>cases h;exact Ie O hw U K
    ·cases h
   ·cases h
  ·cases h
 ·cases h
theorem JL.go(m:Nat)(h:No b n m k L=some (k',L'))(K:JL J Q b n L' ds k' cs s):JL J Q b n L ds k cs s:=by
 induction m generalizing k L with
 | zero=>cases h;exact K
 | succ m O=>
  unfold No at h;split at h
  ·rename_i e;exact Zw e (O h)
  ·cases h
end
abbrev Aj(a o:Nat):Value:= .pointer (some ⟨a,o,none⟩)
abbrev sV{α:Type}(a:Option Addr)(l:List α)(c:Nat):Value:= .slice a l.length c
abbrev fV(n:Nat):Value:= .func (.func n) #[] #[]
abbrev nS:Value:= .slice none 0 0
abbrev AX(r:Nat):Option Addr:=some ⟨r,0,none⟩
end Pal
namespace Pal
open Go Go.Conc Go.Conc.Lib
open Go.ConcR.Gen
theorem F8{P:Program}{t:TypeId}{n:Nat}(h:∀w,Sem.run P (Go.sizeOf t) w= .ok n w):Bl P t=some n:=by
 have K:=h default;unfold Bl;simp only [Go.sizeOf,typeInfo,bind,Sem.bind,program,Sem.run] at K;cases hi:P.info? t with
 | none=>rw [hi] at K;simp [stuck,Sem.run,Sem.bind] at K
 | some i=>
  rw [hi] at K;simp [pure,Sem.bind,Sem.run] at K;simp [K]
section
variable {P:Program}{L:WgLink}(H:WgLib P L)
include H
theorem Mp:B5 P L.disable (λ_=>do mark .disable;pure Extern.Race.none_):=⟨⟨_,H.f_disable,x_disable_n L,x_disable_b L,x_disable_x L,x_disable_f L⟩⟩
theorem IU:B5 P L.enable (λ_=>do mark .enable;pure Extern.Race.none_):=⟨⟨_,H.f_enable,x_enable_n L,x_enable_b L,x_enable_x L,x_enable_f L⟩⟩
theorem Qp:B5 P L.relMerge (Extern.Race.marked .releaseMerge):=⟨⟨_,H.f_relMerge,x_relMerge_n L,x_relMerge_b L,x_relMerge_x L,x_relMerge_f L⟩⟩
theorem Oo:B5 P L.acquire (Extern.Race.marked .acquire):=⟨⟨_,H.f_acquire,x_acquire_n L,x_acquire_b L,x_acquire_x L,x_acquire_f L⟩⟩
theorem W2:B5 P L.raceRead (Extern.Race.marked .read):=⟨⟨_,H.f_raceRead,x_raceRead_n L,x_raceRead_b L,x_raceRead_x L,x_raceRead_f L⟩⟩
theorem VQ:B5 P L.raceWrite (Extern.Race.marked .write):=⟨⟨_,H.f_raceWrite,x_raceWrite_n L,x_raceWrite_b L,x_raceWrite_x L,x_raceWrite_f L⟩⟩
theorem RS:B5 P L.addU64 (Extern.Atomic.update (Op.intArith .add) .u64 true):=⟨⟨_,H.f_addU64,x_addU64_n L,x_addU64_b L,x_addU64_x L,x_addU64_f L⟩⟩
theorem Wy:B5 P L.loadU64 (Extern.Atomic.loadT (.int .u64)):=⟨⟨_,H.f_loadU64,x_loadU64_n L,x_loadU64_b L,x_loadU64_x L,x_loadU64_f L⟩⟩
theorem Vo:B5 P L.storeU64 Extern.Atomic.storeT:=⟨⟨_,H.f_storeU64,x_storeU64_n L,x_storeU64_b L,x_storeU64_x L,x_storeU64_f L⟩⟩
theorem Xr:B5 P L.casU64 (Extern.Atomic.casT (.int .u64)):=⟨⟨_,H.f_casU64,x_casU64_n L,x_casU64_b L,x_casU64_x L,x_casU64_f L⟩⟩
theorem Vf:B5 P L.semrelease Extern.Sync.semrelease:=⟨⟨_,H.f_semrelease,x_semrelease_n L,x_semrelease_b L,x_semrelease_x L,x_semrelease_f L⟩⟩
theorem UA:B5 P L.semacquire Extern.Sync.semacquire:=⟨⟨_,H.f_semacquire,x_semacquire_n L,x_semacquire_b L,x_semacquire_x L,x_semacquire_f L⟩⟩
theorem QA:B5 P L.inBubble (λ_=>pure (.bool false)):=⟨⟨_,H.f_inBubble,x_inBubble_n L,x_inBubble_b L,x_inBubble_x L,x_inBubble_f L⟩⟩
end
section
variable {P:Program}{F:Fam}{J:Judge P}{Q:GP}{n:Nat}{L L':Env}{ds:Ld_}{k:Li_}{cs:Lf_}{s s':St}{b:Frame}{main:Bool}
variable {ops:Ao_}{i:Nat}{rest:List Nat}{d:Option Tmp}{f:FuncId}{x y z:Operand}{ats:Array TypeId}{ty t u e tw:TypeId}{pp:String}{af:Ae_}{g:On_}{p q:Ph}
theorem Yl.to{o:Oper}{ρ:Operand->Value}{v v':Value}(h:Yl P o ρ s v)(e:v=v'):Yl P o ρ s v':=e▸h
theorem LD{ad:Addr}(aw:KQ p=true)(ay:if Fam.CO p=true then s= .quiet else s.q=false)(az:p≠ .Fi)(a0:∀v wt sm,F.act p v wt sm=some ((v,wt,sm),#[],.ph q))(a1:Fam.Jc p s=s)
  (a2:ops[i]? =some ⟨d,.convert t u x,ty,pp,af,g⟩) (U:b.roundOf=none) (hw:AL L ops ⟨d,.convert t u x,ty,pp,af,g⟩=some true) (K:((b.kind != .early)&&Bf n d)=true)
  (Y:P.underlying t=some (.pointer tw)) (hu:P.underlying u=some .unsafePointer) (Z:(P.info? tw).map (λi=>decide (i.size=0))=some false) (a3:ev L x=some (.pointer (some ad))) (hb:ad=F.sA∨ad=F.mA)
  (h:JL (AW P (Fam.CF p)) (Stop P F q) b n (Av L d (.pointer (some ad))) ds (.inRegion ops rest::k) cs s):
  JL (AW P (Fam.CF p)) (Stop P F p) b n L ds (.inRegion ops (i::rest)::k) cs s:=λT O=>by
 simp only [Bool.and_eq_true] at K
 refine(AW P _).stop (Iy aw rfl rfl ay (λe=>absurd e az) λv wt sm v' wt' sm' es a5 ac=>?_)
 rw [a0] at ac;cases ac
 refine⟨_,λw ag=>?_,rfl,by rw [a1];exact h _ (O.put K.2 _)⟩
 obtain⟨al,am⟩:∃al,w.cell? ad=some al:=by
  obtain⟨c1,c2,_,_⟩:=Iz ag;rcases hb with e | e <;> rw [e]
  ·exact⟨_,c1⟩
  ·exact⟨_,c2⟩
 have ap:=run_convert_to_unsafe (P:=P) (w:=w) Y hu Z am;have a4:=events_convert_to_unsafe (P:=P) (w:=w) Y hu Z am;have aq:execOp (⟨T,ds⟩:Act).eval ⟨d,.convert t u x,ty,pp,af,g⟩=(do pure (Next.value (← Go.convert t u (.pointer (some ad))))):=by
  rw [KD];simp only [execOp,O.ev a3]
 rw [BM U,BM U,stepG_value (a:=⟨T,ds⟩) (v:= .pointer (some ad)) (w':=w) a2 (B6 O hw) (by simpa using K.1) (by rw [aq];simp [ap,Result.andThen]),KG ag,Eg];have e2:listed P b.fn ⟨T,ds⟩ ⟨d,.convert t u x,ty,pp,af,g⟩ w= #[]:=by
  unfold listed;rw [aq];simp [ap,a4,Result.evThen,seen_none]
 rw [e2]
end
end Pal
namespace Pal
open Go Go.Conc Go.Conc.Lib
open Go.ConcR.Gen
section
variable {P:Program}{F:Fam}{J:Judge P}{Q:GP}{n:Nat}{L L':Env}{ds:Ld_}{k:Li_}{cs:Lf_}{s s':St}{b:Frame}{main:Bool}
variable {ops:Ao_}{i:Nat}{rest:List Nat}{d:Option Tmp}{f:FuncId}{x y z:Operand}{args:Array Operand}{ats:Array TypeId}{ty t u e tw:TypeId}{pp:String}{af:Ae_}{g:On_}{p q:Ph}{vs:Lv_}
def aU(P:Program)(b:Frame)(n:Nat)(L:Env)(d:Option Tmp)(ds:Ld_)(todo:Li_)(cs:Lf_)(U:Frame):Prop:=
 ∀(K:Judge P) (O:GP) (v:Value) (s':St),JL K O b n (Av L d v) ds todo cs s'->K.ok O (G (U.finish v) cs) s'
theorem G4{fn:Func}{c:Code}(Y:ops[i]? =some ⟨d,.call ⟨.value (.func f),args,ats⟩,ty,pp,af,g⟩)(hw:AL L ops ⟨d,.call ⟨.value (.func f),args,ats⟩,ty,pp,af,g⟩=some true)(O:((b.kind != .early)&&Bf n d)=true)
  (Z:P.funcs[f]? =some fn) (al:(fn.name== "runtime.NumGoroutine")=false) (hb:fn.body=some c) (am:evs L args.toList=some vs) (a1:vs.length<=fn.ntmps)
  (h:∀ac:Frame,aU P b n L d ds (.inRegion ops rest::k) cs ac->JL J Q (base f) fn.ntmps (Ga 0 vs) [] [.code c] (ac::cs) s):
  JL J Q b n L ds (.inRegion ops (i::rest)::k) cs s:=λT U=>by
 simp only [Bool.and_eq_true] at O
 have ap:args.map (BB T)=vs.toArray:=by
  rw [← Gn U.F0 am];apply Array.ext';simp
 refine Judge.oper Y (B6 U hw) (by simpa using O.1) (.inr λc aq=>by cases aq) ?_;have aw:DO P f=true:=by unfold DO;rw [Z];simp [al,hb]
 have hd:lp P (execOp (BB T) ⟨d,.call ⟨.value (.func f),args,ats⟩,ty,pp,af,g⟩) s (upon J Q b T ds ops i rest k cs d) (K2 J Q b T ds ops i rest k cs):=by
  simp only [execOp,resolve,bind,Sem.bind,Deferred.ofValue,BB,pure,invoke];have e: #[]++args.map (BB T)++ #[]=vs.toArray:=by rw [ap];simp
  rw [e];refine IT aw ?_;have he:Frame.enter P f vs.toArray .normal=fr (base f) (vs.toArray++Array.replicate (fn.ntmps - vs.length) undef) [] [.code c]:=by
   simp [Frame.enter,fr,Z,hb,base];rfl
  show J.ok Q (G (Frame.enter P f vs.toArray .normal) _) s;rw [he];refine h _ (λa2 a3 v s' ay=>?_) _ ⟨by simp;omega,λt v az=>?_⟩
  ·rw [Gm (o:=⟨d,.call ⟨.value (.func f),args,ats⟩,ty,pp,af,g⟩) _ _ _ _ _ Y];exact ay _ (U.put O.2 v)
  ·obtain⟨_,K⟩:=Jj az;have a0:t<vs.length:=by
    rcases Nat.lt_or_ge t vs.length with ag | ag
    ·exact ag
    ·simp at K;have:=(List.getElem?_eq_some_iff.1 K).1;omega
   rw [Array.getD_eq_getD_getElem?,Array.getElem?_append_left (by simpa using a0)];simp at K;simp [K]
 exact hd
theorem Yl.ext{e:Av_->Sem Value}{v:Value}{ρ:Operand->Value}(he:B5 P f e)(O:args.map ρ=vs.toArray)(h:e vs.toArray= .pure v):Yl P ⟨d,.call ⟨.value (.func f),args,ats⟩,ty,pp,af,g⟩ ρ s v∨ρ (.func f)≠ .func (.func f) #[] #[]:=by
 by_cases K:ρ (.func f)= .func (.func f) #[] #[]
 ·left;obtain⟨fn,U,Y,Z,ac,ag⟩:=he.h;unfold Yl;simp only [execOp,resolve,bind,Sem.bind,Deferred.ofValue,K,pure,invoke];have al: #[]++args.map ρ++ #[]=vs.toArray:=by rw [O];simp
  rw [al];have am:fn.body=none:=by simpa using Z
  simp only [callFunc,bind,Sem.bind,program,lp,U,Y,am,Option.isNone_none,Bool.false_eq_true,if_false,if_true,mark,ac,ag,h,pure];exact⟨.inr ⟨f,rfl⟩,trivial,trivial⟩
 ·exact .inr K
theorem JL.ext{e:Av_->Sem Value}{v:Value}(O:ops[i]? =some ⟨d,.call ⟨.value (.func f),args,ats⟩,ty,pp,af,g⟩)(hw:AL L ops ⟨d,.call ⟨.value (.func f),args,ats⟩,ty,pp,af,g⟩=some true)(U:BL b n ⟨d,.call ⟨.value (.func f),args,ats⟩,ty,pp,af,g⟩=true)
  (he:B5 P f e) (Y:evs L args.toList=some vs) (Z:e vs.toArray= .pure v) (h:JL J Q b n (Av L d v) ds (.inRegion ops rest::k) cs s):JL J Q b n L ds (.inRegion ops (i::rest)::k) cs s:=
 A5 O hw U (λρ K=>by
  have ac:args.map ρ=vs.toArray:=by
   rw [← Gn K Y]
   apply Array.ext';simp
  rcases Yl.ext (s:=s) (d:=d) (ats:=ats) (ty:=ty) (pp:=pp) (af:=af) (g:=g) he ac Z with q | q
  ·exact q
  ·exact absurd (K (.func f) _ rfl) q) h
end
section
variable {P:Program}{L:WgLink}(H:WgLib P L){F:Fam}{n:Nat}{M:Env}{ds:Ld_}{k:Li_}{cs:Lf_}{s:St}{b:Frame}
variable {ops:Ao_}{i:Nat}{rest:List Nat}{d:Option Tmp}{x y z:Operand}{ats:Array TypeId}{ty:TypeId}{pp:String}{af:Ae_}{g:On_}{p q:Ph}
include H
theorem Wp(K:ops[i]? =some ⟨d,.call ⟨.value (.func L.uAdd),#[x,y],ats⟩,ty,pp,af,g⟩)(hw:AL M ops ⟨d,.call ⟨.value (.func L.uAdd),#[x,y],ats⟩,ty,pp,af,g⟩=some true)(O:((b.kind != .early)&&Bf n d)=true)
  (U:ev M x=some (.pointer (some F.sA))) (Y:ev M y=some (.int .u64 18446744069414584320))
  (Z:JL (AW P false) (Stop P F .GM) b n (Av M d (.int .u64 (Fam.word 0 1))) ds (.inRegion ops rest::k) cs .quiet)
  (ac:∀v wt:Nat,v<2147483647->wt<=1->¬(v=0/\wt=1)->JL (HY P) (IF P 1) b n (Av M d (.int .u64 (Fam.word v wt))) ds (.inRegion ops rest::k) cs .quiet):
  JL (AW P false) (Stop P F .Hc) b n M ds (.inRegion ops (i::rest)::k) cs .quiet:=by
 refine G4 (vs:= [.pointer (some F.sA),.int .u64 18446744069414584320]) K hw O H.f_uAdd (nm_uAdd L) rfl (by simp [evs,U,Y]) (Nat.le_of_ble_eq_true rfl) λap back=>JL.go 8 rfl (A5 rfl rfl rfl (λρ h=>Yl.fieldAddr H.underlying_tAU rfl (F8 H.sizeOf_tU64) (h _ _ rfl)) ?_);refine JL.go 1 rfl (Xk rfl rfl rfl rfl (RS H) rfl rfl ?_ λv wt ag al am=>?_)
 ·refine A5 rfl rfl rfl (λρ h=>Yl.assign (h _ _ rfl)) (JL.done ?_);exact JL.ret rfl rfl (Bz.one H.f_uAdd rfl rfl) (back _ _ _ _ Z)
 ·refine A5 rfl rfl rfl (λρ h=>Yl.assign (h _ _ rfl)) (JL.done ?_);exact JL.ret rfl rfl (Bz.one H.f_uAdd rfl rfl) (back _ _ _ _ (ac v wt ag al am))
theorem Wq{j:Nat}(K:s.q=false)(O:ops[i]? =some ⟨d,.call ⟨.value (.func L.uAdd),#[x,y],ats⟩,ty,pp,af,g⟩)(hw:AL M ops ⟨d,.call ⟨.value (.func L.uAdd),#[x,y],ats⟩,ty,pp,af,g⟩=some true)(U:((b.kind != .early)&&Bf n d)=true)
  (Y:ev M x=some (.pointer (some F.sA))) (Z:ev M y=some (.int .u64 4294967296))
  (ac:JL (AW P true) (Stop P F (.Ip j)) b n (Av M d (.int .u64 (Fam.word 1 0))) ds (.inRegion ops rest::k) cs s)
  (ag:∀v:Nat,1<=v->v<2147483647->JL (AW P true) (Stop P F (.GX j)) b n (Av M d (.int .u64 (Fam.word (v+1) 0))) ds (.inRegion ops rest::k) cs s):
  JL (AW P true) (Stop P F (.Ii j)) b n M ds (.inRegion ops (i::rest)::k) cs s:=by
 refine G4 (vs:= [.pointer (some F.sA),.int .u64 4294967296]) O hw U H.f_uAdd (nm_uAdd L) rfl (by simp [evs,Y,Z]) (Nat.le_of_ble_eq_true rfl) λap back=>JL.go 8 rfl (A5 rfl rfl rfl (λρ h=>Yl.fieldAddr H.underlying_tAU rfl (F8 H.sizeOf_tU64) (h _ _ rfl)) ?_);refine JL.go 1 rfl (Xi K rfl rfl rfl rfl (RS H) rfl rfl ?_ λv al am=>?_)
 ·refine A5 rfl rfl rfl (λρ h=>Yl.assign (h _ _ rfl)) (JL.done ?_);exact JL.ret rfl rfl (Bz.one H.f_uAdd rfl rfl) (back _ _ _ _ ac)
 ·refine A5 rfl rfl rfl (λρ h=>Yl.assign (h _ _ rfl)) (JL.done ?_);exact JL.ret rfl rfl (Bz.one H.f_uAdd rfl rfl) (back _ _ _ _ (ag v al am))
theorem JL.uLoad(K:KQ p=true)(O:if Fam.CO p=true then s= .quiet else s.q=false)(U:p≠ .Fi)(Y:Fam.Jc p s=s)(Z:∀v wt sm r,F.act p v wt sm=some r->r.1=(v,wt,sm)/\r.2.1= #[Fam.Cf F.sA])(ac:ops[i]? =some ⟨d,.call ⟨.value (.func L.uLoad),#[x],ats⟩,ty,pp,af,g⟩)(hw:AL M ops ⟨d,.call ⟨.value (.func L.uLoad),#[x],ats⟩,ty,pp,af,g⟩=some true)(ag:((b.kind != .early)&&Bf n d)=true)
  (al:ev M x=some (.pointer (some F.sA)))
  (h:∀v wt sm r,F.act p v wt sm=some r->∃q,r.2.2= .ph q/\JL (AW P (Fam.CF p)) (Stop P F q) b n (Av M d (.int .u64 (Fam.word v wt))) ds (.inRegion ops rest::k) cs s):
  JL (AW P (Fam.CF p)) (Stop P F p) b n M ds (.inRegion ops (i::rest)::k) cs s:=by
 refine G4 (vs:= [.pointer (some F.sA)]) ac hw ag H.f_uLoad (nm_uLoad L) rfl (by simp [evs,al]) (Nat.le_of_ble_eq_true rfl) λaw back=>JL.go 8 rfl (A5 rfl rfl rfl (λρ h=>Yl.fieldAddr H.underlying_tAU rfl (F8 H.sizeOf_tU64) (h _ _ rfl)) ?_);refine YT K O U Y Z rfl rfl rfl rfl (Wy H) rfl λv wt sm r am=>?_;obtain⟨q,ap,aq⟩:=h v wt sm r am;refine⟨q,ap,?_⟩
 ·refine A5 rfl rfl rfl (λρ h=>Yl.assign (h _ _ rfl)) (JL.done ?_);exact JL.ret rfl rfl (Bz.one H.f_uLoad rfl rfl) (back _ _ _ _ aq)
theorem JL.uStore(K:ops[i]? =some ⟨d,.call ⟨.value (.func L.uStore),#[x,y],ats⟩,ty,pp,af,g⟩)(hw:AL M ops ⟨d,.call ⟨.value (.func L.uStore),#[x,y],ats⟩,ty,pp,af,g⟩=some true)(O:((b.kind != .early)&&Bf n d)=true)
  (U:ev M x=some (.pointer (some F.sA))) (Y:ev M y=some (.int .u64 0))
  (h:JL (AW P false) (Stop P F .Fi) b n (Av M d (.tuple #[])) ds (.inRegion ops rest::k) cs .quiet):
  JL (AW P false) (Stop P F .G8) b n M ds (.inRegion ops (i::rest)::k) cs .quiet:=by
 refine G4 (vs:= [.pointer (some F.sA),.int .u64 0]) K hw O H.f_uStore (nm_uStore L) rfl (by simp [evs,U,Y]) (Nat.le_of_ble_eq_true rfl) λZ back=>JL.go 3 rfl (A5 rfl rfl rfl (λρ h=>Yl.fieldAddr H.underlying_tAU rfl (F8 H.sizeOf_tU64) (h _ _ rfl)) ?_);refine JL.go 1 rfl (YY rfl rfl rfl rfl (Vo H) rfl rfl ?_);exact JL.done (JL.fin rfl rfl (Bz.none H.f_uStore rfl) (back _ _ _ _ h))
theorem JL.uCas{m:Nat}(K:s.q=false)(O:ops[i]? =some ⟨d,.call ⟨.value (.func L.uCas),#[x,y,z],ats⟩,ty,pp,af,g⟩)(hw:AL M ops ⟨d,.call ⟨.value (.func L.uCas),#[x,y,z],ats⟩,ty,pp,af,g⟩=some true)(U:((b.kind != .early)&&Bf n d)=true)
  (Y:ev M x=some (.pointer (some F.sA))) (Z:ev M y=some (.int .u64 (Fam.word m 0))) (ac:ev M z=some (.int .u64 (Fam.word m 1)))
  (ag:JL (AW P true) (Stop P F .Io) b n (Av M d (.bool true)) ds (.inRegion ops rest::k) cs s)
  (al:JL (AW P true) (Stop P F (.FZ (m - 1))) b n (Av M d (.bool false)) ds (.inRegion ops rest::k) cs s):
  JL (AW P true) (Stop P F (.Hf m)) b n M ds (.inRegion ops (i::rest)::k) cs s:=by
 refine G4 (vs:= [.pointer (some F.sA),.int .u64 (Fam.word m 0),.int .u64 (Fam.word m 1)]) O hw U H.f_uCas (nm_uCas L) rfl (by simp [evs,Y,Z,ac]) (Nat.le_of_ble_eq_true rfl) λam back=>JL.go 8 rfl (A5 rfl rfl rfl (λρ h=>Yl.fieldAddr H.underlying_tAU rfl (F8 H.sizeOf_tU64) (h _ _ rfl)) ?_);refine JL.go 2 rfl (Yf (m:=m) K rfl rfl rfl rfl (Xr H) rfl rfl rfl ?_ ?_)
 ·refine A5 rfl rfl rfl (λρ h=>Yl.assign (h _ _ rfl)) (JL.done ?_);exact JL.ret rfl rfl (Bz.one H.f_uCas rfl rfl) (back _ _ _ _ ag)
 ·refine A5 rfl rfl rfl (λρ h=>Yl.assign (h _ _ rfl)) (JL.done ?_);exact JL.ret rfl rfl (Bz.one H.f_uCas rfl rfl) (back _ _ _ _ al)
end
end Pal
namespace Pal
open Go Go.Conc Go.Conc.Lib
open Go.ConcR.Gen
theorem KZ{v wt:Nat}(K:v<2147483648)(O:wt<=1):IntKind.u64.wrap (BitVec.ofInt IntKind.u64.bits (Fam.word v wt)&&& BitVec.ofInt IntKind.u64.bits 2147483648).toNat=0:=by
 have:=Go.ConcN.st_flag v wt K O;simpa [bits,Fam.word,Fam.KK] using this
theorem K7{v wt:Nat}(K:v<2147483648)(O:wt<=1):IntKind.u64.wrap (BitVec.ofInt IntKind.u64.bits (Fam.word v wt)&&& BitVec.ofInt IntKind.u64.bits 2147483647).toNat=(wt:Int):=by
 have:=Go.ConcN.st_waiters v wt K O;simpa [bits,Fam.word,Fam.KK] using this
theorem KJ{v wt:Nat}(K:wt<=1):(Fam.word v wt).fdiv (2 ^ (min (32:Int).toNat IntKind.u64.bits))=(v:Int):=by
 have e:(2:Int) ^ (min (32:Int).toNat IntKind.u64.bits)=4294967296:=by decide
 rw [e,Int.fdiv_eq_ediv_of_nonneg _ (by decide)];simp only [Fam.word,Fam.KK];omega
theorem wrap_i32{v:Nat}(K:v<2147483648):IntKind.i32.wrap (v:Int)=v:=by
 simp only [IntKind.wrap,IntKind.bits,IntKind.signed];simp;split <;> omega
theorem wrap_u32{v:Nat}(K:v<=1):IntKind.u32.wrap (v:Int)=v:=by
 simp only [IntKind.wrap,IntKind.bits,IntKind.signed];simp;omega
theorem Vj{F:Fam}:∀v wt sm r,F.act .GM v wt sm=some r->r.1=(v,wt,sm)/\r.2.1= #[Fam.Cf F.sA]:=by
 intro v wt sm r h;simp only [Fam.act] at h;split at h
 ·rename_i K;obtain⟨rfl,rfl⟩:=K;cases h;exact⟨rfl,rfl⟩
 ·cases h
theorem Wk{F:Fam}{v wt sm:Nat}{r}(h:F.act .GM v wt sm=some r):v=0/\wt=1/\r.2.2= .ph .G8:=by
 simp only [Fam.act] at h;split at h
 ·rename_i K;cases h;exact⟨K.1,K.2,rfl⟩
 ·cases h
section
variable {P:Program}{L:WgLink}(H:WgLib P L){F:Fam}{n:Nat}{M:Env}{ds:Ld_}{k:Li_}{cs:Lf_}{s:St}{b:Frame}
variable {ops:Ao_}{i:Nat}{rest:List Nat}{d:Option Tmp}{x y z:Operand}{ats:Array TypeId}{ty:TypeId}{pp:String}{af:Ae_}{g:On_}{p q:Ph}
include H
theorem VJ(U:s.q=false)(Y:ops[i]? =some ⟨d,.call ⟨.value (.func L.add),#[x,y],ats⟩,ty,pp,af,g⟩)(hw:AL M ops ⟨d,.call ⟨.value (.func L.add),#[x,y],ats⟩,ty,pp,af,g⟩=some true)(Z:((b.kind != .early)&&Bf n d)=true)
  (ac:ev M x=some (.pointer (some F.sA))) (ag:ev M y=some (.int .i64 (-1)))
  (h:JL (HY P) (IF P 0) b n (Av M d (.tuple #[])) ds (.inRegion ops rest::k) cs .quiet):
  JL (AW P false) (Stop P F .HI) b n M ds (.inRegion ops (i::rest)::k) cs s:=by
 refine G4 (vs:= [.pointer (some F.sA),.int .i64 (-1)]) Y hw Z H.f_add (nm_add L) rfl (by simp [evs,ac,ag]) (Nat.le_of_ble_eq_true rfl) λam back=>JL.go 11 rfl (LD (p:= .HI) (q:= .Gv) (ad:=F.sA) rfl U (by simp) (λ_ _ _=>rfl) rfl rfl rfl rfl rfl H.underlying_tWgP H.underlying_tUP H.room_tWg rfl (.inl rfl) ?_)
 refine OB (p:= .Gv) (q:= .IG) (mk:= .releaseMerge) (ad:=F.sA) (vs:= [.pointer (some F.sA)]) rfl U (by simp) (λ_ _ _=>rfl) rfl rfl rfl rfl (by simp) (Qp H) rfl rfl (JL.go 3 rfl ?_);refine Lx (p:= .IG) (q:= .Hc) rfl rfl (by simp) (λ_ _ _=>rfl) rfl rfl rfl rfl rfl (by simp) (Mp H) (JL.go 2 rfl ?_);refine JL.defer (vs:= []) rfl rfl rfl rfl rfl (JL.go 8 rfl ?_);refine JL.ext (vs:= []) rfl rfl rfl (QA H) rfl rfl (JL.go 7 rfl ?_);refine A5 rfl rfl rfl (λρ h=>Yl.fieldAddr H.underlying_tWg rfl (F8 H.sizeOf_tAU) (h _ _ rfl)) (JL.go 1 rfl ?_);refine A5 rfl rfl rfl (λρ h=>Ff H.underlying_t3 H.underlying_tU64 (h _ _ rfl)) ?_
 refine A5 (v:= .int .u64 18446744069414584320) rfl rfl rfl (λρ h=>(Yl.shl (h _ _ rfl) (h _ _ rfl) (by decide)).to (congrArg _ (by decide))) (Wp H rfl rfl rfl rfl rfl ?_ λv wt ap K aq=>?_)
 ·refine A5 rfl rfl rfl (λρ h=>Yl.assign (h _ _ rfl)) (JL.go 5 rfl ?_);refine A5 (v:= .int .u64 0) rfl rfl rfl (λρ h=>(Yl.and (h _ _ rfl) (h _ _ rfl)).to (congrArg _ (KZ (v:=0) (wt:=1) (by decide) (by decide)))) (A5 rfl rfl rfl (λρ h=>Yl.neq (h _ _ rfl) (h _ _ rfl)) ?_);refine JL.go 10 rfl (A5 (v:= .int .u64 (0:Nat)) rfl rfl rfl (λρ h=>(Yl.shr (h _ _ rfl) (h _ _ rfl) (by decide)).to (congrArg _ (KJ (v:=0) (wt:=1) (by decide)))) ?_);refine A5 (v:= .int .i32 (0:Nat)) rfl rfl rfl (λρ h=>(Ff H.underlying_tU64 H.underlying_t21 (h _ _ rfl)).to (congrArg _ (wrap_i32 (by decide)))) ?_
  refine JL.go 5 rfl (A5 (v:= .int .u64 (1:Nat)) rfl rfl rfl (λρ h=>(Yl.and (h _ _ rfl) (h _ _ rfl)).to (congrArg _ (K7 (v:=0) (wt:=1) (by decide) (by decide)))) ?_);refine A5 (v:= .int .u32 (1:Nat)) rfl rfl rfl (λρ h=>(Ff H.underlying_tU64 H.underlying_tU32 (h _ _ rfl)).to (congrArg _ (wrap_u32 (by decide)))) ?_
  refine JL.go 30 rfl (A5 rfl rfl rfl (λρ h=>Yl.neq (h _ _ rfl) (h _ _ rfl)) ?_);refine JL.go 30 rfl (A5 rfl rfl rfl (λρ h=>Yl.fieldAddr H.underlying_tWg rfl (F8 H.sizeOf_tAU) (h _ _ rfl)) ?_);refine JL.uLoad H (p:= .GM) rfl rfl (by simp) rfl Vj rfl rfl rfl rfl λv wt sm r al=>?_;obtain⟨rfl,rfl,e⟩:=Wk al;refine⟨.G8,e,?_⟩;refine JL.go 1 rfl (A5 (v:= .bool false) rfl rfl rfl (λρ h=>(Yl.neq (h _ _ rfl) (h _ _ rfl)).to (by simp)) ?_);refine JL.go 7 rfl (A5 rfl rfl rfl (λρ h=>Yl.fieldAddr H.underlying_tWg rfl (F8 H.sizeOf_tAU) (h _ _ rfl)) ?_);refine JL.uStore H rfl rfl rfl rfl rfl (JL.go 9 rfl ?_);refine Ix (JL.go 4 rfl ?_);refine A5 rfl rfl rfl (λρ h=>Yl.neq (h _ _ rfl) (h _ _ rfl)) (JL.go 8 rfl ?_);refine A5 rfl rfl rfl (λρ h=>Yl.fieldAddr H.underlying_tWg rfl (F8 H.sizeOf_tU32) (h _ _ rfl)) (Ww (vs:= [.pointer (some F.mA),.bool false,.int .i64 0]) rfl rfl rfl rfl (Vf H) rfl rfl ?_);refine JL.go 4 rfl (A5 (v:= .int .u32 ((0:Nat):Int)) rfl rfl rfl (λρ h=>(Yl.sub (h _ _ rfl) (h _ _ rfl)).to (congrArg _ (by decide))) ?_);refine JL.go 2 rfl (JL.again ?_);refine JL.go 4 rfl (A5 rfl rfl rfl (λρ h=>Yl.neq (h _ _ rfl) (h _ _ rfl)) ?_);refine JL.go 3 rfl (JL.out rfl (JO.MS rfl (IU H) (JO.leave rfl (Bz.none H.f_add rfl) (back _ _ _ _ h))))
 ·refine A5 rfl rfl rfl (λρ h=>Yl.assign (h _ _ rfl)) (JL.go 5 rfl ?_);refine A5 (v:= .int .u64 0) rfl rfl rfl (λρ h=>(Yl.and (h _ _ rfl) (h _ _ rfl)).to (congrArg _ (KZ (v:=v) (wt:=wt) (by omega) K))) (A5 rfl rfl rfl (λρ h=>Yl.neq (h _ _ rfl) (h _ _ rfl)) ?_);refine JL.go 10 rfl (A5 (v:= .int .u64 (v:Nat)) rfl rfl rfl (λρ h=>(Yl.shr (h _ _ rfl) (h _ _ rfl) (by decide)).to (congrArg _ (KJ (v:=v) (wt:=wt) K))) ?_);refine A5 (v:= .int .i32 (v:Nat)) rfl rfl rfl (λρ h=>(Ff H.underlying_tU64 H.underlying_t21 (h _ _ rfl)).to (congrArg _ (wrap_i32 (by omega)))) ?_
  refine JL.go 5 rfl (A5 (v:= .int .u64 (wt:Nat)) rfl rfl rfl (λρ h=>(Yl.and (h _ _ rfl) (h _ _ rfl)).to (congrArg _ (K7 (v:=v) (wt:=wt) (by omega) K))) ?_);refine A5 (v:= .int .u32 (wt:Nat)) rfl rfl rfl (λρ h=>(Ff H.underlying_tU64 H.underlying_tU32 (h _ _ rfl)).to (congrArg _ (wrap_u32 K))) ?_
  refine JL.go 22 rfl (A5 (v:= .bool false) rfl rfl rfl (λρ h=>(Yl.lss (h _ _ rfl) (h _ _ rfl)).to (by simp)) ?_);refine JL.go 6 rfl ?_;by_cases O:wt=0
  ·refine A5 rfl rfl rfl (λρ h=>Yl.move (h _ _ rfl)) (A5 (v:= .bool false) rfl rfl rfl (λρ h=>(Yl.neq (h _ _ rfl) (h _ _ rfl)).to (by simp [O])) ?_);refine JL.go 16 rfl ?_;by_cases aw:0<v
   ·refine A5 rfl rfl rfl (λρ h=>Yl.move (h _ _ rfl)) (A5 (v:= .bool true) rfl rfl rfl (λρ h=>(Yl.gtr (h _ _ rfl) (h _ _ rfl)).to (by simp <;> omega)) ?_);refine JL.go 6 rfl (HX rfl (JO.MS rfl (IU H) (JO.leave rfl (Bz.none H.f_add rfl) (back _ _ _ _ h))))
   ·refine A5 rfl rfl rfl (λρ h=>Yl.move (h _ _ rfl)) (A5 (v:= .bool false) rfl rfl rfl (λρ h=>(Yl.gtr (h _ _ rfl) (h _ _ rfl)).to (by simp <;> omega)) ?_);refine JL.go 2 rfl (A5 (v:= .bool true) rfl rfl rfl (λρ h=>(Yl.eql (h _ _ rfl) (h _ _ rfl)).to (by simp [O])) ?_);refine JL.go 3 rfl (HX rfl (JO.MS rfl (IU H) (JO.leave rfl (Bz.none H.f_add rfl) (back _ _ _ _ h))))
  ·refine A5 rfl rfl rfl (λρ h=>Yl.move (h _ _ rfl)) (A5 (v:= .bool true) rfl rfl rfl (λρ h=>(Yl.neq (h _ _ rfl) (h _ _ rfl)).to (by simp [O])) ?_);refine JL.go 17 rfl (A5 (v:= .bool true) rfl rfl rfl (λρ h=>(Yl.gtr (h _ _ rfl) (h _ _ rfl)).to (by simp <;> omega)) ?_);refine JL.go 6 rfl (HX rfl (JO.MS rfl (IU H) (JO.leave rfl (Bz.none H.f_add rfl) (back _ _ _ _ h))))
theorem VT{j:Nat}(K:s.q=false)(O:ops[i]? =some ⟨d,.call ⟨.value (.func L.add),#[x,y],ats⟩,ty,pp,af,g⟩)(hw:AL M ops ⟨d,.call ⟨.value (.func L.add),#[x,y],ats⟩,ty,pp,af,g⟩=some true)(U:((b.kind != .early)&&Bf n d)=true)
  (Y:ev M x=some (.pointer (some F.sA))) (Z:ev M y=some (.int .i64 1))
  (h:JL (AW P true) (Stop P F (.FO j)) b n (Av M d (.tuple #[])) ds (.inRegion ops rest::k) cs s):
  JL (AW P true) (Stop P F (.Gc j)) b n M ds (.inRegion ops (i::rest)::k) cs s:=by
 refine G4 (vs:= [.pointer (some F.sA),.int .i64 1]) O hw U H.f_add (nm_add L) rfl (by simp [evs,Y,Z]) (Nat.le_of_ble_eq_true rfl) λac back=>JL.go 12 rfl (Lx (p:= .Gc j) (q:= .Ii j) rfl K (by simp) (λ_ _ _=>rfl) rfl rfl rfl rfl rfl (by simp) (Mp H) ?_);refine JL.go 2 rfl (JL.defer (vs:= []) rfl rfl rfl rfl rfl ?_);refine JL.go 8 rfl (JL.ext (vs:= []) rfl rfl rfl (QA H) rfl rfl ?_);refine JL.go 7 rfl (A5 rfl rfl rfl (λρ h=>Yl.fieldAddr H.underlying_tWg rfl (F8 H.sizeOf_tAU) (h _ _ rfl)) ?_);refine JL.go 1 rfl (A5 rfl rfl rfl (λρ h=>Ff H.underlying_t3 H.underlying_tU64 (h _ _ rfl)) ?_)
 refine A5 (v:= .int .u64 4294967296) rfl rfl rfl (λρ h=>(Yl.shl (h _ _ rfl) (h _ _ rfl) (by decide)).to (congrArg _ (by decide))) (Wq H K rfl rfl rfl rfl rfl ?_ λv ag al=>?_)
 ·refine A5 rfl rfl rfl (λρ h=>Yl.assign (h _ _ rfl)) (JL.go 5 rfl ?_);refine A5 (v:= .int .u64 0) rfl rfl rfl (λρ h=>(Yl.and (h _ _ rfl) (h _ _ rfl)).to (congrArg _ (KZ (v:=1) (wt:=0) (by decide) (by decide)))) (A5 rfl rfl rfl (λρ h=>Yl.neq (h _ _ rfl) (h _ _ rfl)) ?_);refine JL.go 10 rfl (A5 (v:= .int .u64 (1:Nat)) rfl rfl rfl (λρ h=>(Yl.shr (h _ _ rfl) (h _ _ rfl) (by decide)).to (congrArg _ (KJ (v:=1) (wt:=0) (by decide)))) ?_);refine A5 (v:= .int .i32 (1:Nat)) rfl rfl rfl (λρ h=>(Ff H.underlying_tU64 H.underlying_t21 (h _ _ rfl)).to (congrArg _ (wrap_i32 (by decide)))) ?_
  refine JL.go 5 rfl (A5 (v:= .int .u64 (0:Nat)) rfl rfl rfl (λρ h=>(Yl.and (h _ _ rfl) (h _ _ rfl)).to (congrArg _ (K7 (v:=1) (wt:=0) (by decide) (by decide)))) ?_);refine A5 (v:= .int .u32 (0:Nat)) rfl rfl rfl (λρ h=>(Ff H.underlying_tU64 H.underlying_tU32 (h _ _ rfl)).to (congrArg _ (wrap_u32 (by decide)))) ?_
  refine JL.go 12 rfl (A5 (v:= .int .i32 1) rfl rfl rfl (λρ h=>(Ff H.underlying_t3 H.underlying_t21 (h _ _ rfl)).to (congrArg _ (by decide))) ?_)
  refine A5 (v:= .bool true) rfl rfl rfl (λρ h=>(Yl.eql (h _ _ rfl) (h _ _ rfl)).to (by simp)) (JL.go 6 rfl ?_);refine A5 rfl rfl rfl (λρ h=>Yl.fieldAddr H.underlying_tWg rfl (F8 H.sizeOf_tU32) (h _ _ rfl)) (LD (p:= .Ip j) (q:= .HB j) (ad:=F.mA) rfl K (by simp) (λ_ _ _=>rfl) rfl rfl rfl rfl rfl H.underlying_tPU32 H.underlying_tUP H.room_tU32 rfl (.inr rfl) ?_)
  refine OB (p:= .HB j) (q:= .GX j) (mk:= .read) (ad:=F.mA) (vs:= [.pointer (some F.mA)]) rfl K (by simp) (λ_ _ _=>rfl) rfl rfl rfl rfl (by simp) (W2 H) rfl rfl (JL.go 5 rfl ?_);refine A5 (v:= .bool false) rfl rfl rfl (λρ h=>(Yl.lss (h _ _ rfl) (h _ _ rfl)).to (by simp)) (JL.go 7 rfl ?_);refine A5 (v:= .bool false) rfl rfl rfl (λρ h=>(Yl.neq (h _ _ rfl) (h _ _ rfl)).to (by simp)) (JL.go 17 rfl ?_);refine A5 (v:= .bool true) rfl rfl rfl (λρ h=>(Yl.gtr (h _ _ rfl) (h _ _ rfl)).to (by simp)) (JL.go 6 rfl ?_);exact HX rfl (JO.SO K rfl (IU H) (JO.leave rfl (Bz.none H.f_add rfl) (back _ _ _ _ h)))
 ·refine A5 rfl rfl rfl (λρ h=>Yl.assign (h _ _ rfl)) (JL.go 5 rfl ?_);refine A5 (v:= .int .u64 0) rfl rfl rfl (λρ h=>(Yl.and (h _ _ rfl) (h _ _ rfl)).to (congrArg _ (KZ (v:=(v+1)) (wt:=0) (by omega) (by decide)))) (A5 rfl rfl rfl (λρ h=>Yl.neq (h _ _ rfl) (h _ _ rfl)) ?_);refine JL.go 10 rfl (A5 (v:= .int .u64 ((v+1):Nat)) rfl rfl rfl (λρ h=>(Yl.shr (h _ _ rfl) (h _ _ rfl) (by decide)).to (congrArg _ (KJ (v:=(v+1)) (wt:=0) (by decide)))) ?_);refine A5 (v:= .int .i32 ((v+1):Nat)) rfl rfl rfl (λρ h=>(Ff H.underlying_tU64 H.underlying_t21 (h _ _ rfl)).to (congrArg _ (wrap_i32 (by omega)))) ?_
  refine JL.go 5 rfl (A5 (v:= .int .u64 (0:Nat)) rfl rfl rfl (λρ h=>(Yl.and (h _ _ rfl) (h _ _ rfl)).to (congrArg _ (K7 (v:=(v+1)) (wt:=0) (by omega) (by decide)))) ?_);refine A5 (v:= .int .u32 (0:Nat)) rfl rfl rfl (λρ h=>(Ff H.underlying_tU64 H.underlying_tU32 (h _ _ rfl)).to (congrArg _ (wrap_u32 (by decide)))) ?_
  refine JL.go 12 rfl (A5 (v:= .int .i32 1) rfl rfl rfl (λρ h=>(Ff H.underlying_t3 H.underlying_t21 (h _ _ rfl)).to (congrArg _ (by decide))) ?_)
  refine A5 (v:= .bool false) rfl rfl rfl (λρ h=>(Yl.eql (h _ _ rfl) (h _ _ rfl)).to (by simp <;> omega)) (JL.go 8 rfl ?_);refine A5 (v:= .bool false) rfl rfl rfl (λρ h=>(Yl.lss (h _ _ rfl) (h _ _ rfl)).to (by simp <;> omega)) (JL.go 7 rfl ?_);refine A5 (v:= .bool false) rfl rfl rfl (λρ h=>(Yl.neq (h _ _ rfl) (h _ _ rfl)).to (by simp)) (JL.go 17 rfl ?_);refine A5 (v:= .bool true) rfl rfl rfl (λρ h=>(Yl.gtr (h _ _ rfl) (h _ _ rfl)).to (by simp <;> omega)) (JL.go 6 rfl ?_);exact HX rfl (JO.SO K rfl (IU H) (JO.leave rfl (Bz.none H.f_add rfl) (back _ _ _ _ h)))
omit H in
theorem V7{m:Nat}:∀v wt sm r,F.act (.FZ m) v wt sm=some r->r.1=(v,wt,sm)/\r.2.1= #[Fam.Cf F.sA]:=by
 intro v wt sm r h;simp only [Fam.act] at h;split at h
 ·rename_i K;obtain⟨_,rfl⟩:=K;cases h;exact⟨rfl,rfl⟩
 ·cases h
omit H in
theorem WY{m v wt sm:Nat}{r}(h:F.act (.FZ m) v wt sm=some r):v<=m/\wt=0/\r.2.2=if v=0 then .ph .F5 else .ph (.Hf v):=by
 simp only [Fam.act] at h;split at h
 ·rename_i K;cases h;exact⟨K.1,K.2,rfl⟩
 ·cases h
omit H in
theorem UO:∀v wt sm r,F.act .G7 v wt sm=some r->r.1=(v,wt,sm)/\r.2.1= #[Fam.Cf F.sA]:=by
 intro v wt sm r h;simp only [Fam.act] at h;split at h
 ·rename_i K;obtain⟨rfl,rfl⟩:=K;cases h;exact⟨rfl,rfl⟩
 ·cases h
omit H in
theorem V3{v wt sm:Nat}{r}(h:F.act .G7 v wt sm=some r):v=0/\wt=0/\r.2.2= .ph .F5:=by
 simp only [Fam.act] at h;split at h
 ·rename_i K;cases h;exact⟨K.1,K.2,rfl⟩
 ·cases h
omit H in
theorem Vs{v:Nat}(K:v<2147483648):IntKind.u64.wrap (Fam.word v 0+1)=Fam.word v 1:=by
 simp only [Fam.word,Fam.KK,IntKind.wrap,IntKind.bits,IntKind.signed];simp;omega
theorem JL.wait(ap:F.n<2147483648)(K:s.q=false)(aq:ops[i]? =some ⟨d,.call ⟨.value (.func L.wait),#[x],ats⟩,ty,pp,af,g⟩)(hw:AL M ops ⟨d,.call ⟨.value (.func L.wait),#[x],ats⟩,ty,pp,af,g⟩=some true)(aw:((b.kind != .early)&&Bf n d)=true)
  (ay:ev M x=some (.pointer (some F.sA)))
  {Q:GP} (al:∀g s,(GI P).ok Q g s->F.fin g s)
  (h:∀E' f,Le s.E E'->E' F.fd=none->(∀b,E' b≠none->s.H b=none)->(∀k,k<F.n->F.msg k (f k) E')->JL (GI P) Q b n (Av M d (.tuple #[])) ds (.inRegion ops rest::k) cs ⟨E',F.Jv s.H f,false⟩):
  JL (AW P true) (Stop P F .Dt) b n M ds (.inRegion ops (i::rest)::k) cs s:=by
 refine G4 (vs:= [.pointer (some F.sA)]) aq hw aw H.f_wait (nm_wait L) rfl (by simp [evs,ay]) (Nat.le_of_ble_eq_true rfl) λa1 back=>JL.go 3 rfl (Lx (p:= .Dt) (q:= .FZ F.n) rfl K (by simp) (λ_ _ _=>rfl) rfl rfl rfl rfl rfl (by simp) (Mp H) ?_);refine JL.go 2 rfl (Ix ?_);refine EO (L':= [(0,.pointer (some F.sA))]) ⟨rfl,trivial⟩ ?_;generalize F.n=m at ap ⊢
 induction m using Nat.strongRecOn with
 | _ m az=>?_
 refine JL.go 5 rfl (A5 rfl rfl rfl (λρ h=>Yl.fieldAddr H.underlying_tWg rfl (F8 H.sizeOf_tAU) (h _ _ rfl)) ?_);refine JL.uLoad H (p:= .FZ m) rfl K (by simp) rfl V7 rfl rfl rfl rfl λv wt sm r U=>?_;obtain⟨a2,rfl,e⟩:=WY U;have O:v<2147483648:=by omega
 by_cases am:v=0
 ·subst am;refine⟨.F5,e,?_⟩;refine JL.go 5 rfl (A5 (v:= .int .u64 (0:Nat)) rfl rfl rfl (λρ h=>(Yl.shr (h _ _ rfl) (h _ _ rfl) (by decide)).to (congrArg _ (KJ (v:=0) (wt:=0) (by decide)))) ?_);refine A5 (v:= .int .i32 (0:Nat)) rfl rfl rfl (λρ h=>(Ff H.underlying_tU64 H.underlying_t21 (h _ _ rfl)).to (congrArg _ (wrap_i32 (by decide)))) ?_
  refine JL.go 5 rfl (A5 (v:= .int .u64 ((0:Nat):Int)) rfl rfl rfl (λρ h=>(Yl.and (h _ _ rfl) (h _ _ rfl)).to (congrArg _ (K7 (v:=0) (wt:=0) (by decide) (by decide)))) ?_);refine A5 (v:= .int .u32 ((0:Nat):Int)) rfl rfl rfl (λρ h=>(Ff H.underlying_tU64 H.underlying_tU32 (h _ _ rfl)).to (congrArg _ (wrap_u32 (by decide)))) ?_
  refine JL.go 6 rfl (A5 (v:= .bool true) rfl rfl rfl (λρ h=>(Yl.eql (h _ _ rfl) (h _ _ rfl)).to (by simp)) ?_);refine JL.go 6 rfl (Lx (p:= .F5) (q:= .Ij) rfl K (by simp) (λ_ _ _=>rfl) rfl rfl rfl rfl rfl (by simp) (IU H) ?_);refine JL.go 3 rfl (LD (p:= .Ij) (q:= .Gb) (ad:=F.sA) rfl K (by simp) (λ_ _ _=>rfl) rfl rfl rfl rfl rfl H.underlying_tWgP H.underlying_tUP H.room_tWg rfl (.inl rfl) ?_)
  refine Sr (vs:= [.pointer (some F.sA)]) K rfl rfl rfl rfl (Oo H) rfl rfl λE' Y z1 Z ac ag T a0=>al _ _ ?_;revert T;refine(?_:JL (GI P) Q _ _ _ _ _ _ _);refine JL.go 5 rfl (A5 (v:= .bool true) rfl rfl rfl (λρ h=>(Yl.eql (h _ _ rfl) (h _ _ rfl)).to (by simp)) ?_);refine JL.go 2 rfl (A5 (v:= .int .u64 0) rfl rfl rfl (λρ h=>(Yl.and (h _ _ rfl) (h _ _ rfl)).to (congrArg _ (KZ (v:=0) (wt:=0) (by decide) (by decide)))) ?_);refine A5 (v:= .bool false) rfl rfl rfl (λρ h=>(Yl.neq (h _ _ rfl) (h _ _ rfl)).to (by simp)) (JL.go 8 rfl ?_);exact JL.ret rfl rfl (Bz.none H.f_wait rfl) (back _ _ _ _ (h E' Y z1 Z ac ag))
 ·refine⟨.Hf v,by rw [e,if_neg am],?_⟩;refine JL.go 5 rfl (A5 (v:= .int .u64 (v:Nat)) rfl rfl rfl (λρ h=>(Yl.shr (h _ _ rfl) (h _ _ rfl) (by decide)).to (congrArg _ (KJ (v:=v) (wt:=0) (by decide)))) ?_);refine A5 (v:= .int .i32 (v:Nat)) rfl rfl rfl (λρ h=>(Ff H.underlying_tU64 H.underlying_t21 (h _ _ rfl)).to (congrArg _ (wrap_i32 O))) ?_
  refine JL.go 5 rfl (A5 (v:= .int .u64 ((0:Nat):Int)) rfl rfl rfl (λρ h=>(Yl.and (h _ _ rfl) (h _ _ rfl)).to (congrArg _ (K7 (v:=v) (wt:=0) O (by decide)))) ?_);refine A5 (v:= .int .u32 ((0:Nat):Int)) rfl rfl rfl (λρ h=>(Ff H.underlying_tU64 H.underlying_tU32 (h _ _ rfl)).to (congrArg _ (wrap_u32 (by decide)))) ?_
  refine JL.go 6 rfl (A5 (v:= .bool false) rfl rfl rfl (λρ h=>(Yl.eql (h _ _ rfl) (h _ _ rfl)).to (by simp <;> omega)) ?_);refine JL.go 7 rfl (A5 rfl rfl rfl (λρ h=>Yl.fieldAddr H.underlying_tWg rfl (F8 H.sizeOf_tAU) (h _ _ rfl)) ?_);refine JL.go 2 rfl (A5 (v:= .int .u64 (Fam.word v 1)) rfl rfl rfl (λρ h=>(Yl.add (h _ _ rfl) (h _ _ rfl)).to (congrArg _ (Vs O))) ?_);refine JL.uCas H (m:=v) K rfl rfl rfl rfl rfl rfl ?_ ?_
  ·refine JL.done (JL.go 6 rfl ?_);refine A5 (v:= .bool true) rfl rfl rfl (λρ h=>(Yl.eql (h _ _ rfl) (h _ _ rfl)).to (by simp)) (JL.go 6 rfl ?_);refine A5 rfl rfl rfl (λρ h=>Yl.fieldAddr H.underlying_tWg rfl (F8 H.sizeOf_tU32) (h _ _ rfl)) (LD (p:= .Io) (q:= .HK) (ad:=F.mA) rfl K (by simp) (λ_ _ _=>rfl) rfl rfl rfl rfl rfl H.underlying_tPU32 H.underlying_tUP H.room_tU32 rfl (.inr rfl) ?_)
   refine OB (p:= .HK) (q:= .Fv) (mk:= .write) (ad:=F.mA) (vs:= [.pointer (some F.mA)]) rfl K (by simp) (λ_ _ _=>rfl) rfl rfl rfl rfl (by simp) (VQ H) rfl rfl (JL.go 9 rfl ?_);refine A5 (v:= .int .u64 0) rfl rfl rfl (λρ h=>(Yl.and (h _ _ rfl) (h _ _ rfl)).to (congrArg _ (KZ (v:=v) (wt:=0) O (by decide)))) (A5 (v:= .bool false) rfl rfl rfl (λρ h=>(Yl.neq (h _ _ rfl) (h _ _ rfl)).to (by simp)) ?_);refine JL.go 10 rfl (A5 rfl rfl rfl (λρ h=>Yl.fieldAddr H.underlying_tWg rfl (F8 H.sizeOf_tU32) (h _ _ rfl)) ?_);refine JL.go 1 rfl (UN (vs:= [.pointer (some F.mA),.bool false]) K rfl rfl rfl rfl (UA H) rfl rfl ?_);refine JL.go 5 rfl (A5 rfl rfl rfl (λρ h=>Yl.fieldAddr H.underlying_tWg rfl (F8 H.sizeOf_tAU) (h _ _ rfl)) ?_);refine JL.uLoad H (p:= .G7) rfl K (by simp) rfl UO rfl rfl rfl rfl λv wt sm r U=>?_;obtain⟨rfl,rfl,e⟩:=V3 U;refine⟨.F5,e,?_⟩;refine A5 (v:= .bool false) rfl rfl rfl (λρ h=>(Yl.neq (h _ _ rfl) (h _ _ rfl)).to (by simp [Fam.word])) (JL.go 6 rfl ?_);refine Lx (p:= .F5) (q:= .Ij) rfl K (by simp) (λ_ _ _=>rfl) rfl rfl rfl rfl rfl (by simp) (IU H) (JL.go 3 rfl ?_);refine LD (p:= .Ij) (q:= .Gb) (ad:=F.sA) rfl K (by simp) (λ_ _ _=>rfl) rfl rfl rfl rfl rfl H.underlying_tWgP H.underlying_tUP H.room_tWg rfl (.inl rfl) ?_
   refine Sr (vs:= [.pointer (some F.sA)]) K rfl rfl rfl rfl (Oo H) rfl rfl λE' Y z1 Z ac ag T a0=>al _ _ ?_;revert T;refine(?_:JL (GI P) Q _ _ _ _ _ _ _);exact JL.go 8 rfl (JL.ret rfl rfl (Bz.none H.f_wait rfl) (back _ _ _ _ (h E' Y z1 Z ac ag)))
  ·refine JL.done (JL.go 3 rfl ?_);refine JL.again (EO (L':= [(0,.pointer (some F.sA))]) ⟨rfl,trivial⟩ ?_);exact az (v - 1) (by omega) (by omega)
theorem JO.aD(K:b.roundOf=none)(O:s.q=false)(h:JO (HY P) (IF P 0) b n M ds cs .quiet):
  JO (AW P false) (Stop P F .HI) b n M (dcall L.done #[.pointer (some F.sA)]::ds) cs s:=by
 refine JO.enter (vs:= [.pointer (some F.sA)]) K H.f_done (nm_done L) rfl (Nat.le_of_ble_eq_true rfl) λT U todo=>JL.go 2 rfl (VJ H O rfl rfl rfl rfl rfl ?_);exact JL.done (JL.out rfl (JO.leaveD rfl H.f_done rfl (.inl rfl) (h T U todo)))
end
end Pal
namespace Pal
open Go Go.Conc
section
variable {P:Program}{J:Judge P}{Q:Gs_}{g:Goroutine}{cs:Lf_}{c:Frame}{E H:LH}{S S':List Seg}
theorem MM(K:S.flatten.Perm S'.flatten)(O:Ap E H S)(h:Ap E H S'->J.ok Q g (Ak E H S')):J.ok Q g (Ak E H S):=by
 have U:Ak E H S=Ak E H S':=Fg O K;rw [U];exact h (Nd.perm O K)
theorem O1(K:S'.flatten=S.flatten)(O:Ap E H S)(h:Ap E H S'->J.ok Q g (Ak E H S')):J.ok Q g (Ak E H S):=MM (by rw [K]) O h
theorem V9{f:FuncId}{vs:Lv_}{seg:Seg}{R:Value->LH->Seg->Prop}(j:Nat)(al:AK J f vs E seg R)(K:Ap E H S)(O:S[j]? =some seg)
  (am:∀v E' seg',Le E E'->R v E' seg'->Ap E' H (S.set j seg')->J.ok Q (G (c.finish v) cs) (Ak E' H (S.set j seg'))):
  J.ok Q (G (Frame.enter P f vs.toArray .normal) (c::cs)) (Ak E H S):=by
 have U:S.flatten.Perm (seg++(S.set j []).flatten):=(Em (seg':=seg) O).1.trans List.perm_append_comm;have Y:Nd E H (seg++(S.set j []).flatten):=Nd.perm K U;have ap:Ak E H S=mk E (Bi (S.set j []).flatten H) seg:=by
  rw [show Ak E H S=mk E H S.flatten from rfl,Fg K U];unfold mk;rw [FW]
 have Z:=EL.Lc (al (Bi (S.set j []).flatten H) (Nd.front Y)) (by rintro v s' ⟨E',B',_,_,_,rfl⟩;rfl);rw [← ap] at Z;refine Z Q c cs ?_;rintro v a5 ⟨⟨E',B',hle,aq,aw,rfl⟩,w,ay⟩;have e2:mk E' (Bi (S.set j []).flatten H) B'=mk E' H (B'++(S.set j []).flatten):=by unfold mk;rw [FW]
 have az:Nd E H (S.set j []).flatten:=by
  have:=Y;rw [Nd.iff] at this ⊢;rw [List.map_append,List.nodup_append] at this;exact⟨this.1.2.1,λq a0=>this.2 q (List.mem_append_right _ a0)⟩
 have a1:Nd E' H (S.set j []).flatten:=az.grow λx a2=>by
  have a3:=ay.d x a2;have a4:Bi B' (Bi (S.set j []).flatten H) x=none:=a3;exact(HT a4).1
 have ac:Nd E' H (B'++(S.set j []).flatten):=Nd.glue aw a1;rw [e2];have ag:(B'++(S.set j []).flatten).Perm (S.set j B').flatten:=List.perm_append_comm.trans (Em O).2.symm;rw [Fg ac ag];exact am v E' B' hle aq (Nd.perm ac ag)
end
section
variable {P:Program}{J:Judge P}{Q:Gs_}{b:Frame}{n:Nat}{L:Env}{ds:Ld_}{k:Li_}{cs:Lf_}{E H:LH}{S:List Seg}{ops:Ao_}{i:Nat}{rest:List Nat}{d:Option Tmp}{t ty e:TypeId}{p:String}{af:Ae_}{g:On_}
end
theorem U0{E H:LH}{a b c:Nat}{K O U:Obj}(ac:Ap E H [[(a,K)],[(b,O)],[(c,U)]]):(⟨E,Js (Ak E H [[(a,K)],[(b,O)],[(c,U)]]).H b a c,false⟩:St)=Ak E H []:=by
 have h:=Nd.iff.1 ac;have ag:H a=none:=(h.2 (a,K) (by simp)).2;have al:H b=none:=(h.2 (b,O) (by simp)).2;have am:H c=none:=(h.2 (c,U) (by simp)).2;unfold Ak mk;congr 1;funext x;simp only [Js,Ak,mk,List.flatten_cons,List.flatten_nil,List.append_nil,List.cons_append,List.nil_append,Bi];by_cases Y:x=a
 ·subst Y;simp [ag]
 ·by_cases e2:x=b
  ·subst e2;simp [al]
  ·by_cases Z:x=c
   ·subst Z;simp [am]
   ·simp [Y,e2,Z]
end Pal
namespace Pal
open Go Go.Conc
theorem GG{P:Program}{J:Judge P}{Q:Gs_}{b:Frame}{n:Nat}{L:Env}{ds:Ld_}{cs:Lf_}{E H:LH}{S:List Seg}{todo:Li_}{A B:Seg}(j K:Nat)(O:S[j]? =some A)(Z:(S.set j [])[K]? =some B)(ac:Ap E H S)
  (h:Ap E H (((S.set j []).set K []).set j (A++B))->JL J Q b n L ds todo cs (Ak E H (((S.set j []).set K []).set j (A++B)))):JL J Q b n L ds todo cs (Ak E H S):=by
 refine JS.perm ?_ ac h;have U:j<S.length:=(List.getElem?_eq_some_iff.1 O).1;have ag:=(Em (seg':=A) O).1;have al:=(Em (seg':=B) Z).1;have am:((S.set j []).set K [])[j]? =some []:=by
  by_cases e:K=j
  ·subst e;rw [List.getElem?_set_self (by simpa using U)]
  ·rw [List.getElem?_set_ne e,List.getElem?_set_self U]
 have Y:=(Em (seg':=A++B) am).2;have ap:(((S.set j []).set K []).set j [])=(S.set j []).set K []:=by
  by_cases e:K=j
  ·subst e;simp
  ·rw [List.set_comm _ _ e];simp
 rw [ap] at Y;refine ag.trans (List.Perm.trans ?_ Y.symm);refine(List.Perm.append_right A al).trans ?_;rw [List.append_assoc];exact List.Perm.append_left _ List.perm_append_comm
end Pal
namespace Pal
open Go Go.Conc
def WL{α:Type}(e:TypeId)(pp:Rp α)(E:LH)(bk c n:Nat)(f:Av_)(xs:List α):Prop:=
 OL e pp E (some ⟨bk,0,none⟩) c [(bk,.cells f e (0,0))] xs/\xs.length=n
theorem WL.Ag{α:Type}{e:TypeId}{pp:Rp α}{E E':LH}{bk c n:Nat}{f:Av_}{xs:List α}(h:WL e pp E bk c n f xs)(hle:Le E E'):WL e pp E' bk c n f xs:=⟨h.1.Ag hle,h.2⟩
theorem WL.at{α:Type}{e:TypeId}{pp:Rp α}{E:LH}{bk c n:Nat}{f:Av_}{xs:List α}{m:Int}{x:α}(h:WL e pp E bk c n f xs)(hm:ix xs m=some x):
  ∃ws,pp.r E ws x/\(∀j w,ws[j]? =some w->f[m.toNat*pp.n+j]? =some w):=by
 obtain⟨ws,K,O,_,_⟩:=OL.again h.1 hm rfl;exact⟨ws,K,O⟩
theorem WL.put{α:Type}{e:TypeId}{pp:Rp α}{E:LH}{bk c n:Nat}{f:Av_}{xs O:List α}{m:Int}{x0 x':α}{ws':Lv_}(h:WL e pp E bk c n f xs)(U:O.length=n)(hm:ix O m=some x0)(Y:pp.r E ws' x'):
  WL e pp E bk c n (Be f (m.toNat*pp.n) ws') (xs.set m.toNat x')/\m.toNat*pp.n+pp.n<=f.size:=by
 obtain⟨K,rfl,Z⟩:=F9 hm;have ac:K<xs.length:=by rw [h.2,← U];exact(List.getElem?_eq_some_iff.1 Z).1
 have ag:ix xs (K:Int)=some xs[K]:=by simp [ix,ac]
 obtain⟨ws,ap,aq,al,am⟩:=OL.again h.1 ag rfl;exact⟨⟨am x' ws' Y,by rw [List.length_set];exact h.2⟩,al⟩
theorem OL.cases{α:Type}{e:TypeId}{pp:Rp α}{E:LH}{a:Option Addr}{c:Nat}{seg:Seg}{xs:List α}(h:OL e pp E a c seg xs):
  (a=none/\c=0/\seg= []/\xs= [])∨∃bk f,a=some ⟨bk,0,none⟩/\seg= [(bk,.cells f e (0,0))]/\WL e pp E bk c xs.length f xs:=by
 have Y:=h;obtain⟨wss,Z,ag,al⟩:=h;rcases Z with⟨K,O,U,ac,am⟩ | ⟨bk,f,K,O,U⟩
 ·exact .inl ⟨K,U,ac,List.length_eq_zero_iff.1 O⟩
 ·subst K O;exact .inr ⟨bk,f,rfl,rfl,Y,rfl⟩
theorem WL.of{α:Type}{e:TypeId}{pp:Rp α}{E:LH}{a:Option Addr}{c:Nat}{seg:Seg}{xs:List α}{m:Int}{x:α}(h:OL e pp E a c seg xs)(hm:ix xs m=some x):
  ∃bk f,(a=some ⟨bk,0,none⟩/\seg= [(bk,.cells f e (0,0))])/\WL e pp E bk c xs.length f xs:=by
 rcases OL.cases h with⟨_,_,_,rfl⟩ | ⟨bk,f,K,O,U⟩
 ·obtain⟨k,_,h⟩:=F9 hm;simp at h
 ·exact⟨bk,f,⟨K,O⟩,U⟩
theorem Fp{P:Program}{s:St}{ρ:Operand->Value}{x y:Operand}{d:Option Tmp}{t ty e:TypeId}{p:String}{af:Ae_}{g:On_}{kd:IntKind}{α:Type}{xs:List α}{xv:α}{m:Int}{bk c K n:Nat}(O:xs.length=n)(hm:ix xs m=some xv)(U:P.underlying t=some (.slice e))(Y:Bl P e=some K)(Z:ρ x= .slice (some ⟨bk,0,none⟩) n c)(ac:ρ y= .int kd m):
  Yl P ⟨d,.indexAddr t x y,ty,p,af,g⟩ ρ s (.pointer (some ⟨bk,m.toNat*K,none⟩)):=by
 subst O;exact W7 hm U Y Z ac
theorem Sk{P:Program}{s:St}{ρ:Operand->Value}{x:Operand}{d:Option Tmp}{t ty e:TypeId}{p:String}{af:Ae_}{g:On_}{α:Type}{xs:List α}{a:Option Addr}{n c:Nat}{ats:Array TypeId}(K:xs.length=n)(O:ats[0]? =some t)(U:P.underlying t=some (.slice e))(Y:ρ x= .slice a n c):
  Yl P ⟨d,.call ⟨.builtin .len,#[x],ats⟩,ty,p,af,g⟩ ρ s (.int .i64 (xs.length:Int)):=by
 subst K;exact Yl.len O U Y
section
variable {P:Program}{J:Judge P}{Q:Gs_}{b:Frame}{n:Nat}{ds:Ld_}{ops:Ao_}{k:Li_}{cs:Lf_}{m fuel:Nat}{D:Nat->Bool}{listed:Array Bool}{L:Env}{s:St}{E E' H:LH}{S:List Seg}
variable {d:Option Tmp}{x y:Operand}{t u ty e:TypeId}{p:String}{af:Ae_}{g:On_}{v:Value}{i:Nat}{kd:IntKind}
theorem VL{f:FuncId}{args:Array Operand}{ats:Array TypeId}{vs:Lv_}{R:Value->St->Prop}(U:s.q=false)(Y:Region.ready .any ops listed= [i])
  (Z:ops[i]? =some ⟨d,.call ⟨.value x,args,ats⟩,ty,p,af,g⟩) (ac:ev L x=some (.func (.func f) #[] #[])) (ag:Bf n d=true) (hw:AL L ops ⟨d,.call ⟨.value x,args,ats⟩,ty,p,af,g⟩=some true) (hb:DO P f=true) (al:evs L args.toList=some vs)
  (am:EL J f vs.toArray s R) (h:∀v K,R v K->K.q=false/\(∀x o,(BA D s).E x=some o->(BA D K).E x=some o)/\AJ J Q b n ds ops k cs m D fuel (A8 listed i) (Av L d v) K):
  AJ J Q b n ds ops k cs m D (fuel+1) listed L s:=by
 refine AJ.one U Y Z (by simp [Dw,ag]) hw λρ O=>?_;have ap:args.map ρ=vs.toArray:=by
  rw [← Gn O al];apply Array.ext';simp
 have aq:ρ x= .func (.func f) #[] #[]:=O _ _ ac;simp only [execOp,resolve,bind,Sem.bind,Deferred.ofValue,aq,pure,invoke];have e: #[]++args.map ρ++ #[]=vs.toArray:=by rw [ap];simp
 rw [e];refine IT hb ?_;rw [KA];exact⟨R,am,h⟩
theorem Jl{bks:List Nat}{f:FuncId}{args:Array Operand}{ats:Array TypeId}{vs:Lv_}{R:Value->LH->Seg->Prop}(am:HE S bks)(ap:AK J f vs E [] R)(aq:Region.ready .any ops listed= [i])
  (aw:ops[i]? =some ⟨d,.call ⟨.value x,args,ats⟩,ty,p,af,g⟩) (K:ev L x=some (.func (.func f) #[] #[])) (ay:Bf n d=true) (hw:AL L ops ⟨d,.call ⟨.value x,args,ats⟩,ty,p,af,g⟩=some true) (hb:DO P f=true) (az:evs L args.toList=some vs) (Z:Ap E H S)
  (a0:∀v E' seg',Le E E'->R v E' seg'->Ap E' H (S++ [seg'])->AJ J Q b n ds ops k cs m (AZ bks) fuel (A8 listed i) (Av L d v) (Ak E' H (S++ [seg']))):
  AJ J Q b n ds ops k cs m (AZ bks) (fuel+1) listed L (Ak E H S):=by
 have a1:=EL.Lc (ap (Bi S.flatten H) trivial) (by rintro v s' ⟨E',B',_,_,_,rfl⟩;rfl);refine VL rfl aq aw K ay hw hb az a1 ?_;rintro v a9 ⟨⟨E',B',hle,a2,a3,rfl⟩,w,a4⟩;have e2:mk E' (Bi S.flatten H) B'=mk E' H (B'++S.flatten):=by unfold mk;rw [FW]
 have a5:Nd E' H S.flatten:=Nd.grow Z λx K=>by
  have a6:=a4.d x K;have U:Bi B' (Bi S.flatten H) x=none:=a6;exact(HT U).1
 have ac:Nd E' H (B'++S.flatten):=Nd.glue a3 a5;have ag:(B'++S.flatten).Perm (S++ [B']).flatten:=by rw [GD];exact List.perm_append_comm
 have al:Ap E' H (S++ [B']):=Nd.perm ac ag;rw [e2,Fg ac ag];refine⟨rfl,λx o K=>?_,a0 v E' B' hle a2 al⟩;by_cases hd:AZ bks x=true
 ·obtain⟨j,o',Y⟩:=am.mem x (by simpa [AZ] using hd);have U:(Ak E H S).get x=some o':=Dx (i:=0) Z Y rfl;have a7:j<S.length:=(List.getElem?_eq_some_iff.1 Y).1;have a8:(Ak E' H (S++ [B'])).get x=some o':=Dx (i:=0) al (by rw [List.getElem?_append_left a7];exact Y) rfl;have O:(if AZ bks x then(Ak E H S).get x else E x)=some o:=K
  show(if AZ bks x then(Ak E' H (S++ [B'])).get x else E' x)=some o
  rw [if_pos hd] at O ⊢;rw [a8,← U];exact O
 ·have O:(if AZ bks x then(Ak E H S).get x else E x)=some o:=K
  show(if AZ bks x then(Ak E' H (S++ [B'])).get x else E' x)=some o
  rw [if_neg hd] at O ⊢;exact hle _ _ O
end
section
variable {P:Program}{J:Judge P}{Q:Gs_}{b:Frame}{n:Nat}{ds:Ld_}{ops:Ao_}{k:Li_}{cs:Lf_}{L:Env}{s:St}{E E' H:LH}{S:List Seg}
variable {d:Option Tmp}{x y:Operand}{t u ty e:TypeId}{p:String}{af:Ae_}{g:On_}{v:Value}{i:Nat}{rest:List Nat}{kd:IntKind}
theorem KH{f:FuncId}{args:Array Operand}{ats:Array TypeId}{vs:Lv_}{R:Value->LH->Seg->Prop}
  (O:AK J f vs E [] R) (U:ops[i]? =some ⟨d,.call ⟨.value x,args,ats⟩,ty,p,af,g⟩) (Y:ev L x=some (.func (.func f) #[] ([]:Lv_).toArray)) (hw:AL L ops ⟨d,.call ⟨.value x,args,ats⟩,ty,p,af,g⟩=some true) (Z:((b.kind != .early)&&Bf n d)=true) (hb:DO P f=true)
  (ac:evs L args.toList=some vs) (ag:Ap E H S) (al:∀v E' seg',Le E E'->R v E' seg'->Ap E' H (S++ [seg'])->JL J Q b n (Av L d v) ds (.inRegion ops rest::k) cs (Ak E' H (S++ [seg']))):
  JL J Q b n L ds (.inRegion ops (i::rest)::k) cs (Ak E H S):=by
 have am:F4 J (.func (.func f) #[] ([]:Lv_).toArray) vs E [] R:=F4.ofFn hb (by rw [List.append_nil];exact O);have ap:Ap E H (S++ [[]]):=by unfold Ap at*;rw [GD,List.append_nil];exact ag
 have aq:Ak E H S=Ak E H (S++ [[]]):=by unfold Ak;rw [GD,List.append_nil]
 rw [aq];refine KM (seg:= []) S.length am U hw Z Y ac ap (by simp) λv E' seg' hle aw K=>?_;have ay:(S++ [([]:Seg)]).set S.length seg'=S++ [seg']:=I2 _ _ _ _;rw [ay] at K ⊢;exact al v E' seg' hle aw K
end
def Lg(a b:Int):Option Int:=if b=0 then none else Ax (a.tdiv b)
def P5(l:List Nat)(i:Int):Option Nat:=if 0<=i then l[i.toNat]? else none
section
variable {P:Program}{s:St}{ρ:Operand->Value}{x y z:Operand}{d:Option Tmp}{t u ty e:TypeId}{p:String}{af:Ae_}{g:On_}{v:Value}{kd kd':IntKind}{m m':Int}{a b:Nat}
theorem MN{r:Int}(K:ρ x=iV m)(O:ρ y=iV m')(h:Lg m m'=some r):Yl P ⟨d,.binOp .quo t x y u,ty,p,af,g⟩ ρ s (iV r):=by
 unfold Lg at h;split at h
 ·cases h
 ·rename_i U;obtain⟨rfl,hb⟩:=KF h;have:=Yl.quo (P:=P) (s:=s) (d:=d) (t:=t) (u:=u) (ty:=ty) (p:=p) (af:=af) (g:=g) K O U
  rwa [Jk hb] at this
theorem bh{a:Nat}:IntKind.u8.wrap (a:Int)=((a % 256:Nat):Int):=by
 simp only [IntKind.wrap,IntKind.bits,IntKind.signed];simp
theorem Xf(K:P.underlying t=some (.int .u64))(hu:P.underlying u=some (.int .u8))(O:ρ x= .int .u64 (a:Int)):Yl P ⟨d,.convert t u x,ty,p,af,g⟩ ρ s (.int .u8 ((a % 256:Nat):Int)):=by
 have h:=Ff (P:=P) (s:=s) (d:=d) (ty:=ty) (p:=p) (af:=af) (g:=g) K hu O
 rw [bh] at h;exact h
theorem XP{r:Int}(K:P.underlying t=some (.int .u8))(hu:P.underlying u=some (.int .i64))(O:ρ x= .int .u8 (a:Int))(h:Ax ((a:Nat):Int)=some r):Yl P ⟨d,.convert t u x,ty,p,af,g⟩ ρ s (iV r):=by
 obtain⟨rfl,hb⟩:=KF h;have h:=Ff (P:=P) (s:=s) (d:=d) (ty:=ty) (p:=p) (af:=af) (g:=g) K hu O
 rwa [Jk hb] at h
theorem VA{l:List Nat}{bs:ByteArray}{r:Nat}(O:(bs.data.toList.map UInt8.toNat==l)=true)(U:P.underlying t=some .string)(Y:ρ y= .int kd m)(Z:ρ (.const (.string bs))= .string bs)(h:P5 l m=some r):Yl P ⟨d,.index t (.const (.string bs)) y,ty,p,af,g⟩ ρ s (.int .u8 (r:Int)):=by
 unfold P5 at h;split at h
 ·rename_i ac;have ag:=eq_of_beq O;rw [← ag,List.getElem?_map] at h;obtain⟨K,hb,rfl⟩:=Option.map_eq_some_iff.1 h;have al:bs[m.toNat]? =some K:=by
   have am:bs.data[m.toNat]? =some K:=by rw [← Array.getElem?_toList];exact hb
   obtain⟨ap,aq⟩:=Array.getElem?_eq_some_iff.1 am;rw [getElem?_pos bs m.toNat ap];exact congrArg some aq
  simp [Yl,execOp,lp,pure,bind,Sem.bind,Z,Y,Instr.index,underlying,program,U,ac,al,asIntOf]
 ·cases h
end
end Pal
namespace Pal
open Go Go.Conc
section
variable {P:Program}(J:Judge P)(Q:Gs_)(b:Frame)(ds:Ld_)(ops:Ao_)(k:Li_)(cs:Lf_)(X D:Nat->Bool)
def JB:Nat->Array Bool->Av_->St->Prop
 | 0,listed,T,s=>Region.ready .any ops listed= []/\J.ok Q (G (fr b T ds (.inRegion ops []::k)) cs) s
 | fuel+1,listed,T,s=>
  Region.ready .any ops listed≠ []/\s.q=false/\∀i∈Region.ready .any ops listed,∀o,ops[i]? =some o->(∀c,o.op≠ .defer c)/\
   (Region.wanted o (yielded ops T)=false->JB fuel (A8 listed i) (CM T o.dst undef) s)/\
   (Region.wanted o (yielded ops T)=true->X i=true->lp P (execOp (BB T) o) s (λK s'=>match K with
    | .value v=>JB fuel (A8 listed i) (CM T o.dst v) s'
    | .skip=>JB fuel (A8 listed i) (CM T o.dst undef) s'
    | _=>False) (λ_ _=>False))/\
   (Region.wanted o (yielded ops T)=true->X i=false->lp P (execOp (BB T) o) (BA D s) (λK s'=>match K with
    | .value v=>JB fuel (A8 listed i) (CM T o.dst v) (Cy D s s')
    | .skip=>JB fuel (A8 listed i) (CM T o.dst undef) (Cy D s s')
    | _=>False) (λ_ _=>False))
variable {J Q b ds ops k cs X D}
theorem WC(Z:b.kind≠ .early):∀(fuel t:Nat) (listed:Array Bool) (T:Av_) (s:St),JB J Q b ds ops k cs X D fuel listed T s->
  J.ok Q (G (fr b T ds (.inRegion ops (Region.linearise.go .any ops fuel t listed [])::k)) cs) s:=by
 intro fuel
 induction fuel with
 | zero=>intro t listed T s h;simpa [Region.linearise.go] using h.2
 | succ fuel O=>
  intro t listed T s h;obtain⟨al,am,h⟩:=h;obtain⟨i,hi⟩:∃i,(Region.ready .any ops listed)[t % (Region.ready .any ops listed).length]? =some i:=by
   have:0<(Region.ready .any ops listed).length:=List.length_pos_iff.2 al;exact⟨_,List.getElem?_eq_getElem (Nat.mod_lt _ this)⟩
  have ac:=List.mem_of_getElem? hi;have hgo:Region.linearise.go .any ops (fuel+1) t listed []=i::Region.linearise.go .any ops fuel (t / (Region.ready .any ops listed).length) (A8 listed i) []:=by
   simp only [Region.linearise.go];change (match(Region.ready .any ops listed)[t % (Region.ready .any ops listed).length]? with
    | some i=>Region.linearise.go .any ops fuel (t / (Region.ready .any ops listed).length) (listed.setIfInBounds i true) [i]
    | none=> [].reverse)=_
   rw [hi];simp only;rw [linearise_go_acc];rfl
  rw [hgo];obtain⟨_,o,U,_⟩:=mem_ready.1 ac;obtain⟨hd,ap,aq,aw⟩:=h i ac o U;cases hw:Region.wanted o (yielded ops T) with
  | false=>exact Judge.unwanted U hw (O _ _ _ _ (ap hw))
  | true=>
   cases ag:X i with
   | true=>
    refine Judge.oper U hw Z (.inr hd) (En _ (aq hw ag) ?_ (λ_ _ h=>h.elim));intro Y s' K;cases Y with
    | value v=>exact O _ _ _ _ K
    | skip=>exact O _ _ _ _ K
    | _=>exact K.elim
   | false=>
    refine Judge.R1 D U hw Z hd am (En _ (aw hw ag) ?_ (λ_ _ h=>h));intro Y s' K;cases Y with
    | value v=>exact O _ _ _ _ K
    | skip=>exact O _ _ _ _ K
    | _=>exact K.elim
def waitAll(ops:Ao_)(X:Nat->Bool)(i:Nat):Bool:=(List.range ops.size).all λj=> !X j || waits ops ops.size j i
theorem SE{D:Nat->Bool}{s s':St}(K:s'.E=(BA D s).E){x:Nat}{o:Obj}(h:s.E x=some o):(Cy D s s').E x=some o:=by
 by_cases hd:D x
 ·simp [Cy,hd,h]
 ·have:=congrFun K x;simp [BA,hd] at this;simp [Cy,hd,this,h]
theorem Rn{i:Nat}{oi:Oper}{w pure:Bool}{v:Value}(hi:ops[i]? =some oi)(bP:X i=false)(bF:(pure || waitAll ops X i)=true)(bQ:Region.noSelect ops=true)(bR:∀c,oi.op≠ .defer c):
  ∀(fuel:Nat) (listed:Array Bool) (T:Av_) (s:St),IC ops listed i oi=true->Hx ops listed=true->listed.size=ops.size->i∈Region.ready .any ops listed->s.q=false->Region.wanted oi (yielded ops T)=w->
   (w=true->∀s',s'.q=false->(∀x o,s.E x=some o->s'.E x=some o)->(pure=false->∀x o,(BA D s).E x=some o->s'.E x=some o)->Yl P oi (BB T) s' v)->
   JB J Q b ds ops k cs X D fuel (A8 listed i) (CM T oi.dst (if w then v else undef)) s->JB J Q b ds ops k cs X D (fuel+1) listed T s:=by
 have aw:∀(j:Nat) (am:Oper),ops[j]? =some am->∀cs b,am.op≠Op.select cs b:=λj am h cs b=>Region.noSelect_spec bQ j am cs b h;intro fuel
 induction fuel with
 | zero=>?_
 | succ fuel a3=>?_
 all_goals
  intro listed T s bG bH a4 br a5 hw ay h;refine⟨λe=>(by rw [e] at br;cases br),a5,λj bI am U=>?_⟩;by_cases a6:j=i
  ·subst a6;obtain rfl:am=oi:=by rw [hi] at U;exact(Option.some.inj U).symm
   refine⟨bR,λO=>?_,λaz K=>?_,λaz K=>?_⟩
   ·rw [O] at hw;subst hw;exact h
   ·rw [bP] at K;cases K
   ·rw [az] at hw;subst hw;refine En _ (ay rfl (BA D s) a5 (λx o h=>by unfold BA;simp only;split;(· unfold St.get;rw [h]);exact h) λ_ _ _ h=>h).out ?_ (λ_ _ h=>h);rintro bu s' ⟨rfl,rfl⟩;rw [KA];exact h
  ·
   have bJ:j∈Region.ready .any ops (A8 listed i):=ready_mono bI a6;obtain⟨a0,Y,bK,bw⟩:=mem_ready.1 bI;obtain rfl:Y=am:=by rw [U] at bK;exact(Option.some.inj bK).symm
   have bx:=(mem_ready.1 br).1;have bS:(Y.after.any λe=>Region.binds .any e&&e.on==i)=false:=by
    rw [Array.any_eq_false];intro e he K;simp only [Bool.and_eq_true,beq_iff_eq] at K;have:=bw _ (Array.getElem_mem he) K.1;rw [K.2] at this;have a2:listed.getD i true=listed.getD i false∨listed.size<=i:=by
     rcases Nat.lt_or_ge i listed.size with q | q
     ·left;simp [Array.getD_eq_getD_getElem?,q]
     ·exact .inr q
    rcases a2 with a2 | a2
    ·rw [bx,this] at a2;cases a2
    ·rw [Array.getD_eq_getD_getElem?,Array.getElem?_eq_none a2] at this;simp at this
   have bT:oi.apart ops Y=true:=by
    have bz:j<ops.size:=(Array.getElem?_eq_some_iff.1 U).1;have:=List.all_eq_true.1 bG j (List.mem_range.2 bz);simp only [Bool.or_eq_true,beq_iff_eq] at this;rcases this with(q | q) | q
    ·exact absurd q a6
    ·rw [a0] at q;cases q
    ·rw [U] at q;simp only [Bool.or_eq_true] at q;rw [bS] at q;exact q.resolve_left (by simp)
   obtain⟨a1,a7,a8⟩:=Oper.apart_spec bT;obtain⟨bL,p2⟩:=HW (ops:=ops) (T:=T) (v:=if w then v else undef) (aw j Y U) a1
   first
    | exact absurd bJ (by rw [h.1];simp)
    | (
     obtain⟨b4,_,h⟩:=h
     obtain⟨hd,O,bU,bV⟩:=h j bJ Y U
     have a9:A8 (A8 listed i) j=A8 (A8 listed j) i:=by
      unfold A8;exact Array.setIfInBounds_comm _ _ (Ne.symm a6)
     have bb:i∈Region.ready .any ops (A8 listed j):=ready_mono br (Ne.symm a6)
     have be:IC ops (A8 listed j) i oi=true:=by
      refine List.all_eq_true.2 λx K=>?_
      have:=List.all_eq_true.1 bG x K
      simp only [Bool.or_eq_true,beq_iff_eq] at this ⊢
      rcases this with(q | q) | q
      ·exact .inl (.inl q)
      ·left;right
       by_cases e:j=x
       ·subst e;rw [a0] at q;cases q
       ·rw [A8,getD_set_ne true e];exact q
      ·exact .inr q
     have bi:(A8 listed j).size=ops.size:=by unfold A8;simpa using a4
     have bn:Hx ops (A8 listed j)=true:=by
      refine List.all_eq_true.2 λx K=>?_
      cases bA:ops[x]? with
      | none=>simp
      | some bW=>
       simp only [Bool.or_eq_true,Bool.not_eq_true']
       by_cases e:j=x
       ·subst e
        obtain rfl:bW=Y:=by rw [U] at bA;exact(Option.some.inj bA).symm
        right
        refine Array.all_eq_true'.2 λe he=>?_
        cases hb:Region.binds .any e with
        | false=>simp
        | true=>
         have:=bw e he hb
         by_cases e2:j=e.on
         ·rw [← e2] at this
          have bB:j<listed.size:=by rw [a4];exact(Array.getElem?_eq_some_iff.1 U).1
          simp [Array.getD_eq_getD_getElem?,bB] at this a0
          rw [a0] at this;cases this
         ·rw [A8,getD_set_ne false e2];simpa using this
       ·cases bM:(A8 listed j).getD x false with
        | false=>exact .inl rfl
        | true=>
         right
         have bY:listed.getD x false=true:=by rw [A8,getD_set_ne false e] at bM;exact bM
         refine Array.all_eq_true'.2 λbC he=>?_
         cases hb:Region.binds .any bC with
         | false=>simp
         | true=>
          have:=Ol bH bA bY bC he hb
          by_cases e2:j=bC.on
          ·rw [← e2] at this
           have bB:j<listed.size:=by rw [a4];exact(Array.getElem?_eq_some_iff.1 U).1
           simp [Array.getD_eq_getD_getElem?,bB] at this a0
           rw [a0] at this;cases this
          ·rw [A8,getD_set_ne false e2];simpa using this
     refine⟨hd,λbZ=>?_,λbD bv=>?_,λbD bv=>?_⟩
     ·have:=O (by rw [p2];exact bZ)
      rw [a9,IW a7] at this
      obtain⟨Z,ac⟩:=HW (ops:=ops) (T:=T) (d:=Y.dst) (v:=undef) (o:=oi) (aw i oi hi) a8
      exact a3 _ _ _ be bn bi bb a5 (by rw [ac];exact hw) (λag s' b0 O al=>by unfold Yl;rw [Z];exact(ay ag s' b0 O al).out) this
     ·
      have b1:pure=true:=by
       cases b2:pure with
       | true=>rfl
       | false=>
        exfalso
        rw [b2,Bool.false_or] at bF
        have bz:j<ops.size:=(Array.getElem?_eq_some_iff.1 U).1
        have az:=List.all_eq_true.1 bF j (List.mem_range.2 bz)
        rw [bv] at az
        simp only [Bool.not_true,Bool.false_or] at az
        rcases Qk bH _ j Y U (λe he hb=>bw e he hb) az with q | ⟨x,Z,ac⟩
        ·have b3:i<listed.size:=by rw [a4];exact(Array.getElem?_eq_some_iff.1 hi).1
         simp [Array.getD_eq_getD_getElem?,b3] at q bx
         rw [bx] at q;cases q
        ·have:¬x<listed.size:=by rw [a4];intro K;simp [K] at Z
         simp [Array.getD_eq_getD_getElem?,this] at ac
      have bo:=NZ _ (bU (by rw [p2];exact bD) bv)
      rw [bL] at bo
      refine En _ bo ?_ (λ_ _ h=>h)
      rintro bu s' ⟨K,al,bE⟩
      have bq:s'.q=false:=bE.trans a5
      have bN:pure=false->∀{α:Prop},α:=λe=>by rw [b1] at e;cases e
      cases bu with
      | value u=>
       simp only at K ⊢
       rw [a9,IW a7] at K
       obtain⟨Z,ac⟩:=HW (ops:=ops) (T:=T) (d:=Y.dst) (v:=u) (o:=oi) (aw i oi hi) a8
       exact a3 _ _ _ be bn bi bb bq (by rw [ac];exact hw) (λag s2 ap O aq=>by unfold Yl;rw [Z];exact(ay ag s2 ap (λx o h=>O x o (by rw [al];exact h)) (λe=>bN e)).out) K
      | skip=>
       simp only at K ⊢
       rw [a9,IW a7] at K
       obtain⟨Z,ac⟩:=HW (ops:=ops) (T:=T) (d:=Y.dst) (v:=undef) (o:=oi) (aw i oi hi) a8
       exact a3 _ _ _ be bn bi bb bq (by rw [ac];exact hw) (λag s2 ap O aq=>by unfold Yl;rw [Z];exact(ay ag s2 ap (λx o h=>O x o (by rw [al];exact h)) (λe=>bN e)).out) K
      | _=>exact K.elim
     ·have bo:=NZ _ (bV (by rw [p2];exact bD) bv)
      rw [bL] at bo
      refine En _ bo ?_ (λ_ _ h=>h)
      rintro bu s' ⟨K,al,bE⟩
      have bO:=Qx (D:=D) al
      have bq:(Cy D s s').q=false:=by show s'.q=false;rw [bE];exact a5
      cases bu with
      | value u=>
       simp only at K ⊢
       rw [a9,IW a7] at K
       obtain⟨Z,ac⟩:=HW (ops:=ops) (T:=T) (d:=Y.dst) (v:=u) (o:=oi) (aw i oi hi) a8
       exact a3 _ _ _ be bn bi bb bq (by rw [ac];exact hw) (λag s2 ap O aq=>by unfold Yl;rw [Z];exact(ay ag s2 ap (λx o h=>O x o (SE al h)) (λe=>by rw [bO] at aq;exact aq e)).out) K
      | skip=>
       simp only at K ⊢
       rw [a9,IW a7] at K
       obtain⟨Z,ac⟩:=HW (ops:=ops) (T:=T) (d:=Y.dst) (v:=undef) (o:=oi) (aw i oi hi) a8
       exact a3 _ _ _ be bn bi bb bq (by rw [ac];exact hw) (λag s2 ap O aq=>by unfold Yl;rw [Z];exact(ay ag s2 ap (λx o h=>O x o (SE al h)) (λe=>by rw [bO] at aq;exact aq e)).out) K
      | _=>exact K.elim)
end
section
variable {P:Program}(J:Judge P)(Q:Gs_)(b:Frame)(n:Nat)(ds:Ld_)(ops:Ao_)(k:Li_)(cs:Lf_)(X D:Nat->Bool)
def FL(fuel:Nat)(listed:Array Bool)(L:Env)(s:St):Prop:=∀T,Has n L T->JB J Q b ds ops k cs X D fuel listed T s
end
theorem JB.take{i:Nat}{oi:Oper}{w pure:Bool}{v:Value}{P:Program}{J:Judge P}{Q:Gs_}{b:Frame}{ds:Ld_}{ops:Ao_}{k:Li_}{cs:Lf_}{X D:Nat->Bool}(hi:ops[i]? =some oi)(K:X i=false)(O:(pure || waitAll ops X i)=true)(U:Region.noSelect ops=true)(Y:∀c,oi.op≠ .defer c)
  (fuel:Nat) (listed:Array Bool) (T:Av_) (s:St) (Z:IC ops listed i oi=true) (ac:Hx ops listed=true) (ag:listed.size=ops.size) (al:i∈Region.ready .any ops listed) (am:s.q=false) (ap:Region.wanted oi (yielded ops T)=w)
  (aq:w=true->∀s',s'.q=false->(pure=false->∀x o,(BA D s).E x=some o->s'.E x=some o)->Yl P oi (BB T) s' v)
  (h:JB J Q b ds ops k cs X D fuel (A8 listed i) (CM T oi.dst (if w then v else undef)) s):JB J Q b ds ops k cs X D (fuel+1) listed T s:=
 Rn hi K O U Y fuel listed T s Z ac ag al am ap (λe s' aw _ ay=>aq e s' aw ay) h
def JF(ops:Ao_)(listed:Array Bool)(xs:List Nat)(pure:Bool)(i:Nat):Bool:=match ops[i]? with
 | some oi=> !AZ xs i&&(pure || waitAll ops (AZ xs) i)&&Region.noSelect ops&& !Dw oi.op&&IC ops listed i oi&&Hx ops listed&&listed.size==ops.size&&(Region.ready .any ops listed).contains i
 | none=>false
section
variable {P:Program}{J:Judge P}{Q:Gs_}{b:Frame}{n:Nat}{ds:Ld_}{ops:Ao_}{k:Li_}{cs:Lf_}{fuel:Nat}{X D:Nat->Bool}{listed:Array Bool}{L:Env}{s:St}{E H:LH}{S:List Seg}{xl bks:List Nat}
variable {d:Option Tmp}{x y:Operand}{t u ty e:TypeId}{p:String}{af:Ae_}{g:On_}{v:Value}{i:Nat}{kd:IntKind}
theorem H3(xl bks:List Nat){id:Nat}(hm:P.follows .mixedOrders=true)(K:(b.kind != .early)=true)
  (h:FL J Q b n ds ops k cs (AZ xl) (AZ bks) ops.size (Array.replicate ops.size false) L (Ak E H S)):JL J Q b n L ds (.code (.region id ops true)::k) cs (Ak E H S):=
 So rfl hm λt T O=>WC (by simpa using K) ops.size t _ T _ (h T O)
theorem JB.val{oi:Oper}(i:Nat)(pure:Bool)(hi:ops[i]? =some oi)(K:JF ops listed xl pure i=true)(Y:s.q=false)
  (hw:AL L ops oi=some true) (Z:Bf n oi.dst=true) (ac:∀ρ,EP L ρ->∀s':St,(pure=false->∀x o,(BA D s).E x=some o->s'.E x=some o)->Yl P oi ρ s' v)
  (h:FL J Q b n ds ops k cs (AZ xl) D fuel (A8 listed i) (Av L oi.dst v) s):FL J Q b n ds ops k cs (AZ xl) D (fuel+1) listed L s:=λT O=>by
 simp only [JF,hi,Bool.and_eq_true] at K
 obtain⟨⟨⟨⟨⟨⟨⟨ag,al⟩,am⟩,U⟩,ap⟩,aq⟩,aw⟩,ay⟩:=K
 refine JB.take (w:=true) (v:=v) (pure:=pure) hi (by simpa using ag) al am (λc K=>by rw [K] at U;simp [Dw] at U) fuel listed T s ap aq (by simpa using aw) (by simpa using ay) Y (B6 O hw) (λ_ s' a0 az=>ac _ O.F0 s' az) ?_
 exact h _ (O.put Z v)
theorem KR{oi:Oper}(i:Nat)(hi:ops[i]? =some oi)(K:JF ops listed xl true i=true)(Y:s.q=false)
  (hw:AL L ops oi=some true) (Z:Bf n oi.dst=true) (ac:∀ρ,EP L ρ->∀s':St,(∀x o,s.E x=some o->s'.E x=some o)->Yl P oi ρ s' v)
  (h:FL J Q b n ds ops k cs (AZ xl) D fuel (A8 listed i) (Av L oi.dst v) s):FL J Q b n ds ops k cs (AZ xl) D (fuel+1) listed L s:=λT O=>by
 simp only [JF,hi,Bool.and_eq_true] at K
 obtain⟨⟨⟨⟨⟨⟨⟨ag,al⟩,am⟩,U⟩,ap⟩,aq⟩,aw⟩,ay⟩:=K
 refine Rn (w:=true) (v:=v) (pure:=true) hi (by simpa using ag) al am (λc K=>by rw [K] at U;simp [Dw] at U) fuel listed T s ap aq (by simpa using aw) (by simpa using ay) Y (B6 O hw) (λ_ s' a0 az _=>ac _ O.F0 s' az) ?_
 exact h _ (O.put Z v)
theorem JB.fin(K:Region.ready .any ops listed= [])(h:JL J Q b n L ds k cs s):FL J Q b n ds ops k cs X D 0 listed L s:=λT O=>⟨K,JL.done h T O⟩
theorem JB.store{bk off:Nat}{c:Av_}(i j:Nat)(U:Region.ready .any ops listed= [i])(ag:AZ xl i=true)(al:ops[i]? =some ⟨d,.store t x y,ty,p,af,g⟩)(hw:AL L ops ⟨d,.store t x y,ty,p,af,g⟩=some true)(am:Bf n d=true)(ap:Ap E H S)
  (aq:ev L x=some (.pointer (some ⟨bk,off,none⟩))) (aw:ev L y=some v) (ay:Bl P t=some v.cells.size) (az:∀u∈v.cells.toList,Dc u=true) (Y:S[j]? =some [(bk,.cells c e (0,0))]) (hle:off+v.cells.size<=c.size)
  (h:Ap E H (S.set j [(bk,.cells (Be c off v.cells.toList) e (0,0))])->FL J Q b n ds ops k cs (AZ xl) D fuel (A8 listed i) (Av L d undef) (Ak E H (S.set j [(bk,.cells (Be c off v.cells.toList) e (0,0))]))):
  FL J Q b n ds ops k cs (AZ xl) D (fuel+1) listed L (Ak E H S):=λT K=>by
 refine⟨by rw [U];simp,rfl,λa7 O o' Z=>?_⟩
 rw [U] at O
 simp at O
 subst O
 obtain rfl:o'=⟨d,.store t x y,ty,p,af,g⟩:=by rw [al] at Z;exact(Option.some.inj Z).symm
 have a0:=B6 K hw;refine⟨λc a1=>(by cases a1),λe=>?_,λ_ _=>?_,λ_ e=>?_⟩
 ·rw [a0] at e;cases e
 ·obtain⟨a2,a3⟩:=G5 ap Y;rw [a2];show lp P (do Instr.storeAt t (BB T x) (BB T y);pure Next.skip) _ _ _
  rw [K.ev aq,K.ev aw];refine Au _ _ ?_;unfold Instr.storeAt;simp only [Instr.sureAddr,bind,Sem.bind,pure];refine Qs (pl:=(S.set j []).flatten.length) ay az a3 (c:=c) (e:=e) (by simp) hle λac=>?_;have a4:((S.set j []).flatten++ [(bk,Obj.cells c e (0,0))]).set (S.set j []).flatten.length (bk,.cells (Be c off v.cells.toList) e (0,0))=(S.set j []).flatten++ [(bk,.cells (Be c off v.cells.toList) e (0,0))]:=I2 _ _ _ _;rw [a4] at ac ⊢;obtain⟨a5,a6⟩:=I4 Y ac;rw [a5];exact h a6 _ (K.put am undef)
 ·rw [ag] at e;cases e
end
end Pal
namespace Pal
open Go Go.Conc
theorem MF{E H:LH}{S:List Seg}{bks:List Nat}{bk o:Nat}{l ws:Lv_}{e:TypeId}{f:Nat×Nat}{s':St}{w:Value}(j:Nat)(K:Ap E H S)(O:S[j]? =some [(bk,.cells (l++ws).toArray e f)])(U:AZ bks bk=true)(Y:∀x o,(BA (AZ bks) (Ak E H S)).E x=some o->s'.E x=some o)(Z:ws[o]? =some w):s'.cell? ⟨bk,l.length+o,none⟩=some w:=by
 have:=Wm j K O U Y o w Z
 rwa [Ec rfl] at this
section
variable {P:Program}{E H:LH}{B:List (Nat×Obj)}{t e ty:TypeId}
theorem Qh{ats:Array TypeId}{a:Option Addr}{l K O m cx:Nat}{ax:Option Addr}{xs ys:Lv_}{z:Value}{Q:Value->St->Prop}{X:Halt->St->Prop}
  (a1:ats[0]? =some t) {t1 a2:TypeId} (a3:ats[1]? =some t1) (a4:P.underlying t1=some (.slice a2)) (a5:P.underlying t=some (.slice e)) (a6:Bl P e=some K) (hb:Fw P e=some O) (a7:zeroOf P e=some z) (a8:z.cells.size=K)
  (a9:Nd E H B) (al:HD (mk E H B) (.slice a l l) K xs)
  (Z:HD (mk E H B) (.slice ax m cx) K ys) (bv:∀w∈ys,Dc w=true) (bw:0<O) (bx:l+m<=2 ^ 40) (bb:O<=64)
  (az:m=0->Q (.slice a (l+m) l) (mk E H B))
  (be:∀r ac am,l+m<=am->ac.size=am*K->ac.toList.take ((l+m)*K)=xs++ys->Nd E H (B++ [(r,.cells ac e (0,0))])->Q (.slice (some ⟨r,0,none⟩) (l+m) am) (mk E H (B++ [(r,.cells ac e (0,0))]))):
  lp P (Builtin.append_ ats ty #[.slice a l l,.slice ax m cx]) (mk E H B) Q X:=by
 unfold Builtin.append_;simp only [a1,a3,List.getElem?_toArray,List.getElem?_cons_zero,List.getElem?_cons_succ];refine Au _ _ (Co a5 ?_);refine Au _ _ (ED a6 ?_);refine Au _ _ (Co a4 ?_);simp only [HU,Bool.false_eq_true,if_false,Builtin.lenOf,Bool.not_false,if_true];have ag:ys.length=m*K:=by
  cases ax with
  | none=>obtain⟨U,Y⟩:=Z;subst U Y;simp
  | some ad=>exact Z.2.1
 have ap:xs.length=l*K:=by
  cases a with
  | none=>obtain⟨U,Y⟩:=al;subst U Y;simp
  | some ad=>exact al.2.1
 obtain⟨c,bz⟩:∃c,c=l:=⟨_,rfl⟩;split
 ·rename_i bA;have hm:m=0:=by omega
  have bi:ys= []:=List.eq_nil_of_length_eq_zero (by rw [ag,hm];simp);refine Au _ _ (J1 ⟨ax,cx,rfl⟩ Z ?_);subst bi;cases a with
  | none=>exact az hm
  | some ad=>exact az hm
 ·rename_i bB;have U:¬(((l+m:Nat):Int)>IntKind.i64.max/\(False∨O=0)):=by rintro⟨_,h | h⟩ <;> omega
  have Y:¬(Builtin.nextslicecap (l+m) l*O>2 ^ 48):=by
   have:=QC (need:=l+m) (old:=l) (by omega);have bC:Builtin.nextslicecap (l+m) l*O<=(2*(l+m)+768)*64:=Nat.mul_le_mul this bb;omega
  obtain⟨inf,aq,aw⟩:=OI hb;refine Au _ _ (J2 aq ?_);rw [aw,if_neg U];refine Au _ _ (J2 aq ?_);rw [aw,if_neg Y];refine Au _ _ ?_;simp only [choose,lp,Question.forced,Bool.false_eq_true,if_false];refine⟨rfl,λbn=>?_⟩;generalize bo:(Question.appendCap (l+m) l e).cut bn=ay;have bq:l+m<=ay:=by rw [← bo];simp [Question.cut]
  refine Au _ _ (J2 aq ?_);rw [aw];have br:∀{α:Type} {f:Unit->Sem α} {Q:α->St->Prop},lp P (f ()) (mk E H B) Q X->lp P (askRoom (ay*O)>>=f) (mk E H B) Q X:=by
   intro α f Q a0;refine Au _ _ ?_;unfold askRoom;split
   ·exact⟨.inl ⟨rfl,rfl⟩,a0⟩
   ·exact a0
  refine br (Au _ _ (J1 ⟨a,l,rfl⟩ al ?_));refine Au _ _ (J1 ⟨ax,cx,rfl⟩ Z ?_);refine Au _ _ (G2 a7 ?_);refine Au _ _ (Iw a9 λr bu=>?_);refine be r _ ay bq ?_ ?_ bu
  ·simp only [Array.size_append,List.size_toArray,Qf,a8,ap,ag];rw [← Nat.add_mul,← Nat.add_mul];congr 1;omega
  ·simp only [Array.toList_append];rw [List.take_append_of_le_length (by simp [ap,ag,Nat.add_mul])];rw [List.take_of_length_le (by simp [ap,ag,Nat.add_mul])]
end
theorem Al.spot{α:Type}{pp:Rp α}{E:LH}{a:Option Addr}{c:Nat}{xs:List α}(h:Al pp E a c xs):∀ad,a=some ad->ad.spot=none∨c=0:=λad K=>by
 rcases h.2 with⟨_,h⟩ | ⟨bk,off,h,_⟩
 ·exact h ad K
 ·rw [h] at K;cases K;exact .inl rfl
theorem Al.full{α:Type}{pp:Rp α}{E:LH}{a:Option Addr}{c:Nat}{xs:List α}(h:Al pp E a c xs):Al pp E a xs.length xs:=⟨Nat.le_refl _,h.2.imp (λ⟨h,_⟩=>⟨h,λ_ _=> .inr (by rw [h];rfl)⟩) id⟩
theorem Al.KV{α:Type}{pp:Rp α}{E H:LH}{B:List (Nat×Obj)}{a:Option Addr}{c:Nat}{ys:List α}(ac:Al pp E a c ys):
  ∃K:List (Lv_),K.length=ys.length/\(∀(i:Nat) x ws,ys[i]? =some x->K[i]? =some ws->pp.r E ws x)/\HD (mk E H B) (.slice a ys.length c) pp.n K.flatten/\∀w∈K.flatten,Dc w=true:=by
 obtain⟨K,U,Z,Y⟩:=ac.rows;have ag:=H2 U Z;refine⟨K,U,Z,?_,λw hw=>?_⟩
 ·rcases Y with⟨Y,ay⟩ | ⟨bk,off,rfl,Y⟩
  ·subst Y;have:K= []:=List.eq_nil_of_length_eq_zero U;subst this;cases a with
   | none=>exact⟨rfl,rfl⟩
   | some ad=>exact⟨.inr rfl,by simp,Nat.zero_le _,λq w O=>by simp at O⟩
  ·refine⟨.inl rfl,by rw [Lq ag,U],ac.1,λq w O=>?_⟩;obtain⟨al,m,ws,am,e2,ap⟩:=On ag O;have:=(Y al ws am).cell (H:=H) (B:=B) e2;subst ap;rw [← Nat.add_assoc];exact this
 ·obtain⟨us,aq,hw⟩:=List.mem_flatten.1 hw;obtain⟨q,O⟩:=List.mem_iff_getElem?.1 aq;have aw:q<ys.length:=by rw [← U];exact(List.getElem?_eq_some_iff.1 O).1
  exact pp.one (Z q _ us (List.getElem?_eq_getElem aw) O) w hw
section
variable {P:Program}{J:Judge P}{Q:Gs_}{b:Frame}{n:Nat}{ds:Ld_}{ops:Ao_}{k:Li_}{cs:Lf_}{L:Env}{s:St}{E E' H:LH}{S:List Seg}
variable {d:Option Tmp}{x y z1:Operand}{t u ty e:TypeId}{p:String}{af:Ae_}{g:On_}{v:Value}{i:Nat}{rest:List Nat}{kd:IntKind}{ρ:Operand->Value}
theorem QM{a:Option Addr}{l c K:Nat}(O:∀ad,a=some ad->ad.spot=none∨c=0)(U:l<=c)(Y:P.underlying t=some (.slice e))(Z:Bl P e=some K)(ac:ρ x= .slice a l c)(ag:ρ y=iV (l:Int))(al:ρ z1=iV (l:Int)):
  Yl P ⟨d,.slice t x none (some y) (some z1),ty,p,af,g⟩ ρ s (.slice a l l):=by
 have h:=Yl.slice (P:=P) (s:=s) (d:=d) (ty:=ty) (p:=p) (af:=af) (g:=g) (olo:=none) (ohi:=some y) (omx:=some z1) (lo:=0) (hi:=l) (mx:=l) Y Z ac al ag rfl U (Nat.le_refl _) (Nat.zero_le _);have am:(if l=0 then a else a.map (·.add (0*K)))=a:=by
  split
  ·rfl
  ·cases a with
   | none=>rfl
   | some ad=>
    have:=(O ad rfl).resolve_right (by omega);simp only [Option.map_some,Nat.zero_mul];rw [Ec this];obtain⟨b,o,sp⟩:=ad;simp only at this;subst this;simp
 rw [am] at h;simpa using h
theorem U4{α:Type}{pp:Rp α}{t1:TypeId}{Y c cx:Nat}{a ax:Option Addr}{xs ys Z:List α}{ats:Array TypeId}{z:Value}(U:C4 xs ys=some Z)
  (ay:ops[i]? =some ⟨d,.call ⟨.builtin .append,#[x,y],ats⟩,ty,p,af,g⟩) (hw:AL L ops ⟨d,.call ⟨.builtin .append,#[x,y],ats⟩,ty,p,af,g⟩=some true) (az:BL b n ⟨d,.call ⟨.builtin .append,#[x,y],ats⟩,ty,p,af,g⟩=true)
  (a0:ev L x=some (.slice a xs.length xs.length)) (a1:ev L y=some (.slice ax ys.length cx)) (a2:ats[0]? =some t) (a3:ats[1]? =some t1) (a4:P.underlying t=some (.slice e)) (a5:P.underlying t1=some (.slice e)) (a6:Bl P e=some pp.n) (hb:Fw P e=some Y) (a7:zeroOf P e=some z) (a8:z.cells.size=pp.n)
  (a9:0<Y) (bb:Y<=64) (ac:Al pp E a c xs) (be:Al pp E ax cx ys) (ag:Ap E H S)
  (h:∀E' al K,Le E E'->Al pp E' al K Z->Ap E' H (S++ [[]])->JL J Q b n (Av L d (.slice al Z.length K)) ds (.inRegion ops rest::k) cs (Ak E' H (S++ [[]]))):
  JL J Q b n L ds (.inRegion ops (i::rest)::k) cs (Ak E H S):=by
 unfold C4 at U;split at U
 rotate_left
 ·cases U
 rename_i bi;cases U;obtain⟨wss,am,bn,bo,bI⟩:=Al.KV (H:=H) (B:=S.flatten) ac.full;obtain⟨bq,br,bu,bv,bw⟩:=Al.KV (H:=H) (B:=S.flatten) be;have hlen:(xs++ys).length=xs.length+ys.length:=by simp
 show JL J Q b n L ds (.inRegion ops (i::rest)::k) cs (mk E H S.flatten);refine JL.op ay hw az λρ ap=>?_;rw [Ln,ap x _ a0,ap y _ a1];refine Au _ _ (Qh a2 a3 a5 a4 a6 hb a7 a8 ag bo bv bw a9 bi bb ?_ ?_)
 ·intro hm;have bx:ys= []:=List.eq_nil_of_length_eq_zero hm;subst bx;have bz:Ap E H (S++ [[]]):=by unfold Ap at*;rw [GD,List.append_nil];exact ag
  have bA:mk E H S.flatten=Ak E H (S++ [[]]):=by unfold Ak;rw [GD,List.append_nil]
  rw [bA];have:=h E a xs.length (Le.refl _) (by rw [List.append_nil];exact ac.full) bz;rw [hlen] at this;exact this
 ·intro r O K bB bC bD bE;have bF:OL e pp E (some ⟨r,0,none⟩) K [(r,.cells O e (0,0))] (xs++ys):=
   ⟨wss++bq,.inr ⟨r,O,rfl,rfl,bC,by rw [hlen];exact bB,by rw [hlen,List.flatten_append];exact bD.symm⟩,by simp [am,br],Mv am bn bu⟩
  have aq:=Fe (S:=S) (seg:= [(r,.cells O e (0,0))]) bE;show JL J Q b n _ ds _ cs (mk E H (S.flatten++ [(r,.cells O e (0,0))]));rw [aq.1];refine BJ S.length bF aq.2 (by simp) λE' hle bG aw=>?_;have bH:(S++ [[(r,Obj.cells O e (0,0))]]).set S.length []=S++ [[]]:=I2 _ _ _ _;rw [bH] at aw ⊢;have:=h E' (some ⟨r,0,none⟩) K hle bG aw;rw [hlen] at this;exact this
end
end Pal
