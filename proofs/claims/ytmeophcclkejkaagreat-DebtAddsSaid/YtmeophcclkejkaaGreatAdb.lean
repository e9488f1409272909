/- DebtAdds, row of debt: for every input the law is true and its arguments read behind the call as before it. Part 2 of 9. -/
import Derived.Test.YtmeophcclkejkaaGreatAda
import Derived.Conc.WgLib
import Derived.Conc.WgArith
import Derived.Conc.WgGenW
set_option linter.all false
set_option maxRecDepth 100000
namespace Pal
open Go Go.Conc
open Go.ConcN (upd upd_same upd_ne sumTo sumTo_upd sumTo_upd_out sumTo_congr le_sumTo sumTo_le)
def cU:Nx->Nat
 | .ph (.GY _) | .ph .HD | .ph .Gi | .ph .Iw | .ph .G2 | .ph (.lk _ _)=>1
 | _=>0
def cL:Nx->Nat
 | .ph .GB | .ph .GW=>1
 | _=>0
def cS:Nx->Nat
 | .ph .Fb=>1
 | _=>0
def pend:Nx->Nat
 | .ph (.Ic _) | .ph (.Hu _) | .ph (.GG _) | .ph (.FE _)=>1
 | _=>0
def got:Nx->List Nat
 | .ph (.Fz K _)=>K
 | _=> []
def MV:Nx->Prop
 | .gone _=>True
 | _=>False
def Ho(n j:Nat)(c:Bool):Ph->Prop
 | .F1 K | .H5 K | .Ic K | .Hu K | .GG K | .FE K=>K=j/\j<n/\c=false
 | .GC=>j=n/\c=false
 | .Fz _ _=>j=n/\c=true
 | _=>False
def Gz(F:Fam)(k:Nat):Nx->Prop
 | .gone _=>True
 | .ph (.GY k')=>k'=k/\F.has k=true
 | .ph (.lk k' _)=>k'=k
 | .ph .HD | .ph .Gi | .ph .Iw | .ph .G2 | .ph .GB | .ph .GW | .ph .Fb=>True
 | _=>False
def IW:Nx->Prop
 | .gone _=>True
 | .ph .Dl | .ph (.FN _) | .ph (.G1 _) | .ph .H7 | .ph .HB | .ph .Fl | .ph .GX | .ph .FR | .ph .H0 | .ph .FZ | .ph .Hm=>True
 | _=>False
def Dx(x:Nx)(v wt sm L S:Nat)(cl:Bool):Prop:=
 match x with
 | .ph .Dl=>L=0/\S=0/\sm=0/\wt=0/\cl=false
 | .ph (.FN m)=>L=0/\S=0/\sm=0/\wt=0/\cl=false/\v<=m
 | .ph (.G1 m)=>L=0/\S=0/\sm=0/\wt=0/\cl=false/\v<=m/\1<=m
 | .ph .H7 | .ph .HB | .ph .Fl=>L+S+sm+min v 1=1/\wt=L+min v 1/\cl=false
 | .ph .GX | .ph .FR | .ph .H0 | .ph .FZ | .ph .Hm=>L=0/\S=0/\sm=0/\wt=0/\v=0/\cl=false
 | .gone _=>L=0/\S=0/\sm=0/\wt=0/\v=0/\cl=true
 | _=>False
structure CH (F:Fam) (N0 N j:Nat) (c:Bool) (φ:Nat->Nx) (v wt sm:Nat) (cl:Bool):Prop where
 pos:0<N0
 n1:1<=F.n
 Hy:F.n<2147483647
 size:N=N0+j+c.toNat
 jn:j<=F.n
 cj:c=true->j=F.n
 main:∃p,φ 0= .ph p/\Ho F.n j c p
 old:∀i,0<i->i<N0->MV (φ i)
 work:∀k,k<j->Gz F k (φ (N0+k))
 cls:c=true->IW (φ (N0+F.n))
 cnt:v=sumTo N (λi=>cU (φ i))+pend (φ 0)
 JD:v<=j+pend (φ 0)
 mode:Dx (if c=true then φ (N0+F.n) else .ph .Dl) v wt sm (sumTo N λi=>cL (φ i)) (sumTo N λi=>cS (φ i)) cl
 Kj:∀k,k<j->F.has k=true->(φ (N0+k)= .ph (.GY k)↔k ∉ got (φ 0))
 nd:(got (φ 0)).Nodup
 sub:∀k∈got (φ 0),k<j/\F.has k=true
section
variable {F:Fam}{N0 N j:Nat}{c:Bool}{φ:Nat->Nx}{v wt sm v' wt' sm':Nat}{cl cl':Bool}
theorem CH.Du(h:CH F N0 N j c φ v wt sm cl){i:Nat}(hi:i<N):i=0∨(0<i/\i<N0)∨(∃k,k<j/\i=N0+k)∨(c=true/\i=N0+F.n):=by
 have:=h.size;rcases Nat.eq_zero_or_pos i with K | K
 ·exact .inl K
 rcases Nat.lt_or_ge i N0 with U | U
 ·exact .inr (.inl ⟨K,U⟩)
 rcases Nat.lt_or_ge i (N0+j) with V | V
 ·exact .inr (.inr (.inl ⟨i - N0,by omega,by omega⟩))
 ·cases O:c with
  | false=>rw [O] at this;simp at this;omega
  | true=>have e:=h.cj O;rw [O] at this;simp at this;exact .inr (.inr (.inr ⟨rfl,by omega⟩))
theorem CH.Px(h:CH F N0 N j c φ v wt sm cl):v<=F.n:=by
 have K:=h.JD;obtain⟨p,O,hm⟩:=h.main;have:=h.jn;rw [O] at K;cases p <;> simp [Ho] at hm <;> simp [pend] at K <;> omega
theorem CH.H4(h:CH F N0 N j c φ v wt sm cl){k:Nat}(aa:k<j){x:Nx}(ab:Gz F k x)(ac:∀k',φ (N0+k)≠ .ph (.GY k'))(ae:∀k',x≠ .ph (.GY k'))
  (ao:v'+cU (φ (N0+k))=v+cU x)
  (hm:∀L S,L+cL (φ (N0+k))=(sumTo N λi=>cL (φ i))+cL x->S+cS (φ (N0+k))=(sumTo N λi=>cS (φ i))+cS x->Dx (if c=true then φ (N0+F.n) else .ph .Dl) v' wt' sm' L S cl'):
  CH F N0 N j c (upd φ (N0+k) x) v' wt' sm' cl':=by
 have ap:=h.size;have aq:=h.jn;have ar:=h.pos;have V:N0+k<N:=by omega
 have K:upd φ (N0+k) x 0=φ 0:=upd_ne _ _ (by omega);have ag:(if c=true then upd φ (N0+k) x (N0+F.n) else .ph .Dl)=(if c=true then φ (N0+F.n) else .ph .Dl):=by
  cases O:c with
  | false=>rfl
  | true=>have:=h.cj O;simp only [if_true];exact upd_ne _ _ (by omega)
 have s1:=sumTo_upd φ x cU V;have s2:=sumTo_upd φ x cL V;have ah:=sumTo_upd φ x cS V;have au:=h.cnt;have av:=h.JD;refine⟨h.pos,h.n1,h.Hy,h.size,h.jn,h.cj,by rw [K];exact h.main,λi ai aj=>by rw [upd_ne _ _ (by omega)];exact h.old i ai aj,λk' U=>?_,λO=>?_,by rw [K];omega,?_,?_,λk' U hh=>?_,by rw [K];exact h.nd,by rw [K];exact h.sub⟩
 ·by_cases e:k'=k
  ·subst e;rw [upd_same];exact ab
  ·rw [upd_ne _ _ (by omega)];exact h.work k' U
 ·have:=h.cj O;rw [upd_ne _ _ (by omega)];exact h.cls O
 ·rw [K];have:cU x<=1:=by cases x with
   | gone d=>simp [cU]
   | ph p=>cases p <;> simp [cU]
  have hw:=h.work k aa;have key:cU x<=cU (φ (N0+k))∨cU (φ (N0+k))<cU x:=by omega
  rcases key with hle | aw
  ·omega
  ·
   have:(sumTo N λa=>cU (upd φ (N0+k) x a))<=j:=by
    have hb:∀M,M<=N->(sumTo M λa=>cU (upd φ (N0+k) x a))<=min (M - N0) j:=by
     intro M
     induction M with
     | zero=>intro _;simp [sumTo]
     | succ M ak=>
      intro ay;have:=ak (by omega);simp only [sumTo];have az:cU (upd φ (N0+k) x M)<=1:=by
       generalize upd φ (N0+k) x M=y;cases y with
       | gone d=>simp [cU]
       | ph p=>cases p <;> simp [cU]
      have Z:(M<N0∨N0+j<=M)->cU (upd φ (N0+k) x M)=0:=by
       intro aA;rw [upd_ne _ _ (by omega)];rcases h.Du (i:=M) (by omega) with rfl | ⟨a,b⟩ | ⟨k',a,rfl⟩ | ⟨a,rfl⟩
       ·obtain⟨p,al,hm⟩:=h.main;rw [al];cases p <;> simp [Ho] at hm <;> rfl
       ·have:=h.old M a b;cases Y:φ M with
        | gone d=>rfl
        | ph p=>rw [Y] at this;exact this.elim
       ·omega
       ·have:=h.cls a;cases Y:φ (N0+F.n) with
        | gone d=>rfl
        | ph p=>rw [Y] at this;cases p <;> simp [IW] at this <;> rfl
      rcases Nat.lt_or_ge M N0 with q | q
      ·rw [Z (.inl q)];omega
      ·rcases Nat.lt_or_ge M (N0+j) with q' | q'
       ·omega
       ·rw [Z (.inr q')];omega
    have:=hb N (Nat.le_refl _);omega
   omega
 ·rw [ag];exact hm _ _ s2 ah
 ·rw [K];by_cases e:k'=k
  ·subst e;rw [upd_same];have:=h.Kj k' U hh;constructor
   ·intro am;exact absurd am (ae k')
   ·intro an;exact absurd (this.2 an) (ac k')
  ·rw [upd_ne _ _ (by omega)];exact h.Kj k' U hh
theorem CH.Hv(h:CH F N0 N j c φ v wt sm cl)(O:c=true){x:Nx}(Y:IW x)
  (hm:Dx x v wt' sm' (sumTo N λi=>cL (φ i)) (sumTo N λi=>cS (φ i)) cl'):
  CH F N0 N j c (upd φ (N0+F.n) x) v wt' sm' cl':=by
 have Z:=h.size;have ag:=h.pos;have ah:=h.cj O;have U:N0+F.n<N:=by rw [O] at Z;simp at Z;omega
 have K:upd φ (N0+F.n) x 0=φ 0:=upd_ne _ _ (by omega);have z:∀y,IW y->cU y=0/\cL y=0/\cS y=0:=by
  intro y aa;cases y with
  | gone d=>exact⟨rfl,rfl,rfl⟩
  | ph p=>cases p <;> simp [IW] at aa <;> exact⟨rfl,rfl,rfl⟩
 have z1:=z _ (h.cls O);have ai:=z x Y;have s1:=sumTo_upd φ x cU U;have s2:=sumTo_upd φ x cL U;have aj:=sumTo_upd φ x cS U;have ak:=h.cnt;refine⟨h.pos,h.n1,h.Hy,h.size,h.jn,h.cj,by rw [K];exact h.main,λi ab ac=>by rw [upd_ne _ _ (by omega)];exact h.old i ab ac,λk' V=>?_,λO=>?_,by rw [K];omega,by rw [K];exact h.JD,?_,λk' V hh=>?_,by rw [K];exact h.nd,by rw [K];exact h.sub⟩
 ·rw [upd_ne _ _ (by omega)];exact h.work k' V
 ·rw [upd_same];exact Y
 ·rw [if_pos O,upd_same];have e2:(sumTo N λi=>cL (upd φ (N0+F.n) x i))=sumTo N λi=>cL (φ i):=by omega
  have ae:(sumTo N λi=>cS (upd φ (N0+F.n) x i))=sumTo N λi=>cS (φ i):=by omega
  rw [e2,ae];exact hm
 ·rw [K,upd_ne _ _ (by omega)];exact h.Kj k' V hh
theorem Qw{n j:Nat}{c:Bool}{p:Ph}(h:Ho n j c p):cU (.ph p)=0/\cL (.ph p)=0/\cS (.ph p)=0:=by
 cases p <;> simp [Ho] at h <;> exact⟨rfl,rfl,rfl⟩
theorem CH.K2(h:CH F N0 N j c φ v wt sm cl){p:Ph}(V:Ho F.n j c p)(K:got (.ph p)=got (φ 0))(ai:v'+pend (φ 0)=v+pend (.ph p))(Y:v'<=j+pend (.ph p))
  (hm:Dx (if c=true then φ (N0+F.n) else .ph .Dl) v' wt' sm' (sumTo N λi=>cL (φ i)) (sumTo N λi=>cS (φ i)) cl'):
  CH F N0 N j c (upd φ 0 (.ph p)) v' wt' sm' cl':=by
 have aj:=h.size;have ak:=h.pos;have O:0<N:=by omega
 obtain⟨al,Z,aa⟩:=h.main;have z1:=Qw aa;have am:=Qw V;rw [← Z] at z1;have s1:=sumTo_upd φ (.ph p) cU O;have s2:=sumTo_upd φ (.ph p) cL O;have an:=sumTo_upd φ (.ph p) cS O;have ao:=h.cnt;have ab:(if c=true then upd φ 0 (.ph p) (N0+F.n) else .ph .Dl)=(if c=true then φ (N0+F.n) else .ph .Dl):=by rw [upd_ne _ _ (by omega)]
 refine⟨h.pos,h.n1,h.Hy,h.size,h.jn,h.cj,⟨p,upd_same _ _ _,V⟩,λi ac ae=>by rw [upd_ne _ _ (by omega)];exact h.old i ac ae,λk' U=>by rw [upd_ne _ _ (by omega)];exact h.work k' U,λag=>by rw [upd_ne _ _ (by omega)];exact h.cls ag,by rw [upd_same];omega,by rw [upd_same];exact Y,?_,λk' U hh=>?_,by rw [upd_same,K];exact h.nd,by rw [upd_same,K];exact h.sub⟩
 ·rw [ab];have e2:(sumTo N λi=>cL (upd φ 0 (.ph p) i))=sumTo N λi=>cL (φ i):=by omega
  have ah:(sumTo N λi=>cS (upd φ 0 (.ph p) i))=sumTo N λi=>cS (φ i):=by omega
  rw [e2,ah];exact hm
 ·rw [upd_same,K,upd_ne _ _ (by omega)];exact h.Kj k' U hh
theorem CH.act(h:CH F N0 N j c φ v wt sm cl){i:Nat}(hi:i<N){p:Ph}(K:φ i= .ph p){es:Array Event}{ap:Nx}(O:F.act p v wt sm=some ((v',wt',sm'),es,ap)):
  CH F N0 N j c (upd φ i ap) v' wt' sm' cl:=by
 have U:=h.mode;have ar:=h.Px;rcases h.Du hi with rfl | ⟨a,b⟩ | ⟨k,ah,rfl⟩ | ⟨Z,rfl⟩
 ·
  obtain⟨al,aq,ai⟩:=h.main;have:al=p:=by rw [aq] at K;exact Nx.ph.inj K
  subst this;have av:∀q,Ho F.n j c q->(∀au vs,q≠ .Fz au vs)->c=false:=by
   intro q am an;cases q <;> simp [Ho] at am <;> first | exact am.2.2 | exact am.2 | exact absurd rfl (an _ _)
  have ae:=h.JD;cases al <;> simp only [Ho] at ai <;> (try exact ai.elim) <;> simp only [Fam.act] at O <;> (try (cases O;done))
  ·cases O;obtain⟨rfl,ag,rfl⟩:=ai;exact h.K2 (p:= .H5 _) ⟨rfl,ag,rfl⟩ (by rw [K];rfl) (by rw [K];rfl) (by rw [K] at ae;exact ae) (by simpa [Dx] using U)
  ·split at O
   ·rename_i aa;cases O;obtain⟨rfl,ag,rfl⟩:=ai;rw [K] at ae;simp only [pend,Nat.add_zero] at ae;simp only [Bool.false_eq_true,if_false,Dx] at U;split
    ·exact h.K2 (p:= .Ic _) ⟨rfl,ag,rfl⟩ (by rw [K];rfl) (by rw [K];simp [pend]) (by simp [pend];omega) ⟨U.1,U.2.1,U.2.2.1,rfl,U.2.2.2.2⟩
    ·exact h.K2 (p:= .GG _) ⟨rfl,ag,rfl⟩ (by rw [K];rfl) (by rw [K];simp [pend]) (by simp [pend];omega) ⟨U.1,U.2.1,U.2.2.1,rfl,U.2.2.2.2⟩
   ·cases O
  ·cases O;obtain⟨rfl,ag,rfl⟩:=ai;exact h.K2 (p:= .GG _) ⟨rfl,ag,rfl⟩ (by rw [K];rfl) (by rw [K];rfl) (by rw [K] at ae;exact ae) (by simpa [Dx] using U)
  ·cases O;obtain⟨rfl,ag,rfl⟩:=ai;exact h.K2 (p:= .FE _) ⟨rfl,ag,rfl⟩ (by rw [K];rfl) (by rw [K];rfl) (by rw [K] at ae;exact ae) (by simpa [Dx] using U)
  ·cases O;obtain⟨rfl,ag,rfl⟩:=ai;exact h.K2 (p:= .Hu _) ⟨rfl,ag,rfl⟩ (by rw [K];rfl) (by rw [K];rfl) (by rw [K] at ae;exact ae) (by simpa [Dx] using U)
 ·have:=h.old i a b;rw [K] at this;exact this.elim
 ·
  have hw:=h.work k ah;rw [K] at hw;have aw:∀q k',q=Nx.ph p->(∀k',p≠ .GY k')->q≠ .ph (.GY k'):=by
   rintro q k' rfl an e;exact an k' (Nx.ph.inj e)
  cases p <;> simp only [Gz] at hw <;> (try exact hw.elim) <;> simp only [Fam.act] at O <;> (try (cases O;done))
  ·cases O;refine h.H4 ah (x:= .ph .Iw) trivial (λk'=>by rw [K];simp) (by simp) (by rw [K];rfl) λL S V Y=>?_;rw [K] at V Y;simp only [cL,cS,Nat.add_zero] at V Y;subst V Y;exact U
  ·cases O;refine h.H4 ah (x:= .ph .G2) trivial (λk'=>by rw [K];simp) (by simp) (by rw [K];rfl) λL S V Y=>?_;rw [K] at V Y;simp only [cL,cS,Nat.add_zero] at V Y;subst V Y;exact U
  ·split at O
   ·rename_i aa;cases O;have ak:∀y ab ac L S,y=(if c=true then φ (N0+F.n) else .ph .Dl)->Dx y v wt sm ab ac cl->(if v=1/\wt=1 then L=ab+1 else L=ab)->S=ac->Dx y (v - 1) wt sm L S cl:=by
     intro y ab ac L S ay hm V Y;cases y with
     | gone d=>simp only [Dx] at hm ⊢;split at V <;> omega
     | ph q=>
      cases q <;> simp only [Dx] at hm ⊢ <;> (try exact hm) <;> (try (split at V <;> omega))
      ·split at V
       ·exfalso;omega
       ·exact⟨by omega,by omega,by omega,by omega,hm.2.2.2.2⟩
      ·split at V
       ·exfalso;omega
       ·exact⟨by omega,by omega,by omega,by omega,hm.2.2.2.2.1,by omega⟩
      ·split at V
       ·exfalso;omega
       ·exact⟨by omega,by omega,by omega,by omega,hm.2.2.2.2.1,by omega,by omega⟩
      ·split at V
       ·exact⟨by omega,by omega,hm.2.2⟩
       ·exact⟨by omega,by omega,hm.2.2⟩
      ·split at V
       ·exact⟨by omega,by omega,hm.2.2⟩
       ·exact⟨by omega,by omega,hm.2.2⟩
      ·split at V
       ·exact⟨by omega,by omega,hm.2.2⟩
       ·exact⟨by omega,by omega,hm.2.2⟩
    split
    ·rename_i aj;refine h.H4 ah (x:= .ph .GB) trivial (λk'=>by rw [K];simp) (by simp) (by rw [K];simp [cU];omega) λL S V Y=>?_;rw [K] at V Y;simp only [cL,cS,Nat.add_zero] at V Y;exact ak _ _ _ L S rfl U (by rw [if_pos aj];exact V) Y
    ·rename_i aj;refine h.H4 ah (x:= .gone 1) trivial (λk'=>by rw [K];simp) (by simp) (by rw [K];simp [cU];omega) λL S V Y=>?_;rw [K] at V Y;simp only [cL,cS,Nat.add_zero] at V Y;exact ak _ _ _ L S rfl U (by rw [if_neg aj];exact V) Y
   ·cases O
  ·split at O
   ·rename_i aa;cases O;refine h.H4 ah (x:= .ph .GW) trivial (λk'=>by rw [K];simp) (by simp) (by rw [K];simp [cU];omega) λL S V Y=>?_;rw [K] at V Y;simp only [cL,cS,Nat.add_zero] at V Y;have e:L=sumTo N λi=>cL (φ i):=by
     have az:L+1=(sumTo N λi=>cL (φ i))+1:=V;omega
    obtain⟨aj,ao⟩:=aa;subst e Y aj ao;exact U
   ·cases O
  ·split at O
   ·rename_i aa;cases O;obtain⟨aj,ao⟩:=aa;subst aj ao;refine h.H4 ah (x:= .ph .Fb) trivial (λk'=>by rw [K];simp) (by simp) (by rw [K];simp [cU]) λL S V Y=>?_;rw [K] at V Y;simp only [cL,cS,Nat.add_zero] at V Y;have ak:∀y ab ac,Dx y 0 1 sm ab ac cl->L+1=ab->S=ac+1->Dx y 0 0 sm L S cl:=by
     intro y ab ac hm V Y;cases y with
     | gone d=>simp only [Dx] at hm ⊢;omega
     | ph q=>
      cases q <;> simp only [Dx] at hm ⊢ <;> (try exact hm) <;> (try (exfalso;omega))
      ·exact⟨by omega,by omega,hm.2.2⟩
      ·exact⟨by omega,by omega,hm.2.2⟩
      ·exact⟨by omega,by omega,hm.2.2⟩
    exact ak _ _ _ U V Y
   ·cases O
  ·split at O
   ·rename_i aa;cases O;subst aa;refine h.H4 ah (x:= .gone 1) trivial (λk'=>by rw [K];simp) (by simp) (by rw [K];simp [cU]) λL S V Y=>?_;rw [K] at V Y;simp only [cL,cS,Nat.add_zero] at V Y;have ak:∀y ab ac,Dx y v wt 0 ab ac cl->L=ab->S+1=ac->Dx y v wt 1 L S cl:=by
     intro y ab ac hm V Y;cases y with
     | gone d=>simp only [Dx] at hm ⊢;omega
     | ph q=>
      cases q <;> simp only [Dx] at hm ⊢ <;> (try exact hm) <;> (try (exfalso;omega))
      ·exact⟨by omega,by omega,hm.2.2⟩
      ·exact⟨by omega,by omega,hm.2.2⟩
      ·exact⟨by omega,by omega,hm.2.2⟩
    exact ak _ _ _ U V Y
   ·cases O
  ·cases O;refine h.H4 ah (x:= .ph .Gi) trivial (λk'=>by rw [K];simp) (by simp) (by rw [K];rfl) λL S V Y=>?_;rw [K] at V Y;simp only [cL,cS,Nat.add_zero] at V Y;subst V Y;exact U
 ·
  have hw:=h.cls Z;rw [if_pos Z,K] at U;rw [K] at hw;obtain⟨al,aq,ai⟩:=h.main;cases p <;> simp only [IW] at hw <;> (try exact hw.elim) <;> simp only [Fam.act] at O <;> (try (cases O;done)) <;> simp only [Dx] at U
  ·cases O;exact h.Hv Z (x:= .ph (.FN F.n)) trivial ⟨U.1,U.2.1,U.2.2.1,U.2.2.2.1,U.2.2.2.2,ar⟩
  ·split at O
   ·rename_i m aa;cases O;split
    ·exact h.Hv Z (x:= .ph .FR) trivial ⟨U.1,U.2.1,U.2.2.1,rfl,by assumption,U.2.2.2.2.1⟩
    ·exact h.Hv Z (x:= .ph (.G1 _)) trivial ⟨U.1,U.2.1,U.2.2.1,rfl,U.2.2.2.2.1,Nat.le_refl _,by omega⟩
   ·cases O
  ·split at O
   ·rename_i m aa;split at O
    ·cases O;exact h.Hv Z (x:= .ph .H7) trivial ⟨by omega,by omega,U.2.2.2.2.1⟩
    ·cases O;exact h.Hv Z (x:= .ph (.FN _)) trivial ⟨U.1,U.2.1,U.2.2.1,rfl,U.2.2.2.2.1,by omega⟩
   ·cases O
  ·cases O;exact h.Hv Z (x:= .ph .Fl) trivial U
  ·split at O
   ·rename_i aa;cases O;exact h.Hv Z (x:= .ph .GX) trivial ⟨by omega,by omega,rfl,by omega,by omega,U.2.2⟩
   ·cases O
  ·split at O
   ·rename_i aa;obtain⟨rfl,rfl⟩:=aa;cases O;exact h.Hv Z (x:= .ph .FR) trivial U
   ·cases O
  ·cases O;exact h.Hv Z (x:= .ph .H0) trivial U
  ·cases O;exact h.Hv Z (x:= .ph .HB) trivial U
  ·cases O;exact h.Hv Z (x:= .ph .FZ) trivial U
end
end Pal
namespace Pal
open Go Go.Conc
open Go.ConcN (upd upd_same upd_ne sumTo sumTo_upd sumTo_upd_out sumTo_congr le_sumTo sumTo_le fork_knows)
section
variable {F:Fam}{N0 N j:Nat}{c:Bool}{φ:Nat->Nx}{v wt sm:Nat}{cl:Bool}
theorem CH.spawn(h:CH F N0 N j c φ v wt sm cl)(U:φ 0= .ph (.FE j)):
  CH F N0 (N+1) (j+1) c (upd (upd φ N (.ph (F.start j))) 0 (.ph (F.Fj j))) v wt sm cl:=by
 obtain⟨ah,ai,aj⟩:=h.main;obtain rfl:ah= .FE j:=by rw [ai] at U;exact Nx.ph.inj U
 obtain⟨_,ao,rfl⟩:=aj;have ak:=h.size;have ap:=h.pos;simp only [Bool.toNat_false,Nat.add_zero] at ak;have V:cU (.ph (F.start j))=1/\cL (.ph (F.start j))=0/\cS (.ph (F.start j))=0:=by
  exact⟨rfl,rfl,rfl⟩
 have K:cU (.ph (F.Fj j))=0/\cL (.ph (F.Fj j))=0/\cS (.ph (F.Fj j))=0/\pend (.ph (F.Fj j))=0/\got (.ph (F.Fj j))= []:=by
  unfold Fam.Fj;split <;> exact⟨rfl,rfl,rfl,rfl,rfl⟩
 have Y:cU (φ 0)=0/\cL (φ 0)=0/\cS (φ 0)=0:=by rw [U];exact⟨rfl,rfl,rfl⟩
 let φ':Nat->Nx:=upd (upd φ N (.ph (F.start j))) 0 (.ph (F.Fj j));have O:φ' 0= .ph (F.Fj j):=upd_same _ _ _;have ag:φ' N= .ph (F.start j):=by show upd _ _ _ _=_;rw [upd_ne _ _ (by omega),upd_same]
 have Z:∀i,0<i->i≠N->φ' i=φ i:=λi aa ab=>by show upd _ _ _ _=_;rw [upd_ne _ _ (by omega),upd_ne _ _ ab]
 have sum:∀f:Nx->Nat,f (φ 0)=0->f (.ph (F.Fj j))=0->(sumTo (N+1) λi=>f (φ' i))=(sumTo N λi=>f (φ i))+f (.ph (F.start j)):=by
  intro f f0 f1;simp only [sumTo,ag];congr 1;have al:0<N:=by omega
  have:=sumTo_upd (upd φ N (.ph (F.start j))) (.ph (F.Fj j)) f al;have e2:upd φ N (.ph (F.start j)) 0=φ 0:=upd_ne _ _ (by omega);rw [e2,f0,f1] at this;have aq:=sumTo_upd_out φ (.ph (F.start j)) f (i:=N) (j:=N) (Nat.le_refl _);show sumTo N (λi=>f (upd (upd φ N (.ph (F.start j))) 0 (.ph (F.Fj j)) i))=_;omega
 have ac:=h.cnt;have ae:=h.JD;rw [U] at ac ae;simp only [pend] at ac ae;show CH F N0 (N+1) (j+1) false φ' v wt sm cl;have am:got (φ 0)= []:=by rw [U];rfl
 refine⟨h.pos,h.n1,h.Hy,by simp;omega,by omega,by simp,⟨F.Fj j,O,?_⟩,λi aa ab=>by rw [Z i aa (by omega)];exact h.old i aa ab,λk an=>?_,by simp,?_,?_,?_,λk an hh=>?_,by rw [O,K.2.2.2.2];exact .nil,by rw [O,K.2.2.2.2];simp⟩
 ·unfold Fam.Fj;split
  ·exact⟨by assumption,rfl⟩
  ·exact⟨rfl,by omega,rfl⟩
 ·by_cases e:k=j
  ·subst e;rw [show N0+k=N by omega,ag];exact rfl
  ·rw [Z _ (by omega) (by omega)];exact h.work k (by omega)
 ·rw [O,K.2.2.2.1,sum cU Y.1 K.1,V.1];exact ac
 ·rw [O,K.2.2.2.1];exact ae
 ·have hm:=h.mode;simp only [Bool.false_eq_true,if_false] at hm ⊢;rw [sum cL Y.2.1 K.2.1,sum cS Y.2.2 K.2.2.1,V.2.1,V.2.2];exact hm
 ·rw [O,K.2.2.2.2];by_cases e:k=j
  ·exact absurd hh Bool.false_ne_true
  ·rw [Z _ (by omega) (by omega)];have:=h.Kj k (by omega) hh
   rwa [am] at this
theorem CH.Yg(h:CH F N0 N j c φ v wt sm cl)(O:φ 0= .ph .GC):
  CH F N0 (N+1) j true (upd (upd φ N (.ph .Dl)) 0 (.ph (.Fz [] []))) v wt sm cl:=by
 obtain⟨ah,ai,aj⟩:=h.main;obtain rfl:ah= .GC:=by rw [ai] at O;exact Nx.ph.inj O
 obtain⟨ag,rfl⟩:=aj;have ak:=h.size;have an:=h.pos;simp only [Bool.toNat_false,Nat.add_zero] at ak;have U:cU (φ 0)=0/\cL (φ 0)=0/\cS (φ 0)=0:=by rw [O];exact⟨rfl,rfl,rfl⟩
 let φ':Nat->Nx:=upd (upd φ N (.ph .Dl)) 0 (.ph (.Fz [] []));have K:φ' 0= .ph (.Fz [] []):=upd_same _ _ _;have V:φ' N= .ph .Dl:=by show upd _ _ _ _=_;rw [upd_ne _ _ (by omega),upd_same]
 have Y:∀i,0<i->i≠N->φ' i=φ i:=λi Z aa=>by show upd _ _ _ _=_;rw [upd_ne _ _ (by omega),upd_ne _ _ aa]
 have sum:∀f:Nx->Nat,f (φ 0)=0->f (.ph (.Fz [] []))=0->f (.ph .Dl)=0->(sumTo (N+1) λi=>f (φ' i))=(sumTo N λi=>f (φ i)):=by
  intro f f0 f1 f2;simp only [sumTo,V,f2];have al:0<N:=by omega
  have:=sumTo_upd (upd φ N (.ph .Dl)) (.ph (.Fz [] [])) f al;have e2:upd φ N (.ph .Dl) 0=φ 0:=upd_ne _ _ (by omega);rw [e2,f0,f1] at this;have ao:=sumTo_upd_out φ (.ph .Dl) f (i:=N) (j:=N) (Nat.le_refl _);show sumTo N (λi=>f (upd (upd φ N (.ph .Dl)) 0 (.ph (.Fz [] [])) i))+0=_;omega
 have ab:=h.cnt;have ac:=h.JD;rw [O] at ab ac;simp only [pend] at ab ac;show CH F N0 (N+1) j true φ' v wt sm cl;have am:got (φ 0)= []:=by rw [O];rfl
 refine⟨h.pos,h.n1,h.Hy,by simp;omega,h.jn,λ_=>ag,⟨.Fz [] [],K,ag,rfl⟩,λi Z aa=>by rw [Y i Z (by omega)];exact h.old i Z aa,λk ae=>?_,λ_=>by rw [show N0+F.n=N by omega,V];trivial,?_,?_,?_,λk ae hh=>?_,by rw [K];exact .nil,by rw [K];simp [got]⟩
 ·rw [Y _ (by omega) (by omega)];exact h.work k ae
 ·rw [K,sum cU U.1 rfl rfl];exact ab
 ·rw [K];exact ac
 ·have hm:=h.mode;simp only [Bool.false_eq_true,if_false,if_true] at hm ⊢;rw [show N0+F.n=N by omega,V,sum cL U.2.1 rfl rfl,sum cS U.2.2 rfl rfl];exact hm
 ·rw [K];rw [Y _ (by omega) (by omega)];have:=h.Kj k ae hh
  rwa [am] at this
theorem CH.leave(h:CH F N0 N j c φ v wt sm cl){i d d':Nat}(hi:i<N)(K:φ i= .gone d):CH F N0 N j c (upd φ i (.gone d')) v wt sm cl:=by
 rcases h.Du hi with rfl | ⟨a,b⟩ | ⟨k,U,rfl⟩ | ⟨V,rfl⟩
 ·obtain⟨p,Y,_⟩:=h.main;rw [K] at Y;cases Y
 ·have ac:=hi;have z:∀f:Nx->Nat,f (.gone d)=0->f (.gone d')=0->(sumTo N λa=>f (upd φ i (.gone d') a))=sumTo N λa=>f (φ a):=by
   intro f f0 f1;have:=sumTo_upd φ (.gone d') f ac;rw [K] at this;omega
  have ai:=h.size;have O:upd φ i (.gone d') 0=φ 0:=upd_ne _ _ (by omega);refine⟨h.pos,h.n1,h.Hy,h.size,h.jn,h.cj,by rw [O];exact h.main,λZ ae ag=>?_,λk U=>by rw [upd_ne _ _ (by omega)];exact h.work k U,λV=>by rw [upd_ne _ _ (by omega)];exact h.cls V,by rw [O,z cU rfl rfl];exact h.cnt,by rw [O];exact h.JD,?_,λk U hh=>by rw [O,upd_ne _ _ (by omega)];exact h.Kj k U hh,by rw [O];exact h.nd,by rw [O];exact h.sub⟩
  ·by_cases e:Z=i
   ·subst e;rw [upd_same];trivial
   ·rw [upd_ne _ _ e];exact h.old Z ae ag
  ·rw [z cL rfl rfl,z cS rfl rfl,upd_ne _ _ (by omega)];exact h.mode
 ·refine h.H4 U (x:= .gone d') trivial (by rw [K];simp) (by simp) (by rw [K];rfl) λL S aa ab=>?_;rw [K] at aa ab;have ah:L=sumTo N λi=>cL (φ i):=aa;have e2:S=sumTo N λi=>cS (φ i):=ab;subst ah e2;exact h.mode
 ·have hm:=h.mode;rw [if_pos V,K] at hm;exact h.Hv V (x:= .gone d') trivial hm
theorem CH.Wo(h:CH F N0 N j c φ v wt sm cl)(O:c=true)(U:φ (N0+F.n)= .ph .GX∨φ (N0+F.n)= .ph .FR∨φ (N0+F.n)= .ph .FZ∨φ (N0+F.n)= .ph .Hm∨MV (φ (N0+F.n))):∀k,k<j->MV (φ (N0+k)):=by
 intro k V;have hm:=h.mode;rw [if_pos O] at hm;have Y:=h.size;have Z:=h.cnt;have aa:cU (φ (N0+k))<=sumTo N λi=>cU (φ i):=le_sumTo (f:=λi=>cU (φ i)) (show N0+k<N by omega);have ab:cL (φ (N0+k))<=sumTo N λi=>cL (φ i):=le_sumTo (f:=λi=>cL (φ i)) (show N0+k<N by omega);have ac:cS (φ (N0+k))<=sumTo N λi=>cS (φ i):=le_sumTo (f:=λi=>cS (φ i)) (show N0+k<N by omega);have ae:v=0/\(sumTo N λi=>cL (φ i))=0/\(sumTo N λi=>cS (φ i))=0:=by
  rcases U with e | e | e | e | e
  ·rw [e] at hm;exact⟨hm.2.2.2.2.1,hm.1,hm.2.1⟩
  ·rw [e] at hm;exact⟨hm.2.2.2.2.1,hm.1,hm.2.1⟩
  ·rw [e] at hm;exact⟨hm.2.2.2.2.1,hm.1,hm.2.1⟩
  ·rw [e] at hm;exact⟨hm.2.2.2.2.1,hm.1,hm.2.1⟩
  ·cases K:φ (N0+F.n) with
   | gone d=>rw [K] at hm;exact⟨hm.2.2.2.2.1,hm.1,hm.2.1⟩
   | ph p=>rw [K] at e;exact e.elim
 have hw:=h.work k V;cases K:φ (N0+k) with
 | gone d=>trivial
 | ph p=>
  have ag:1<=cU (φ (N0+k))+cL (φ (N0+k))+cS (φ (N0+k)):=by
   rw [K] at hw ⊢;cases p <;> simp only [Gz] at hw <;> simp [cU,cL,cS]
  exfalso;omega
end
open Go.ConcN (RelBy)
def dl:LP->Nat
 | .GZ | .Eh _ _ _ | .Cn _ _ _ _ | .HZ _ | .Cz _ | .FP | .Eu _ | .Eg _ | .len=>1
 | .Hw | .EF _ | .G3 | .ET _ | .EU=>1
 | _=>0
def FC:Nx->Nat
 | .gone d=>d
 | .ph .G2 | .ph .GB | .ph .GW | .ph .Fb=>1
 | .ph (.FN _) | .ph (.G1 _) | .ph .H7 | .ph .HB | .ph .Fl | .ph .GX | .ph .FR=>1
 | .ph (.H5 _) | .ph (.Ic _) | .ph (.Hu _) | .ph (.GG _)=>1
 | .ph (.lk _ p)=>dl p
 | _=>0
def late:Nx->Prop
 | .ph (.GY _) | .ph .HD | .ph .Gi | .ph (.lk _ _)=>False
 | _=>True
def KE(t:Trace)(E:LH)(ρ:Nat):Prop:=∀b,E b≠none->∀x a,touchAt t x=some a->CQ a.loc=some b->a.write=true->Before t x ρ
structure ES (F:Fam) (N0 t0 N j:Nat) (φ:Nat->Nx) (S:Nat->St) (t:Trace):Prop where
 deaf:∀i,i<N->Deaf t i=FC (φ i)
 above:∀i,N<=i->Deaf t i=0
 plain:∀x a b,touchAt t x=some a->CQ a.loc=some b->(b=F.wg∨b=F.mu)->a.kind= .plain->∀i,i<N->(i=0∨N0<=i)->Knows t i x
 said:∀x a b,touchAt t x=some a->CQ a.loc=some b->(b=F.wg∨b=F.mu)->a.kind= .said->Knows t 0 x
 F6:∀x a,touchAt t x=some a->CQ a.loc=some F.fd->(∀i,i<N->(i=0∨N0<=i)->Knows t i x)∨∃k,k<j/\t.g? x=some (N0+k)/\t.counts x/\a.loc= .cell ⟨F.fd,k,none⟩
 over:∀x g,t.g? x=some g->g≠0->t.counts x->(∃y,t.g? y=some 0/\HappensBefore t x y)∨(N0<=g/\g<N)
 norel:∀x,t0<=x->t.act? x≠some (.mark (.release F.sA))
 LC:t0<=t.size
 rel:∀k,k<j->late (φ (N0+k))->∃ρ,t0<=ρ/\RelBy F.sA t (N0+k) ρ/\KE t (S (N0+k)).E ρ
section
variable {F:Fam}{N0 t0 N j:Nat}{φ:Nat->Nx}{S:Nat->St}{t u:Trace}
def EvS(F:Fam)(N0 j i:Nat)(e:Event):Prop:=
 (∀a,(MemAct.ofEvent e).touch? =some a->∃b,CQ a.loc=some b/\(((b=F.wg∨b=F.mu)/\a.kind≠ .plain/\(a.kind= .said->i=0))∨(b=F.fd/\∃k,k<j/\i=N0+k/\a.loc= .cell ⟨F.fd,k,none⟩/\a.kind= .plain)))/\e.loc≠ .mark (.release F.sA)
theorem ES.noRace(h:ES F N0 t0 N j φ S t)(ac:∀said,¬Race said t){i:Nat}(hi:i<N)(Y:i=0∨N0<=i){fn:FuncId}{pos:String}{es:Array Event}
  (ae:∀e∈es,EvS F N0 j i e):∀said,¬Race said (t++MemOp.ofEvents i fn pos es):=by
 intro said;refine noRace_append (g:=i) (ac said) (λop O=>by obtain⟨e,_,rfl⟩:=mem_ofEvents O;rfl) λx a U op O d hd ag=>?_;obtain⟨e,he,rfl⟩:=mem_ofEvents O;obtain⟨b,hb,K⟩:=(ae e he).1 d hd;obtain⟨Z,hm,ao,ah⟩:=ag;have V:CQ a.loc=some b:=by rw [Z];exact hb
 rcases K with⟨K,aa,ai⟩ | ⟨rfl,k,aa,aj,ak,_⟩
 ·rcases ah with q | q | ⟨_,q,q'⟩
  ·exact h.plain x a b U V K q i hi Y
  ·exact absurd q aa
  ·have:=h.said x a b U V K q
   rwa [← ai q'] at this
 ·rcases h.F6 x a U V with q | ⟨k',_,al,_,ab⟩
  ·exact q i hi Y
  ·rw [Z,ak] at ab;have:k=k':=by simpa using ab
   subst this;obtain⟨z,am,an⟩:=Option.map_eq_some_iff.1 al;have:=knows_own am;rw [an,← aj] at this;exact this
theorem Ol(h:∀x g,t.g? x=some g->g≠0->t.counts x->(∃y,t.g? y=some 0/\HappensBefore t x y)∨(N0<=g/\g<N))(hu:∀op∈u,op.g=0∨(N0<=op.g/\op.g<N)∨op.act.touch? =none):
  ∀x g,(t++u).g? x=some g->g≠0->(t++u).counts x->(∃y,(t++u).g? y=some 0/\HappensBefore (t++u) x y)∨(N0<=g/\g<N):=by
 intro x g O U V;rcases Nat.lt_or_ge x t.size with q | q
 ·rcases h x g (by rw [← g?_old (u:=u) q];exact O) U ((counts_old q).1 V) with⟨y,K,hb⟩ | hh
  ·have ab:y<t.size:=by
    unfold Trace.g? at K;obtain⟨z,ac,_⟩:=Option.map_eq_some_iff.1 K;exact lt_size_of_getElem? ac
   exact .inl ⟨y,by rw [g?_old ab];exact K,hb_app u hb⟩
  ·exact .inr hh
 ·obtain⟨a,ae,_⟩:=V;obtain⟨op,Y,Z⟩:=touch_of ae;have aa:op.g=g:=by simpa [Trace.g?,Y] using O
  rcases getElem?_append_cases Y with⟨ah,_⟩ | ⟨_,ag⟩
  ·omega
  ·rcases hu op ag with z | z | z
   ·exact absurd (aa▸z) U
   ·exact .inr (aa▸z)
   ·rw [z] at Z;cases Z
theorem Og(h:∀x,t0<=x->t.act? x≠some (.mark (.release F.sA)))(hu:∀op∈u,op.act≠ .mark (.release F.sA)):∀x,t0<=x->(t++u).act? x≠some (.mark (.release F.sA)):=by
 intro x O e;obtain⟨op,U,K⟩:=Option.map_eq_some_iff.1 e;rcases getElem?_append_cases U with⟨_,V⟩ | ⟨_,Y⟩
 ·exact h x O (by rw [act?_of V,K])
 ·exact hu op Y K
theorem Ts{g:Nat}(hu:∀op∈u,op.g=g->op.act.touch? =none):∀x,t.size<=x->(t++u).g? x=some g->¬(t++u).counts x:=by
 intro x aa U V;obtain⟨a,Y,_⟩:=V;obtain⟨op,K,O⟩:=touch_of Y;rcases getElem?_append_cases K with⟨ab,_⟩ | ⟨_,Z⟩
 ·omega
 ·rw [hu op Z (by simpa [Trace.g?,K] using U)] at O;cases O
theorem KE.app{E:LH}{ρ:Nat}(h:KE t E ρ)(hu:∀op∈u,∀a b,op.act.touch? =some a->CQ a.loc=some b->a.write=true->E b=none):KE (t++u) E ρ:=by
 intro b hb x a U K hw;obtain⟨op,V,O⟩:=touch_of U;rcases getElem?_append_cases V with⟨aa,Y⟩ | ⟨_,Z⟩
 ·exact(h b hb x a (by rw [touchAt_of Y];exact O) K hw).app u
 ·exact absurd (hu op Z a b O K hw) hb
theorem ES.app(h:ES F N0 t0 N j φ S t){i:Nat}(hi:i<N){x:Nx}{s':St}{fn:FuncId}{pos:String}{es:Array Event}
  (hd:deafBehind (FC (φ i)) es=FC x)
  (ag:∀e∈es,(∀a b,(MemAct.ofEvent e).touch? =some a->CQ a.loc=some b->(b=F.wg∨b=F.mu)->a.kind≠ .plain/\(a.kind= .said->i=0))/\
   (∀a,(MemAct.ofEvent e).touch? =some a->CQ a.loc=some F.fd->∃k,k<j/\i=N0+k/\a.loc= .cell ⟨F.fd,k,none⟩/\a.kind= .plain)/\e.loc≠ .mark (.release F.sA))
  (au:(i=0∨N0<=i)∨∀e∈es,(MemAct.ofEvent e).touch? =none)
  (av:∀k,k<j->late (φ (N0+k))->∀e∈es,∀a b,(MemAct.ofEvent e).touch? =some a->CQ a.loc=some b->a.write=true->(S (N0+k)).E b=none)
  (ai:∀k,k<j->i=N0+k->late x->(late (φ i)/\s'.E=(S i).E/\∀ρ,RelBy F.sA t i ρ->RelBy F.sA (t++MemOp.ofEvents i fn pos es) i ρ)∨∃ρ,t0<=ρ/\RelBy F.sA (t++MemOp.ofEvents i fn pos es) i ρ/\KE (t++MemOp.ofEvents i fn pos es) s'.E ρ):
  ES F N0 t0 N j (upd φ i x) (upd S i s') (t++MemOp.ofEvents i fn pos es):=by
 generalize hu:MemOp.ofEvents i fn pos es=u at*;have aa:∀op∈u,op.g=i:=λop O=>by rw [← hu] at O;obtain⟨e,_,rfl⟩:=mem_ofEvents O;rfl
 have ah:∀op∈u,∃e∈es,op.act=MemAct.ofEvent e:=λop O=>by rw [← hu] at O;obtain⟨e,he,rfl⟩:=mem_ofEvents O;exact⟨e,he,rfl⟩
 have hold:∀{y a},touchAt (t++u) y=some a->(touchAt t y=some a/\y<t.size)∨(Knows (t++u) i y/\(t++u).g? y=some i/\∃e∈es,(MemAct.ofEvent e).touch? =some a):=by
  intro y a aw;obtain⟨op,O,am⟩:=touch_of aw;rcases getElem?_append_cases O with⟨ai,ay⟩ | ⟨_,aj⟩
  ·left;exact⟨by rw [touchAt_of ay];exact am,ai⟩
  ·right;obtain⟨e,he,Y⟩:=ah op aj;exact⟨by have:=knows_own O;rwa [aa op aj] at this,by simp [Trace.g?,O,aa op aj],e,he,by rw [← Y];exact am⟩
 have an:∀k,k<j->late (φ (N0+k))->∀ρ,KE t (S (N0+k)).E ρ->KE (t++u) (S (N0+k)).E ρ:=λk K U ρ az=>az.app λop aA a b ao hb hw=>by
  obtain⟨e,he,Y⟩:=ah op aA;rw [Y] at ao;exact av k K U e he a b ao hb hw
 refine⟨λV Z=>?_,λV Z=>?_,λy a b ab hb ac K V Z ak=>?_,λy a b ab hb ac K=>?_,λy a ab hb=>?_,Ol h.over λop O=>?_,Og h.norel λop O e=>?_,by simp;have:=h.LC;omega,λk K U=>?_⟩
 ·by_cases e:V=i
  ·subst e;rw [upd_same,← hu,Deaf_own,h.deaf V hi,hd]
  ·rw [upd_ne _ _ e,Deaf_other t (Ne.symm e) u aa];exact h.deaf V Z
 ·rw [Deaf_other t (by omega) u aa];exact h.above V Z
 ·rcases hold ab with⟨q,_⟩ | ⟨_,_,e,he,ae⟩
  ·exact(h.plain y a b q hb ac K V Z ak).app _
  ·exact absurd K ((ag e he).1 a b ae hb ac).1
 ·rcases hold ab with⟨q,_⟩ | ⟨ap,_,e,he,ae⟩
  ·exact(h.said y a b q hb ac K).app _
  ·rw [← ((ag e he).1 a b ae hb ac).2 K];exact ap
 ·rcases hold ab with⟨q,aq⟩ | ⟨ap,al,e,he,ae⟩
  ·rcases h.F6 y a q hb with z | ⟨k,K,al,aB,U⟩
   ·exact .inl λV Z ak=>(z V Z ak).app _
   ·exact .inr ⟨k,K,by rw [g?_old aq];exact al,(counts_old aq).2 aB,U⟩
  ·obtain⟨k,K,aC,U,aD⟩:=(ag e he).2.1 a ae hb;exact .inr ⟨k,K,by rw [al,aC],⟨a,ab,by rw [U];rfl,.inl (by rw [aD];simp)⟩,U⟩
 ·rw [aa op O];rcases au with(q | q) | q
  ·exact .inl q
  ·exact .inr (.inl ⟨q,hi⟩)
  ·obtain⟨e,he,Y⟩:=ah op O;rw [Y];exact .inr (.inr (q e he))
 ·obtain⟨ev,aE,Y⟩:=ah op O;rw [Y] at e;exact(ag ev aE).2.2 (by
   obtain⟨loc,wr,aF⟩:=ev
   cases loc with
   | mark m=>simp only [MemAct.ofEvent,MemAct.mark.injEq] at e;rw [e]
   | obj r=>cases wr <;> cases aF <;> simp [MemAct.ofEvent] at e
   | _=>simp [MemAct.ofEvent] at e)
 ·by_cases e:i=N0+k
  ·subst e;rw [upd_same] at U;rw [upd_same];rcases ai k K rfl U with⟨ar,aG,aH⟩ | hh
   ·obtain⟨ρ,a,b,c⟩:=h.rel k K ar;exact⟨ρ,a,aH ρ b,by rw [aG];exact an k K ar ρ c⟩
   ·exact hh
  ·rw [upd_ne _ _ (Ne.symm e)] at U;rw [upd_ne _ _ (Ne.symm e)];obtain⟨ρ,a,b,c⟩:=h.rel k K U;exact⟨ρ,a,b.appOther aa e,an k K U ρ c⟩
theorem ES.Db(h:ES F N0 t0 N j φ S t)(hu:∀op∈u,op.act.touch? =none/\∀m,op.act≠ .mark m):ES F N0 t0 N j φ S (t++u):=by
 have ae:∀g,Deaf (t++u) g=Deaf t g:=by
  intro g;obtain⟨l⟩:=u;rw [Deaf_append];have key:∀(l:List MemOp) (d:Nat),(∀op∈l,∀m,op.act≠ .mark m)->l.foldl (deafStep g) d=d:=by
   intro l
   induction l with
   | nil=>intro d _;rfl
   | cons z l ai=>
    intro d U;have aj:=U z (by simp);have e2:deafStep g d z=d:=by
     unfold deafStep;split <;> first | (rename_i e;exact absurd e (aj _)) | rfl
    rw [List.foldl_cons,e2];exact ai d λop K=>U op (by simp [K])
  exact key l _ λop K=>(hu op (by simpa using K)).2
 have hold:∀{y a},touchAt (t++u) y=some a->touchAt t y=some a/\y<t.size:=by
  intro y a Y;obtain⟨op,K,Z⟩:=touch_of Y;rcases getElem?_append_cases K with⟨ak,al⟩ | ⟨_,am⟩
  ·exact⟨by rw [touchAt_of al];exact Z,ak⟩
  ·rw [(hu op am).1] at Z;cases Z
 have an:∀g x,t.size<=x->(t++u).g? x=some g->¬(t++u).counts x:=λg=>Ts λop K _=>(hu op K).1;refine⟨λi hi=>by rw [ae];exact h.deaf i hi,λi hi=>by rw [ae];exact h.above i hi,λy a b V hb aa O i hi ab=>(h.plain y a b (hold V).1 hb aa O i hi ab).app _,λy a b V hb aa O=>(h.said y a b (hold V).1 hb aa O).app _,λy a V hb=>?_,
  Ol h.over λop K=> .inr (.inr (hu op K).1),Og h.norel λop K=>(hu op K).2 _,by simp;have:=h.LC;omega,λk O U=>let ⟨ρ,a,b,c⟩:=h.rel k O U;⟨ρ,a,b.app λx Y ac=>an _ x Y ac,c.app λop K a b ag=>by rw [(hu op K).1] at ag;cases ag⟩⟩
 obtain⟨q,ah⟩:=hold V;rcases h.F6 y a q hb with z | ⟨k,O,ac,ao,U⟩
 ·exact .inl λap aq ab=>(z ap aq ab).app _
 ·exact .inr ⟨k,O,by rw [g?_old ah];exact ac,(counts_old ah).2 ao,U⟩
theorem ES.spawn(h:ES F N0 t0 N j φ S t){φ':Nat->Nx}{S':Nat->St}(Z:0<N)(ay:N=N0+j)(hd:∀i,i<N->FC (φ' i)=FC (φ i))(an:FC (φ' N)=0)(ao:FC (φ 0)=0)
  (ap:∀k,k<j+1->late (φ' (N0+k))->k<j/\late (φ (N0+k))/\(S' (N0+k)).E=(S (N0+k)).E)
  {x y:MemOp} (Y:x.g=0/\x.act= .go N) (ag:y.g=N/\y.act= .start):ES F N0 t0 (N+1) (j+1) φ' S' (t++ #[x,y]):=by
 have hu:∀op∈(#[x,y]:Array MemOp),op.act.touch? =none/\∀m,op.act≠ .mark m:=by
  intro op ah;simp only [List.mem_toArray,List.mem_cons,List.not_mem_nil,or_false] at ah;rcases ah with rfl | rfl
  ·rw [Y.2];exact⟨rfl,by simp⟩
  ·rw [ag.2];exact⟨rfl,by simp⟩
 have K:=h.Db hu;have ai:∀z,Knows t 0 z->Knows (t++ #[x,y]) N z:=λz O=>fork_knows Y ag (by rw [h.deaf 0 Z];exact ao) (h.above N (Nat.le_refl _)) O;have hold:∀{z a},touchAt (t++ #[x,y]) z=some a->touchAt t z=some a:=by
  intro z a O;obtain⟨op,aa,U⟩:=touch_of O;rcases getElem?_append_cases aa with⟨aj,aq⟩ | ⟨_,ab⟩
  ·rw [touchAt_of aq];exact U
  ·rw [(hu op ab).1] at U;cases U
 refine⟨λi hi=>?_,λi hi=>K.above i (by omega),λz a b O hb ak V i hi ac=>?_,K.said,λz a O hb=>?_,λz g ae ar au=>?_,K.norel,K.LC,λk V Y=>?_⟩
 ·rcases Nat.lt_or_ge i N with q | q
  ·rw [hd i q];exact K.deaf i q
  ·obtain rfl:i=N:=by omega
   rw [an];exact K.above i (Nat.le_refl _)
 ·rcases Nat.lt_or_ge i N with q | q
  ·exact K.plain z a b O hb ak V i q ac
  ·obtain rfl:i=N:=by omega
   exact ai z (h.plain z a b (hold O) hb ak V 0 Z (.inl rfl))
 ·have al:z<t.size:=by
   obtain⟨op,aa,U⟩:=touch_of O;rcases getElem?_append_cases aa with⟨aj,_⟩ | ⟨_,ab⟩
   ·exact aj
   ·rw [(hu op ab).1] at U;cases U
  rcases h.F6 z a (hold O) hb with am | ⟨k,V,ae,av,aw⟩
  ·refine .inl λi hi ac=>?_;rcases Nat.lt_or_ge i N with q | q
   ·exact(am i q ac).app _
   ·obtain rfl:i=N:=by omega
    exact ai z (am 0 Z (.inl rfl))
  ·exact .inr ⟨k,by omega,by rw [g?_old al];exact ae,(counts_old al).2 av,aw⟩
 ·rcases K.over z g ae ar au with q | q
  ·exact .inl q
  ·exact .inr ⟨q.1,by omega⟩
 ·obtain⟨a,b,c⟩:=ap k V Y;rw [c];exact K.rel k a b
end
end Pal
namespace Pal
open Go Go.Conc
open Go.ConcN (upd upd_same upd_ne sumTo sumTo_upd sumTo_upd_out sumTo_congr le_sumTo sumTo_le)
def pH:LP->Nat
 | .len | .Kh | .Ju | .Fs | .Gn | .JC | .Jw | .Jq | .Hw=>1
 | _=>0
def pN:LP->Nat
 | .ET false=>1
 | _=>0
def pZ:LP->Nat
 | .ET true=>1
 | _=>0
def pV:LP->Nat
 | .FP | .Eu _=>1
 | _=>0
def pT:LP->Nat
 | .Eh _ true _ | .Cn _ true _ _=>1
 | _=>0
def pQ:LP->Nat
 | .HZ _ | .Cz _=>1
 | _=>0
def pD:LP->Nat
 | .Eg _=>1
 | _=>0
def pX:LP->Nat
 | .EF _ | .G3=>1
 | _=>0
def oC(f:LP->Nat):Option LP->Nat
 | some p=>f p
 | none=>0
def LN(m:M4)(q h rn rs v t s d x:Nat):Prop:=
 h=m.l.toNat/\
 (m.s=false->rs=0/\d=0/\m.k.toNat=rn+q+v+t/\s=m.w+rn+q/\(m.l=false->m.k=false->1<=m.w->1<=x))/\
 (m.s=true->m.k=false/\rn=0/\t=0/\m.l.toNat+rs+q+v+d=1/\m.w=s+v+d/\1<=m.w)
def KQ:LP->M4->Prop
 | .Cn sv aw it old,_=>(aw=true->old.k=true)/\(sv=true->aw=true)/\it<=4/\C8 old
 | .Eh sv aw it,_=>(sv=true->aw=true)/\it<=4
 | .Eg ex,m=>ex=false->2<=m.w
 | .EF old,_=>old.l=false/\old.k=false/\old.s=false/\old.w≠0/\C8 old
 | _,_=>True
section
variable {F:Fam}{p:LP}{m m':M4}{q q' h rn rs v t s d x:Nat}{es:Array Event}{o:Option LP}
theorem Xv(ae:LN m q (pH p+h) (pN p+rn) (pZ p+rs) (pV p+v) (pT p+t) (pQ p+s) (pD p+d) (pX p+x))(K:KQ p m)(V:C8 m)(ag:∀sv,p= .Cz sv->q≠0):Dy p m q:=by
 obtain⟨l,k,st,w⟩:=m;obtain⟨Y,O,U⟩:=ae;cases p <;> simp only [Dy,KQ] at K ⊢ <;> (try exact V)
 ·exact⟨K.1,K.2,V,λe=>by
   subst e
   simp only [pH,pN,pZ,pV,pT,pQ,pD,pX] at Y O U
   cases st
   ·have:=(O rfl).2.2.1
    cases k
    ·simp at this;omega
    ·rfl
   ·have:=(U rfl).2.2.1;omega⟩
 ·exact⟨K.1,K.2.1,K.2.2.1,K.2.2.2,V,λe=>by
   subst e
   simp only [pH,pN,pZ,pV,pT,pQ,pD,pX] at Y O U
   cases st
   ·have:=(O rfl).2.2.1
    cases k
    ·simp at this;omega
    ·rfl
   ·have:=(U rfl).2.2.1;omega⟩
 ·exact ag _ rfl
 ·simp only [pH,pN,pZ,pV,pT,pQ,pD,pX] at Y O U;refine⟨λe=>?_,λe=>?_,V⟩
  ·subst e;obtain⟨a1,ab,aa,Z,ah,ac⟩:=U rfl;cases l
   ·exact⟨rfl,a1,by omega⟩
   ·simp at Z;omega
  ·subst e;obtain⟨a1,ab,aa,Z⟩:=O rfl;cases k
   ·simp at aa;omega
   ·rfl
 ·simp only [pH,pN,pZ,pV,pT,pQ,pD,pX] at Y O U;cases st
  ·have:=(O rfl).2.1;omega
  ·obtain⟨a1,ab,aa,Z,ah,ac⟩:=U rfl;cases l
   ·exact⟨rfl,rfl,a1,ac,K,V⟩
   ·simp at Z;omega
 ·simp only [pH,pN,pZ,pV,pT,pQ,pD,pX] at Y;cases l
  ·simp at Y
  ·exact⟨rfl,V⟩
 ·exact⟨K.1,K.2.1,K.2.2.1,K.2.2.2.1,K.2.2.2.2,V⟩
 ·refine⟨?_,V⟩;have ai:k.toNat<=1:=Bool.toNat_le k;cases st
  ·have:=(O rfl).2.2.1;simp only at this;omega
  ·have:=(U rfl).2.2.2.1;simp only at this;omega
set_option maxHeartbeats 1000000 in
theorem LN.step(K:(m',q',es,o)∈F.BW p m q)(U:Dy p m q)(O:LN m q (pH p+h) (pN p+rn) (pZ p+rs) (pV p+v) (pT p+t) (pQ p+s) (pD p+d) (pX p+x)):
  LN m' q' (oC pH o+h) (oC pN o+rn) (oC pZ o+rs) (oC pV o+v) (oC pT o+t) (oC pQ o+s) (oC pD o+d) (oC pX o+x):=by
 obtain⟨l,k,st,w⟩:=m;cases p <;> simp only [Fam.BW,List.mem_singleton,Prod.mk.injEq,List.not_mem_nil] at K
 case FQ=>obtain⟨rfl,rfl,-,rfl⟩:=K;exact O
 case GZ=>
  split at K
  ·rename_i e;simp only [M4.zero,M4.mk.injEq] at e;obtain⟨rfl,rfl,rfl,rfl⟩:=e;simp only [List.mem_singleton,Prod.mk.injEq] at K;obtain⟨rfl,rfl,-,rfl⟩:=K;simp [LN,pH,pN,pZ,pV,pT,pQ,pD,pX,oC] at O ⊢;omega
  ·simp only [List.mem_singleton,Prod.mk.injEq] at K;obtain⟨rfl,rfl,-,rfl⟩:=K;exact O
 case Eh sv aw it=>obtain⟨rfl,rfl,-,rfl⟩:=K;cases aw <;> exact O
 case Cn sv aw it old=>
  simp only [Fam.Fo,List.mem_append] at K;simp only [Dy] at U;obtain⟨k1,V,Y,Z,ac,-⟩:=U;rcases K with K | K
  ·split at K
   ·rename_i c;split at K
    ·rename_i c2;simp only [List.mem_singleton] at K;obtain⟨rfl,c3,c4⟩:=c2;split at K
     ·rename_i e;subst e;simp only [Prod.mk.injEq] at K;obtain⟨rfl,rfl,-,rfl⟩:=K;simp only at c c3 c4;obtain⟨rfl,rfl,-⟩:=c;subst c3;simp [LN,pH,pN,pZ,pV,pT,pQ,pD,pX,oC] at O ⊢;omega
     ·simp only [Prod.mk.injEq] at K;obtain⟨rfl,rfl,-,rfl⟩:=K;exact O
    ·simp only [List.mem_singleton,Prod.mk.injEq] at K;obtain⟨rfl,rfl,-,rfl⟩:=K;cases aw <;> exact O
   ·simp at K
  ·split at K
   ·rename_i e;subst e;split at K
    ·rename_i c;simp only [List.mem_singleton,Prod.mk.injEq] at K;obtain⟨rfl,rfl,-,rfl⟩:=K;simp only at c;obtain⟨rfl,rfl⟩:=c;cases aw <;> cases k <;> simp [LN,pH,pN,pZ,pV,pT,pQ,pD,pX,oC] at O k1 ⊢ <;> omega
    ·rename_i c;have key:∀o',(o'=some (LP.HZ sv)∨o'=some (LP.Cz sv))->LN ⟨l,!aw&&k,st || (sv&&l),w+1⟩ q (oC pH o'+h) (oC pN o'+rn) (oC pZ o'+rs) (oC pV o'+v) (oC pT o'+t) (oC pQ o'+s) (oC pD o'+d) (oC pX o'+x):=by
      intro o' ae;have aa:oC pH o'=0/\oC pN o'=0/\oC pZ o'=0/\oC pV o'=0/\oC pT o'=0/\oC pQ o'=1/\oC pD o'=0/\oC pX o'=0:=by
       rcases ae with rfl | rfl <;> exact⟨rfl,rfl,rfl,rfl,rfl,rfl,rfl,rfl⟩
      obtain⟨aa,e2,ag,ah,ai,aj,ak,al⟩:=aa;rw [aa,e2,ag,ah,ai,aj,ak,al];cases l <;> cases st <;> cases k <;> cases aw <;> cases sv <;> simp [LN,pH,pN,pZ,pV,pT,pQ,pD,pX] at O k1 V c ⊢ <;> omega
     simp only [List.mem_cons,List.not_mem_nil,or_false,Prod.mk.injEq] at K;rcases K with⟨rfl,rfl,-,rfl⟩ | ⟨rfl,rfl,-,rfl⟩
     ·exact key _ (.inl rfl)
     ·exact key _ (.inr rfl)
   ·simp only [List.mem_singleton,Prod.mk.injEq] at K;obtain⟨rfl,rfl,-,rfl⟩:=K;cases aw <;> exact O
 case HZ sv=>obtain⟨rfl,rfl,-,rfl⟩:=K;exact O
 case Cz sv=>
  obtain⟨rfl,rfl,-,rfl⟩:=K;simp only [Dy] at U;cases st <;> cases k <;> cases l <;> cases sv <;> simp [LN,pH,pN,pZ,pV,pT,pQ,pD,pX,oC] at O ⊢ <;> omega
 case FP=>
  simp only [List.mem_cons,List.not_mem_nil,or_false,Prod.mk.injEq] at K;rcases K with⟨rfl,rfl,-,rfl⟩ | ⟨rfl,rfl,-,rfl⟩ <;> exact O
 case Eu sv=>
  simp only [Dy] at U;split at K
  ·rename_i c;simp only [List.mem_singleton,Prod.mk.injEq] at K;obtain⟨rfl,rfl,-,rfl⟩:=K;have c:st=true:=c;subst c;cases k <;> cases l <;> simp [LN,pH,pN,pZ,pV,pT,pQ,pD,pX,oC] at O ⊢ <;> omega
  ·rename_i c;simp only [List.mem_singleton,Prod.mk.injEq] at K;obtain⟨rfl,rfl,-,rfl⟩:=K;cases st
   ·cases k <;> cases l <;> simp [LN,pH,pN,pZ,pV,pT,pQ,pD,pX,oC] at O ⊢ <;> omega
   ·exact absurd rfl c
 case Eg ex=>
  obtain⟨rfl,rfl,-,rfl⟩:=K;simp only [Dy] at U;obtain⟨rfl,rfl,rfl,Z,ac,-⟩:=U;cases ex <;> simp [LN,pH,pN,pZ,pV,pT,pQ,pD,pX,oC] at O ac ⊢ <;> omega
 case len=>obtain⟨rfl,rfl,-,rfl⟩:=K;exact O
 case Kh=>obtain⟨rfl,rfl,-,rfl⟩:=K;exact O
 case Ju=>obtain⟨rfl,rfl,-,rfl⟩:=K;exact O
 case Gn=>obtain⟨rfl,rfl,-,rfl⟩:=K;exact O
 case JC=>obtain⟨rfl,rfl,-,rfl⟩:=K;exact O
 case Jw=>obtain⟨rfl,rfl,-,rfl⟩:=K;exact O
 case Jq=>obtain⟨rfl,rfl,-,rfl⟩:=K;exact O
 case Hw=>
  obtain⟨rfl,rfl,-,rfl⟩:=K;simp only [Dy] at U;obtain⟨rfl,-⟩:=U;rcases Nat.eq_zero_or_pos w with rfl | hw
  ·cases st <;> cases k <;> simp [LN,pH,pN,pZ,pV,pT,pQ,pD,pX,oC] at O ⊢ <;> omega
  ·have ab:¬w=0:=by omega
   cases st <;> cases k <;> simp [LN,pH,pN,pZ,pV,pT,pQ,pD,pX,oC,ab] at O ⊢ <;> omega
 case EF old=>
  simp only [Dy] at U;obtain⟨k1,V,Y,Z,-⟩:=U;split at K
  ·rename_i e;subst e;simp only at k1 V Y Z;subst k1 V Y;simp only [List.mem_singleton,Prod.mk.injEq] at K;obtain⟨rfl,rfl,-,rfl⟩:=K;simp [LN,pH,pN,pZ,pV,pT,pQ,pD,pX,oC] at O ⊢;omega
  ·simp only [List.mem_singleton,Prod.mk.injEq] at K;obtain⟨rfl,rfl,-,rfl⟩:=K;exact O
 case G3=>
  obtain⟨rfl,rfl,-,rfl⟩:=K;rcases Nat.eq_zero_or_pos w with rfl | hw
  ·cases st <;> cases k <;> cases l <;> simp [LN,pH,pN,pZ,pV,pT,pQ,pD,pX,oC] at O ⊢ <;> omega
  ·have ab:¬w=0:=by omega
   cases st <;> cases k <;> cases l <;> simp [LN,pH,pN,pZ,pV,pT,pQ,pD,pX,oC,ab] at O ⊢ <;> omega
 case ET b=>
  obtain⟨rfl,rfl,-,rfl⟩:=K;cases b <;> cases st <;> cases k <;> cases l <;> simp [LN,pH,pN,pZ,pV,pT,pQ,pD,pX,oC] at O ⊢ <;> omega
 case EU=>obtain⟨rfl,rfl,-,rfl⟩:=K;exact O
theorem LN.awake(O:LN m q (pH p+h) (pN p+rn) (pZ p+rs) (pV p+v) (pT p+t) (pQ p+s) (pD p+d) (pX p+x))(aa:pT p=1):m.k=true:=by
 obtain⟨l,k,st,w⟩:=m;obtain⟨ab,U,V⟩:=O;cases st
 ·obtain⟨a1,Y,K,Z⟩:=U rfl;cases k
  ·simp at K;omega
  ·rfl
 ·obtain⟨a1,Y,K,Z⟩:=V rfl;omega
theorem LN.Zc(K:(m',q',es,o)∈F.BW p m q)(O:Dy p m q)(Y:KQ p m)(U:C8 m)(ab:LN m q (pH p+h) (pN p+rn) (pZ p+rs) (pV p+v) (pT p+t) (pQ p+s) (pD p+d) (pX p+x)):∀Z,o=some Z->KQ Z m':=by
 have aa:=λac=>ab.awake ac;cases p <;> simp only [Fam.BW,List.mem_singleton,Prod.mk.injEq,List.not_mem_nil] at K
 case GZ=>
  split at K <;> simp only [List.mem_singleton,Prod.mk.injEq] at K <;> obtain⟨rfl,rfl,-,rfl⟩:=K <;> rintro _ ⟨⟩ <;> simp [KQ]
 case Eh sv aw it=>
  obtain⟨rfl,rfl,-,rfl⟩:=K;rintro _ ⟨⟩;exact⟨λe=>by subst e;exact aa rfl,Y.1,Y.2,U⟩
 case Cn sv aw it old=>
  simp only [Fam.Fo,List.mem_append] at K;simp only [Dy] at O;obtain⟨k1,V,ae,ag,ah,-⟩:=O;rcases K with K | K
  ·split at K
   ·rename_i c;split at K
    ·simp only [List.mem_singleton] at K;split at K <;> simp only [Prod.mk.injEq] at K <;> obtain⟨rfl,rfl,-,rfl⟩:=K <;> rintro _ ⟨⟩
     ·exact⟨λ_=>rfl,by omega⟩
     ·exact⟨V,by omega⟩
    ·simp only [List.mem_singleton,Prod.mk.injEq] at K;obtain⟨rfl,rfl,-,rfl⟩:=K;rintro _ ⟨⟩;exact⟨λe=>by subst e;exact aa rfl,V,by omega,U⟩
   ·simp at K
  ·split at K
   ·split at K
    ·simp only [List.mem_singleton,Prod.mk.injEq] at K;obtain⟨rfl,rfl,-,rfl⟩:=K;rintro _ ⟨⟩;trivial
    ·simp only [List.mem_cons,List.not_mem_nil,or_false,Prod.mk.injEq] at K;rcases K with⟨rfl,rfl,-,rfl⟩ | ⟨rfl,rfl,-,rfl⟩ <;> rintro _ ⟨⟩ <;> trivial
   ·simp only [List.mem_singleton,Prod.mk.injEq] at K;obtain⟨rfl,rfl,-,rfl⟩:=K;rintro _ ⟨⟩;exact⟨V,ae⟩
 case Cz sv=>
  obtain⟨rfl,rfl,-,rfl⟩:=K;rintro _ h;cases sv <;> cases h <;> trivial
 case FP=>
  simp only [List.mem_cons,List.not_mem_nil,or_false,Prod.mk.injEq] at K;rcases K with⟨rfl,rfl,-,rfl⟩ | ⟨rfl,rfl,-,rfl⟩ <;> rintro _ ⟨⟩ <;> trivial
 case Eu sv=>
  simp only [Dy] at O;split at K
  ·rename_i c;simp only [List.mem_singleton,Prod.mk.injEq] at K;obtain⟨rfl,rfl,-,rfl⟩:=K;rintro _ ⟨⟩;intro e;have:=(O.1 c).2.2;simp at e;omega
  ·rename_i c;simp only [List.mem_singleton,Prod.mk.injEq] at K;obtain⟨rfl,rfl,-,rfl⟩:=K;rintro _ ⟨⟩;exact⟨λ_=>O.2.1 (by simpa using c),λ_=>rfl,by omega,U⟩
 case Hw=>
  obtain⟨rfl,rfl,-,rfl⟩:=K;rintro _ h;split at h
  ·cases h;trivial
  ·rename_i c;split at h
   ·rename_i c2;cases h;exact⟨rfl,c2.1,by simpa using c,c2.2,U⟩
   ·cases h;trivial
 case EF old=>
  split at K <;> simp only [List.mem_singleton,Prod.mk.injEq] at K <;> obtain⟨rfl,rfl,-,rfl⟩:=K <;> rintro _ ⟨⟩ <;> trivial
 case G3=>
  obtain⟨rfl,rfl,-,rfl⟩:=K;rintro _ h;split at h
  ·rename_i c;cases h;exact⟨c.1,c.2.1,c.2.2.1,c.2.2.2,U⟩
  ·cases h;trivial
 all_goals
  obtain⟨rfl,rfl,-,rfl⟩:=K;rintro _ ⟨⟩
 all_goals trivial
theorem LN.keepW(K:(m',q',es,o)∈F.BW p m q)(O:Dy p m q)(U:LN m q (pH p+h) (pN p+rn) (pZ p+rs) (pV p+v) (pT p+t) (pQ p+s) (pD p+d) (pX p+x))(hd:1<=d):m.w<=m'.w:=by
 obtain⟨l,k,st,w⟩:=m;obtain⟨ab,V,Y⟩:=U;have Z:st=true:=by
  cases st
  ·have:=(V rfl).2.1;omega
  ·rfl
 subst Z;obtain⟨a1,ac,ae,aa,ag,ah⟩:=Y rfl;cases p <;> simp only [Fam.BW,List.mem_singleton,Prod.mk.injEq,List.not_mem_nil] at K
 case GZ=>split at K <;> simp only [List.mem_singleton,Prod.mk.injEq] at K <;> obtain⟨rfl,rfl,-,rfl⟩:=K <;> simp_all [M4.zero]
 case Cn sv aw it old=>
  simp only [Fam.Fo,List.mem_append] at K;rcases K with K | K
  ·split at K
   ·split at K
    ·simp only [List.mem_singleton] at K;split at K <;> simp only [Prod.mk.injEq] at K <;> obtain⟨rfl,rfl,-,rfl⟩:=K <;> exact Nat.le_refl _
    ·simp only [List.mem_singleton,Prod.mk.injEq] at K;obtain⟨rfl,rfl,-,rfl⟩:=K;exact Nat.le_refl _
   ·simp at K
  ·split at K
   ·split at K
    ·simp only [List.mem_singleton,Prod.mk.injEq] at K;obtain⟨rfl,rfl,-,rfl⟩:=K;exact Nat.le_refl _
    ·simp only [List.mem_cons,List.not_mem_nil,or_false,Prod.mk.injEq] at K;rcases K with⟨rfl,rfl,-,rfl⟩ | ⟨rfl,rfl,-,rfl⟩ <;> simp
   ·simp only [List.mem_singleton,Prod.mk.injEq] at K;obtain⟨rfl,rfl,-,rfl⟩:=K;exact Nat.le_refl _
 case FP=>
  simp only [List.mem_cons,List.not_mem_nil,or_false,Prod.mk.injEq] at K;rcases K with⟨rfl,rfl,-,rfl⟩ | ⟨rfl,rfl,-,rfl⟩ <;> exact Nat.le_refl _
 case Eu sv=>split at K <;> simp only [List.mem_singleton,Prod.mk.injEq] at K <;> obtain⟨rfl,rfl,-,rfl⟩:=K <;> exact Nat.le_refl _
 case Eg ex=>simp only [pD] at aa;omega
 case EF old=>
  simp only [Dy] at O;split at K
  ·rename_i e;subst e;exact absurd O.2.2.1 (by simp)
  ·simp only [List.mem_singleton,Prod.mk.injEq] at K;obtain⟨rfl,rfl,-,rfl⟩:=K;exact Nat.le_refl _
 all_goals
  obtain⟨rfl,rfl,-,rfl⟩:=K;exact Nat.le_refl _
end
def Da(f:LP->Nat):Nx->Nat
 | .ph (.lk _ p)=>f p
 | _=>0
def No:Nx->M4->Prop
 | .ph (.lk _ p),m=>KQ p m
 | _,_=>True
def Sg(f:LP->Nat)(N:Nat)(φ:Nat->Nx):Nat:=sumTo N λi=>Da f (φ i)
structure LI (N:Nat) (φ:Nat->Nx) (m:M4) (q:Nat):Prop where
 ln:LN m q (Sg pH N φ) (Sg pN N φ) (Sg pZ N φ) (Sg pV N φ) (Sg pT N φ) (Sg pQ N φ) (Sg pD N φ) (Sg pX N φ)
 loc:∀i,i<N->No (φ i) m
section
variable {F:Fam}{N i k:Nat}{φ:Nat->Nx}{p:LP}{m m':M4}{q q':Nat}{es:Array Event}{o:Option LP}{y:Nx}
theorem O3(f:LP->Nat)(hi:i<N):Sg f N (upd φ i y)+Da f (φ i)=Sg f N φ+Da f y:=sumTo_upd φ y (Da f) hi
theorem Fw(f:LP->Nat)(hi:i<N)(K:φ i= .ph (.lk k p)):∃r,Sg f N φ=f p+r/\∀o,Sg f N (upd φ i (.ph (Fam.C9 k o)))=oC f o+r:=by
 have O:Da f (φ i)<=Sg f N φ:=le_sumTo (f:=λi=>Da f (φ i)) hi;have e:Da f (φ i)=f p:=by rw [K];rfl
 refine⟨Sg f N φ - f p,by omega,λo=>?_⟩;have U:=O3 (φ:=φ) (y:= .ph (Fam.C9 k o)) f hi;have V:Da f (.ph (Fam.C9 k o))=oC f o:=by cases o <;> rfl
 omega
theorem Mx(f:LP->Nat)(hi:i<N)(K:Da f (φ i)=Da f y):Sg f N (upd φ i y)=Sg f N φ:=by
 have:=O3 (φ:=φ) (y:=y) f hi;omega
theorem LI.other(h:LI N φ m q)(hi:i<N)(U:∀k p,φ i≠ .ph (.lk k p))(K:∀k p,y≠ .ph (.lk k p)):LI N (upd φ i y) m q:=by
 have z:∀(f:LP->Nat) x,(∀k p,x≠Nx.ph (.lk k p))->Da f x=0:=by
  intro f x V;cases x with
  | gone d=>rfl
  | ph p=>cases p <;> first | rfl | exact absurd rfl (V _ _)
 have e:∀f,Sg f N (upd φ i y)=Sg f N φ:=λf=>Mx f hi (by rw [z f _ U,z f _ K]);refine⟨by simp only [e];exact h.ln,λa Y=>?_⟩;by_cases O:a=i
 ·subst O;rw [upd_same];cases y with
  | gone d=>trivial
  | ph p=>cases p <;> first | trivial | exact absurd rfl (K _ _)
 ·rw [upd_ne _ _ O];exact h.loc a Y
theorem LI.ok(h:LI N φ m q)(hi:i<N)(K:φ i= .ph (.lk k p))(V:C8 m)(Y:∀sv,p= .Cz sv->q≠0):Dy p m q:=by
 obtain⟨a,Z,-⟩:=Fw pH hi K;obtain⟨b,aa,-⟩:=Fw pN hi K;obtain⟨c,ab,-⟩:=Fw pZ hi K;obtain⟨d,ac,-⟩:=Fw pV hi K;obtain⟨e,ae,-⟩:=Fw pT hi K;obtain⟨f,ag,-⟩:=Fw pQ hi K;obtain⟨g,ah,-⟩:=Fw pD hi K;obtain⟨j,ai,-⟩:=Fw pX hi K;have O:=h.ln;rw [Z,aa,ab,ac,ae,ag,ah,ai] at O;have U:=h.loc i hi;rw [K] at U;exact Xv O U V Y
theorem LI.step(h:LI N φ m q)(hi:i<N)(K:φ i= .ph (.lk k p))(ag:C8 m)(U:Dy p m q)(V:(m',q',es,o)∈F.BW p m q):LI N (upd φ i (.ph (Fam.C9 k o))) m' q':=by
 obtain⟨a,ah,ai⟩:=Fw pH hi K;obtain⟨b,aj,ak⟩:=Fw pN hi K;obtain⟨c,al,am⟩:=Fw pZ hi K;obtain⟨d,an,ao⟩:=Fw pV hi K;obtain⟨e,ap,aq⟩:=Fw pT hi K;obtain⟨f,ar,au⟩:=Fw pQ hi K;obtain⟨g,av,aw⟩:=Fw pD hi K;obtain⟨j,ay,az⟩:=Fw pX hi K;have O:=h.ln;rw [ah,aj,al,an,ap,ar,av,ay] at O;have aa:=h.loc i hi;rw [K] at aa;refine⟨by rw [ai,ak,am,ao,aq,au,aw,az];exact O.step V U,λy ab=>?_⟩;by_cases Y:y=i
 ·subst Y;rw [upd_same];cases o with
  | none=>trivial
  | some aA=>exact O.Zc V U aa ag aA rfl
 ·rw [upd_ne _ _ Y];have Z:=h.loc y ab;cases ac:φ y with
  | gone d=>trivial
  | ph p0=>
   cases p0 with
   | lk aB p0=>
    rw [ac] at Z;cases p0 <;> try exact Z
    rename_i ex;intro aC;have hd:1<=g:=by
     have aD:=O3 (N:=N) (φ:=φ) (i:=i) (y:= .gone 0) pD hi;have ae:Da pD (upd φ i (.gone 0) y)<=Sg pD N (upd φ i (.gone 0)):=le_sumTo (f:=λa=>Da pD (upd φ i (.gone 0) a)) ab;rw [upd_ne _ _ Y,ac] at ae;have aE:Da pD (φ i)=pD p:=by rw [K];rfl
     have e2:Da pD (.gone 0)=0:=rfl;have aF:Da pD (.ph (.lk aB (.Eg ex)))=1:=rfl;omega
    have:=O.keepW V U hd;have ae:2<=m.w:=Z aC;omega
   | _=>trivial
end
end Pal
namespace Pal
open Go Go.Conc
open Go.ConcN (upd upd_same upd_ne sumTo sumTo_upd sumTo_upd_out sumTo_congr le_sumTo sumTo_le)
def G5:LP->Nat
 | .len=>22 | .Kh=>21 | .Ju=>20 | .Fs=>19 | .Gn=>18 | .JC=>17 | .Jw=>16 | .Jq=>15 | .Hw=>14
 | .EF _=>13 | .G3=>13 | .ET _=>12 | .EU=>11
 | _=>23
def kw:LP->Nat
 | .FQ | .GZ=>2
 | .Eh _ aw _=>if aw then 1 else 2
 | .Cn _ aw _ _=>if aw then 1 else 2
 | .FP | .Eu _ | .Eg _=>1
 | _=>0
def lc(m:M4):LP->Nat
 | .FQ=>27 | .GZ=>26 | .Eh _ _ it=>2*(5 - it)+1
 | .Cn _ _ it old=>2*(5 - it)+if m=old then 0 else 2
 | .HZ _=>24 | .Cz _=>23 | .FP=>22 | .Eu _=>21
 | .EF old=>if m=old then 1 else 3
 | .G3=>2
 | _=>0
def wO:Option LP->Nat
 | some p=>G5 p
 | none=>9
def wt(n:Nat):Nx->Nat
 | .gone _=>0
 | .ph p=>match p with
  | .GY _=>10 | .HD=>9 | .Gi=>8 | .Iw=>7 | .G2=>6 | .GB=>5 | .GW=>4 | .Fb=>3
  | .Dl=>3*n+25 | .FN m=>3*m+20 | .G1 m=>3*m+19 | .H7=>14 | .HB=>13 | .Fl=>12 | .GX=>11 | .FR=>10 | .H0=>9 | .FZ=>8 | .Hm=>7
  | .F1 j=>5*n+90+50*(n - j) | .H5 j=>5*n+89+50*(n - j) | .Ic j=>5*n+88+50*(n - j) | .Hu j=>5*n+87+50*(n - j) | .GG j=>5*n+86+50*(n - j) | .FE j=>5*n+85+50*(n - j)
  | .GC=>5*n+60 | .Fz _ _=>2
  | .lk _ p=>G5 p
theorem W5{F:Fam}{p:Ph}{v w sm v' w' sm':Nat}{es:Array Event}{K:Nx}(h:F.act p v w sm=some ((v',w',sm'),es,K)):wt F.n K<wt F.n (.ph p):=by
  cases p <;> simp only [Fam.act] at h <;> (try (cases h;done))
  case G2=>
    split at h
    ·cases h;split <;> simp [wt]
    ·cases h
  case FN=>
    split at h
    ·cases h;split <;> simp [wt] <;> omega
    ·cases h
  case G1=>
    split at h
    ·split at h <;> cases h <;> simp [wt] <;> omega
    ·cases h
  case H5=>
    split at h
    ·cases h;split <;> simp [wt]
    ·cases h
  all_goals first
    | (cases h;simp [wt];done)
    | (split at h
       ·cases h;simp [wt]
       ·cases h)
section
variable {F:Fam}{p:LP}{m m':M4}{q q':Nat}{es:Array Event}{o:Option LP}
theorem Wg(K:(m',q',es,o)∈F.BW p m q)(O:Dy p m q):wO o<G5 p∨(wO o=G5 p/\(oC kw o+q'<kw p+q∨(oC kw o+q'=kw p+q/\m'=m/\oC (lc m) o<lc m p))):=by
 cases p <;> simp only [Fam.BW,List.mem_singleton,Prod.mk.injEq,List.not_mem_nil] at K
 case GZ=>
  split at K <;> simp only [List.mem_singleton,Prod.mk.injEq] at K <;> obtain⟨rfl,rfl,-,rfl⟩:=K
  ·exact .inl (by simp [wO,G5])
  ·exact .inr ⟨rfl,.inr ⟨rfl,rfl,by simp [oC,lc]⟩⟩
 case Eh sv aw it=>
  obtain⟨rfl,rfl,-,rfl⟩:=K;exact .inr ⟨rfl,.inr ⟨rfl,rfl,by simp [oC,lc]⟩⟩
 case Cn sv aw it old=>
  simp only [Fam.Fo,List.mem_append] at K;simp only [Dy] at O;obtain⟨k1,U,V,Y,Z,-⟩:=O;rcases K with K | K
  ·split at K
   ·rename_i c;split at K
    ·rename_i c2;simp only [List.mem_singleton] at K;obtain⟨rfl,c3,c4⟩:=c2;split at K <;> simp only [Prod.mk.injEq] at K <;> obtain⟨rfl,rfl,-,rfl⟩:=K
     ·exact .inr ⟨rfl,.inl (by simp [oC,kw])⟩
     ·rename_i e;refine .inr ⟨rfl,.inr ⟨rfl,rfl,?_⟩⟩;simp only [oC,lc,if_neg e];omega
    ·simp only [List.mem_singleton,Prod.mk.injEq] at K;obtain⟨rfl,rfl,-,rfl⟩:=K;refine .inr ⟨rfl,.inr ⟨rfl,rfl,?_⟩⟩;simp only [oC,lc,if_true];omega
   ·simp at K
  ·split at K
   ·rename_i e;split at K
    ·simp only [List.mem_singleton,Prod.mk.injEq] at K;obtain⟨rfl,rfl,-,rfl⟩:=K;exact .inl (by simp [wO,G5])
    ·simp only [List.mem_cons,List.not_mem_nil,or_false,Prod.mk.injEq] at K;rcases K with⟨rfl,rfl,-,rfl⟩ | ⟨rfl,rfl,-,rfl⟩ <;> exact .inr ⟨rfl,.inl (by cases aw <;> simp [oC,kw])⟩
   ·rename_i e;simp only [List.mem_singleton,Prod.mk.injEq] at K;obtain⟨rfl,rfl,-,rfl⟩:=K;refine .inr ⟨rfl,.inr ⟨rfl,rfl,?_⟩⟩;simp only [oC,lc,if_neg e];omega
 case Cz sv=>
  obtain⟨rfl,rfl,-,rfl⟩:=K;simp only [Dy] at O;cases sv
  ·refine .inr ⟨rfl,.inr ⟨?_,rfl,by simp [oC,lc]⟩⟩;simp only [oC,kw,Bool.false_eq_true,if_false];omega
  ·refine .inr ⟨rfl,.inr ⟨?_,rfl,by simp [oC,lc]⟩⟩;simp only [oC,kw,if_true];omega
 case FP=>
  simp only [List.mem_cons,List.not_mem_nil,or_false,Prod.mk.injEq] at K;rcases K with⟨rfl,rfl,-,rfl⟩ | ⟨rfl,rfl,-,rfl⟩ <;> exact .inr ⟨rfl,.inr ⟨rfl,rfl,by simp [oC,lc]⟩⟩
 case Eu sv=>
  split at K <;> simp only [List.mem_singleton,Prod.mk.injEq] at K <;> obtain⟨rfl,rfl,-,rfl⟩:=K <;> exact .inr ⟨rfl,.inr ⟨rfl,rfl,by simp [oC,lc]⟩⟩
 case Hw=>
  obtain⟨rfl,rfl,-,rfl⟩:=K;refine .inl ?_;split
  ·simp [wO,G5]
  ·split <;> simp [wO,G5]
 case EF old=>
  split at K <;> simp only [List.mem_singleton,Prod.mk.injEq] at K <;> obtain⟨rfl,rfl,-,rfl⟩:=K
  ·exact .inl (by simp [wO,G5])
  ·rename_i e;refine .inr ⟨rfl,.inr ⟨rfl,rfl,?_⟩⟩;simp only [oC,lc,if_neg e];omega
 case G3=>
  obtain⟨rfl,rfl,-,rfl⟩:=K;split
  ·exact .inr ⟨rfl,.inr ⟨rfl,rfl,by simp [oC,lc]⟩⟩
  ·exact .inl (by simp [wO,G5])
 case HZ sv=>obtain⟨rfl,rfl,-,rfl⟩:=K;exact .inr ⟨rfl,.inr ⟨rfl,rfl,by simp [oC,lc]⟩⟩
 case FQ=>obtain⟨rfl,rfl,-,rfl⟩:=K;exact .inr ⟨rfl,.inr ⟨rfl,rfl,by simp [oC,lc]⟩⟩
 all_goals
  obtain⟨rfl,rfl,-,rfl⟩:=K;exact .inl (by simp [wO,G5])
end
def Dn(N:Nat)(r' r:Nat->Rk):Prop:=∃i,i<N/\Rk.sub (r' i) (r i)/\∀j,j≠i->r' j=r j
theorem Dn.wf:∀N,WellFounded (Dn N)
 | 0=>⟨λ_=>⟨_,λ_ ⟨_,h,_⟩=>by omega⟩⟩
 | N+1=>⟨by
  have key:∀x:Rk,∀r:Nat->Rk,r N=x->Acc (Dn (N+1)) r:=by
   intro x
   induction x using Rk.wf.induction with
   | _ x V=>
    intro r
    induction r using (Dn.wf N).induction with
    | _ r Y=>
     intro e
     refine⟨_,λr' ⟨i,hi,K,O⟩=>?_⟩
     by_cases U:i=N
     ·subst U;exact V (r' i) (by rw [← e];exact K) r' rfl
     ·exact Y r' ⟨i,by omega,K,O⟩ (by rw [O N (Ne.symm U),e])
  exact λr=>key _ r rfl⟩
def chain:Nat->Rk
 | 0=> .leaf
 | n+1=> .node λ_=>chain n
theorem U6(n:Nat)(w:World):Rk.sub (chain n) (chain (n+1)):=⟨_,w,rfl,rfl⟩
structure Mu where
 a:Nat
 k:Nat
 l:Nat
 N:Nat
 r:Nat->Rk
 b:Nat
def Mu.lt(x y:Mu):Prop:=x.a<y.a∨(x.a=y.a/\(x.k<y.k∨(x.k=y.k/\(x.l<y.l∨(x.l=y.l/\x.N=y.N/\(Dn y.N x.r y.r∨(x.r=y.r/\x.b<y.b)))))))
theorem Mu.wf:WellFounded Mu.lt:=⟨by
 have key:∀(a k l N:Nat) (r:Nat->Rk) (b:Nat),Acc Mu.lt ⟨a,k,l,N,r,b⟩:=by
  intro a
  induction a using Nat.strongRecOn with
  | _ a aa=>
   intro k
   induction k using Nat.strongRecOn with
   | _ k ab=>
    intro l
    induction l using Nat.strongRecOn with
    | _ l ac=>
     intro N r
     induction r using (Dn.wf N).induction with
     | _ r ae=>
      intro b
      induction b using Nat.strongRecOn with
      | _ b ag=>
       refine⟨_,λ⟨ah,k',l',N',r',b'⟩ h=>?_⟩
       rcases h with h | ⟨K,h | ⟨O,h | ⟨U,V,h | ⟨Y,Z⟩⟩⟩⟩
       ·exact aa ah h k' l' N' r' b'
       ·simp only at K h;subst K;exact ab k' h l' N' r' b'
       ·simp only at K O h;subst K O;exact ac l' h N' r' b'
       ·simp only at K O U V h;subst K O U V;exact ae r' h b'
       ·simp only at K O U V Y Z;subst K O U V Y;exact ag b' Z
 exact λ⟨a,k,l,N,r,b⟩=>key a k l N r b⟩
def bit(b:Bool):Nat:=if b then 1 else 0
def mu(F:Fam)(N:Nat)(φ:Nat->Nx)(m:M4)(q:Nat)(r:Nat->Rk)(bt:Nat->Bool):Mu:=⟨sumTo N λi=>wt F.n (φ i),Sg kw N φ+q,Sg (lc m) N φ,N,r,sumTo N λi=>bit (bt i)⟩
section
variable {F:Fam}{N N' i k:Nat}{φ φ':Nat->Nx}{p:LP}{m m':M4}{q q':Nat}{es:Array Event}{o:Option LP}{r r':Nat->Rk}{b b':Nat->Bool}{x:Nx}{ρ:Rk}
theorem Y4(h:(sumTo N' λi=>wt F.n (φ' i))<sumTo N λi=>wt F.n (φ i)):Mu.lt (mu F N' φ' m' q' r' b') (mu F N φ m q r b):= .inl h
theorem SM(hi:i<N)(h:wt F.n x<wt F.n (φ i)):Mu.lt (mu F N (upd φ i x) m' q' r' b') (mu F N φ m q r b):=by
 have:=sumTo_upd φ x (wt F.n) hi;exact .inl (by show(sumTo N λa=>wt F.n (upd φ i x a))<sumTo N λa=>wt F.n (φ a);omega)
theorem SV(hi:i<N)(K:∀f,Da f x=Da f (φ i))(hw:wt F.n x=wt F.n (φ i))(h:Rk.sub ρ (r i)):Mu.lt (mu F N (upd φ i x) m q (upd r i ρ) b') (mu F N φ m q r b):=by
 have:=sumTo_upd φ x (wt F.n) hi;refine .inr ⟨by show(sumTo N λa=>wt F.n (upd φ i x a))=sumTo N λa=>wt F.n (φ a);omega,.inr ⟨by show Sg kw N (upd φ i x)+q=_;rw [Mx kw hi (K kw).symm];rfl,.inr ⟨Mx (lc m) hi (K _).symm,rfl,.inl ⟨i,hi,?_,λa O=>upd_ne _ _ O⟩⟩⟩⟩;show Rk.sub (upd r i ρ i) _;rw [upd_same];exact h
theorem YK(hi:i<N)(K:φ i= .ph (.lk k p))(V:(m',q',es,o)∈F.BW p m q)(Y:Dy p m q):Mu.lt (mu F N (upd φ i (.ph (Fam.C9 k o))) m' q' r' b') (mu F N φ m q r b):=by
 have hw:=sumTo_upd φ (.ph (Fam.C9 k o)) (wt F.n) hi;have Z:wt F.n (φ i)=G5 p:=by rw [K];rfl
 have e2:wt F.n (.ph (Fam.C9 k o))=wO o:=by cases o <;> rfl
 rw [Z,e2] at hw;obtain⟨a,O,U⟩:=Fw (k:=k) kw hi K;obtain⟨c,aa,ab⟩:=Fw (k:=k) (lc m) hi K;rcases Wg V Y with h | ⟨ae,h | ⟨ag,ac,ah⟩⟩
 ·exact .inl (by show(sumTo N λa=>wt F.n (upd φ i _ a))<sumTo N λa=>wt F.n (φ a);omega)
 ·exact .inr ⟨by show(sumTo N λa=>wt F.n (upd φ i _ a))=sumTo N λa=>wt F.n (φ a);omega,.inl (by show Sg kw N (upd φ i _)+q'<Sg kw N φ+q;rw [O,U];omega)⟩
 ·subst ac;exact .inr ⟨by show(sumTo N λa=>wt F.n (upd φ i _ a))=sumTo N λa=>wt F.n (φ a);omega,.inr ⟨by show Sg kw N (upd φ i _)+q'=Sg kw N φ+q;rw [O,U];omega,.inl (by show Sg (lc m') N (upd φ i _)<Sg (lc m') N φ;rw [aa,ab];omega)⟩⟩
end
end Pal
namespace Pal
open Go Go.Conc
open Go.ConcN (upd upd_same upd_ne sumTo sumTo_upd sumTo_upd_out sumTo_congr le_sumTo sumTo_le fork_knows RelBy)
section
variable {F:Fam}{N0 t0 N j:Nat}{φ:Nat->Nx}{S:Nat->St}{t u:Trace}{v wt sm v' wt' sm':Nat}
theorem Ml{α:Type}(f:Nat->α)(i:Nat):upd f i (f i)=f:=by
 funext a;unfold upd;split
 ·rename_i e;rw [e]
 ·rfl
def Ft(F:Fam)(K:Prop)(e:Event):Prop:=
 (∀a,(MemAct.ofEvent e).touch? =some a->(∃b,CQ a.loc=some b/\(b=F.wg∨b=F.mu))/\a.kind≠ .plain/\(a.kind= .said->K))/\e.loc≠ .mark (.release F.sA)
theorem Ft.toS{K:Prop}{e:Event}{i:Nat}(h:Ft F K e)(O:K->i=0):EvS F N0 j i e:=
 ⟨λa U=>let ⟨⟨b,V,Y⟩,Z,aa⟩:=h.1 a U;⟨b,V,.inl ⟨Y,Z,λq=>O (aa q)⟩⟩,h.2⟩
theorem Ft.keep{O:Prop}{e:Event}{i:Nat}(h:Ft F O e)(V:O->i=0)(Y:F.fd≠F.wg)(Z:F.fd≠F.mu):(∀a b,(MemAct.ofEvent e).touch? =some a->CQ a.loc=some b->(b=F.wg∨b=F.mu)->a.kind≠ .plain/\(a.kind= .said->i=0))/\
   (∀a,(MemAct.ofEvent e).touch? =some a->CQ a.loc=some F.fd->∃k,k<j/\i=N0+k/\a.loc= .cell ⟨F.fd,k,none⟩/\a.kind= .plain)/\e.loc≠ .mark (.release F.sA):=
 ⟨λa b K _ _=>⟨(h.1 a K).2.1,λq=>V ((h.1 a K).2.2 q)⟩,λa K hb=>by
  obtain⟨⟨b,U,aa⟩,-⟩:=h.1 a K
  rw [hb] at U
  obtain rfl:=Option.some.inj U
  rcases aa with e | e
  ·exact absurd e Y
  ·exact absurd e Z,h.2⟩
theorem Qg{m:Mark}(K:∀a,m≠ .read a)(O:∀a,m≠ .write a):(MemAct.ofEvent (Fam.CI m)).touch? =none:=by
 cases m <;> first | rfl | exact absurd rfl (K _) | exact absurd rfl (O _)
theorem XI(p:Ph){es:Array Event}{ag:Nx}(K:F.act p v wt sm=some ((v',wt',sm'),es,ag)):
  (∀e∈es,Ft F (p= .HB∨∃j,p= .Hu j) e)/\deafBehind (FC (.ph p)) es=FC ag/\(∀e∈es,∀B,F.wg<B->(MemAct.ofEvent e).low B):=by
 have al:∀b w,(MemAct.ofEvent ⟨.cell F.sA,w,b⟩).touch? =some ⟨.cell F.sA,w,if b then .atomic else .plain⟩:=by intro b w;cases b <;> cases w <;> rfl
 have Z:∀(a:Addr) w (T:Prop),a.block=F.wg->Ft F T ⟨.cell a,w,true⟩:=by
  intro a w T hb;refine⟨λx U=>?_,by simp⟩;have:x=⟨.cell a,w,.atomic⟩:=by cases w <;> (simp [MemAct.ofEvent,MemAct.touch?] at U;exact U.symm)
  subst this;exact⟨⟨F.wg,by simp [CQ,hb],.inl rfl⟩,by simp,by simp⟩
 have aa:∀(a:Addr) w B,a.block=F.wg->F.wg<B->(MemAct.ofEvent ⟨.cell a,w,true⟩).low B:=by
  intro a w B hb O;cases w <;> simp [MemAct.ofEvent,MemAct.low,Loc.low,hb,O]
 have GF:∀(m:Mark) (T:Prop),(∀a,m≠ .read a)->(∀a,m≠ .write a)->(∀a,m≠ .release a)->Ft F T (Fam.CI m):=by
  intro m T ai aj ak;exact⟨λx U=>(by rw [Qg ai aj] at U;cases U),λe=>ak _ (Loc.mark.inj e)⟩
 have ab:F.mA.block=F.wg:=rfl;have Y:F.sA.block=F.wg:=rfl;have EV:∀(T:Prop),∀e∈semEvents F.mA,Ft F T e:=by
  intro T e he;simp only [semEvents,List.mem_toArray,List.mem_cons,List.not_mem_nil,or_false] at he;rcases he with rfl | rfl | rfl | rfl
  ·exact GF .disable T (by simp) (by simp) (by simp)
  ·exact Z _ _ _ ab
  ·exact Z _ _ _ ab
  ·exact GF .enable T (by simp) (by simp) (by simp)
 have ah:∀e∈semEvents F.mA,∀B,F.wg<B->(MemAct.ofEvent e).low B:=by
  intro e he B O;simp only [semEvents,List.mem_toArray,List.mem_cons,List.not_mem_nil,or_false] at he;rcases he with rfl | rfl | rfl | rfl
  ·trivial
  ·exact aa _ _ _ ab O
  ·exact aa _ _ _ ab O
  ·trivial
 have ac:∀(T:Prop),∀e∈(#[Fam.Ce F.sA,Fam.En F.sA]:Array Event),Ft F T e:=by
  intro T e he;simp only [List.mem_toArray,List.mem_cons,List.not_mem_nil,or_false] at he;rcases he with rfl | rfl <;> exact Z _ _ _ Y
 have ae:∀e∈(#[Fam.Ce F.sA,Fam.En F.sA]:Array Event),∀B,F.wg<B->(MemAct.ofEvent e).low B:=by
  intro e he B O;simp only [List.mem_toArray,List.mem_cons,List.not_mem_nil,or_false] at he;rcases he with rfl | rfl <;> exact aa _ _ _ Y O
 have one:∀{e:Event} {T:Prop},Ft F T e->∀x∈(#[e]:Array Event),Ft F T x:=by
  intro e T h x U;simp at U;subst U;exact h
 have V:∀{e:Event},(∀B,F.wg<B->(MemAct.ofEvent e).low B)->∀x∈(#[e]:Array Event),∀B,F.wg<B->(MemAct.ofEvent x).low B:=by
  intro e h x U;simp at U;subst U;exact h
 cases p <;> simp only [Fam.act] at K <;> (try (cases K;done))
 ·cases K;exact⟨one (GF _ _ (by simp) (by simp) (by simp)),rfl,V λB O=>O⟩
 ·cases K;exact⟨one (GF _ _ (by simp) (by simp) (by simp)),rfl,V λB O=>trivial⟩
 ·split at K
  ·cases K;exact⟨ac _,by split <;> rfl,ae⟩
  ·cases K
 ·split at K
  ·cases K;exact⟨one (Z _ _ _ Y),rfl,V λB O=>aa _ _ _ Y O⟩
  ·cases K
 ·split at K
  ·cases K;exact⟨one (Z _ _ _ Y),rfl,V λB O=>aa _ _ _ Y O⟩
  ·cases K
 ·split at K
  ·cases K;exact⟨EV _,rfl,ah⟩
  ·cases K
 ·cases K;exact⟨one (GF _ _ (by simp) (by simp) (by simp)),rfl,V λB O=>trivial⟩
 ·split at K
  ·cases K;exact⟨one (Z _ _ _ Y),by split <;> rfl,V λB O=>aa _ _ _ Y O⟩
  ·cases K
 ·split at K
  ·split at K
   ·cases K;exact⟨ac _,rfl,ae⟩
   ·cases K;exact⟨one (Z _ _ _ Y),rfl,V λB O=>aa _ _ _ Y O⟩
  ·cases K
 ·cases K;refine⟨one ⟨λx U=>?_,by simp [Fam.CI]⟩,rfl,V λB O=>O⟩;simp [Fam.CI,MemAct.ofEvent,MemAct.touch?] at U;subst U;exact⟨⟨F.wg,rfl,.inl rfl⟩,by simp,λ_=> .inl rfl⟩
 ·split at K
  ·cases K;exact⟨EV _,rfl,ah⟩
  ·cases K
 ·split at K
  ·cases K;exact⟨one (Z _ _ _ Y),rfl,V λB O=>aa _ _ _ Y O⟩
  ·cases K
 ·cases K;exact⟨one (GF _ _ (by simp) (by simp) (by simp)),rfl,V λB O=>trivial⟩
 ·cases K;exact⟨one (GF _ _ (by simp) (by simp) (by simp)),rfl,V λB O=>trivial⟩
 ·split at K
  ·cases K;exact⟨ac _,by split <;> rfl,ae⟩
  ·cases K
 ·cases K;refine⟨one ⟨λx U=>?_,by simp [Fam.CI]⟩,rfl,V λB O=>O⟩;simp [Fam.CI,MemAct.ofEvent,MemAct.touch?] at U;subst U;exact⟨⟨F.wg,rfl,.inl rfl⟩,by simp,λ_=> .inr ⟨_,rfl⟩⟩
 ·cases K;exact⟨one (GF _ _ (by simp) (by simp) (by simp)),rfl,V λB O=>trivial⟩
 all_goals
  cases K;exact⟨by simp,rfl,by simp⟩
theorem VA(p:Ph){es:Array Event}{U:Nx}(K:F.act p v wt sm=some ((v',wt',sm'),es,U)){k:Nat}(hw:Gz F k (.ph p))(O:late (.ph p)):
  ∀m e,es[m]? =some e->(MemAct.ofEvent e).touch? =none∨((∃ad wr,e=⟨.cell ad,wr,true⟩)/\0<deafBehind (FC (.ph p)) (es.extract 0 m)):=by
 have two:∀m e,(#[Fam.Ce F.sA,Fam.En F.sA]:Array Event)[m]? =some e->(∃ad wr,e=⟨.cell ad,wr,true⟩)/\0<deafBehind 1 ((#[Fam.Ce F.sA,Fam.En F.sA]:Array Event).extract 0 m):=by
  intro m e h
  match m with
  | 0=>simp at h;subst h;exact⟨⟨_,_,rfl⟩,by simp [deafBehind]⟩
  | 1=>simp at h;subst h;exact⟨⟨_,_,rfl⟩,by simp [deafBehind,Fam.Ce]⟩
  | m+2=>simp at h
 cases p <;> simp only [Gz] at hw <;> (try exact hw.elim) <;> simp only [late] at O <;> (try exact O.elim) <;> simp only [Fam.act] at K <;> (try (cases K;done))
 ·cases K;intro m e h
  match m with
  | 0=>simp at h;subst h;exact .inl rfl
  | m+1=>simp at h
 ·split at K
  ·cases K;exact λm e h=> .inr (two m e h)
  ·cases K
 ·split at K
  ·cases K;intro m e h
   match m with
   | 0=>simp at h;subst h;exact .inr ⟨⟨_,_,rfl⟩,by simp [deafBehind,FC]⟩
   | m+1=>simp at h
  ·cases K
 ·split at K
  ·cases K;intro m e h
   match m with
   | 0=>simp at h;subst h;exact .inr ⟨⟨_,_,rfl⟩,by simp [deafBehind,FC]⟩
   | m+1=>simp at h
  ·cases K
 ·split at K
  ·cases K;intro m e h
   match m with
   | 0=>simp [semEvents] at h;subst h;exact .inl rfl
   | 1=>simp [semEvents] at h;subst h;exact .inr ⟨⟨_,_,rfl⟩,by simp [deafBehind,FC,semEvents]⟩
   | 2=>simp [semEvents] at h;subst h;exact .inr ⟨⟨_,_,rfl⟩,by simp [deafBehind,FC,semEvents]⟩
   | 3=>simp [semEvents] at h;subst h;exact .inl rfl
   | m+4=>simp [semEvents] at h
  ·cases K
theorem Wn{p:LP}{m m':M4}{q q':Nat}{es:Array Event}{o:Option LP}(K:(m',q',es,o)∈F.BW p m q):
  (∀e∈es,Ft F False e)/\deafBehind (dl p) es=oC dl o/\(∀e∈es,∀B,F.mu<B->(MemAct.ofEvent e).low B):=by
 have Z:∀(a:Addr) w,a.block=F.mu->Ft F False ⟨.cell a,w,true⟩:=by
  intro a w hb;refine⟨λx Y=>?_,by simp⟩;have:x=⟨.cell a,w,.atomic⟩:=by cases w <;> (simp [MemAct.ofEvent,MemAct.touch?] at Y;exact Y.symm)
  subst this;exact⟨⟨F.mu,by simp [CQ,hb],.inr rfl⟩,by simp,by simp⟩
 have aa:∀(a:Addr) w B,a.block=F.mu->F.mu<B->(MemAct.ofEvent ⟨.cell a,w,true⟩).low B:=by
  intro a w B hb O;cases w <;> simp [MemAct.ofEvent,MemAct.low,Loc.low,hb,O]
 have GF:∀(m:Mark),(∀a,m≠ .read a)->(∀a,m≠ .write a)->(∀a,m≠ .release a)->Ft F False (Fam.CI m):=by
  intro m ab ac ae;exact⟨λx Y=>(by rw [Qg ab ac] at Y;cases Y),λe=>ae _ (Loc.mark.inj e)⟩
 have nil:∀d,(∀e∈(#[]:Array Event),Ft F False e)/\deafBehind d #[]=d/\(∀e∈(#[]:Array Event),∀B,F.mu<B->(MemAct.ofEvent e).low B):=λd=>⟨by simp,rfl,by simp⟩;have rd:∀d,(∀e∈(#[Fam.Ce F.uA]:Array Event),Ft F False e)/\deafBehind d #[Fam.Ce F.uA]=d/\(∀e∈(#[Fam.Ce F.uA]:Array Event),∀B,F.mu<B->(MemAct.ofEvent e).low B):=λd=>
  ⟨λe he=>by simp at he;subst he;exact Z _ _ rfl,rfl,λe he B O=>by simp at he;subst he;exact aa _ _ _ rfl O⟩
 have U:∀d,(∀e∈(#[Fam.Ce F.uA,Fam.En F.uA]:Array Event),Ft F False e)/\deafBehind d #[Fam.Ce F.uA,Fam.En F.uA]=d/\(∀e∈(#[Fam.Ce F.uA,Fam.En F.uA]:Array Event),∀B,F.mu<B->(MemAct.ofEvent e).low B):=λd=>
  ⟨λe he=>by
   simp only [List.mem_toArray,List.mem_cons,List.not_mem_nil,or_false] at he
   rcases he with rfl | rfl <;> exact Z _ _ rfl,rfl,λe he B O=>by
   simp only [List.mem_toArray,List.mem_cons,List.not_mem_nil,or_false] at he
   rcases he with rfl | rfl <;> exact aa _ _ _ rfl O⟩
 have EV:(∀e∈semEvents F.qA,Ft F False e)/\deafBehind 1 (semEvents F.qA)=1/\(∀e∈semEvents F.qA,∀B,F.mu<B->(MemAct.ofEvent e).low B):=by
  refine⟨λe he=>?_,rfl,λe he B O=>?_⟩
  ·simp only [semEvents,List.mem_toArray,List.mem_cons,List.not_mem_nil,or_false] at he;rcases he with rfl | rfl | rfl | rfl
   ·exact GF .disable (by simp) (by simp) (by simp)
   ·exact Z _ _ rfl
   ·exact Z _ _ rfl
   ·exact GF .enable (by simp) (by simp) (by simp)
  ·simp only [semEvents,List.mem_toArray,List.mem_cons,List.not_mem_nil,or_false] at he;rcases he with rfl | rfl | rfl | rfl
   ·trivial
   ·exact aa _ _ _ rfl O
   ·exact aa _ _ _ rfl O
   ·trivial
 have V:∀(m:Mark) (d d':Nat),(∀a,m≠ .read a)->(∀a,m≠ .write a)->(∀a,m≠ .release a)->deafBehind d #[Fam.CI m]=d'->(∀B,F.mu<B->(MemAct.ofEvent (Fam.CI m)).low B)->
   (∀e∈(#[Fam.CI m]:Array Event),Ft F False e)/\deafBehind d #[Fam.CI m]=d'/\(∀e∈(#[Fam.CI m]:Array Event),∀B,F.mu<B->(MemAct.ofEvent e).low B):=λm d d' ab ac ae ag ah=>
  ⟨λe he=>by simp at he;subst he;exact GF m ab ac ae,ag,λe he B O=>by simp at he;subst he;exact ah B O⟩
 cases p <;> simp only [Fam.BW,List.mem_singleton,Prod.mk.injEq,List.not_mem_nil] at K
 case FQ=>obtain⟨rfl,rfl,rfl,rfl⟩:=K;exact V .disable 0 1 (by simp) (by simp) (by simp) rfl λB O=>trivial
 case GZ=>
  split at K <;> simp only [List.mem_singleton,Prod.mk.injEq] at K <;> obtain⟨rfl,rfl,rfl,rfl⟩:=K
  ·exact U 1
  ·exact rd 1
 case Cn sv aw it old=>
  simp only [Fam.Fo,List.mem_append] at K;rcases K with K | K
  ·split at K
   ·split at K
    ·simp only [List.mem_singleton] at K;split at K <;> simp only [Prod.mk.injEq] at K <;> obtain⟨rfl,rfl,rfl,rfl⟩:=K
     ·exact U 1
     ·exact rd 1
    ·simp only [List.mem_singleton,Prod.mk.injEq] at K;obtain⟨rfl,rfl,rfl,rfl⟩:=K;exact nil 1
   ·simp at K
  ·split at K
   ·split at K
    ·simp only [List.mem_singleton,Prod.mk.injEq] at K;obtain⟨rfl,rfl,rfl,rfl⟩:=K;exact U 1
    ·simp only [List.mem_cons,List.not_mem_nil,or_false,Prod.mk.injEq] at K;rcases K with⟨rfl,rfl,rfl,rfl⟩ | ⟨rfl,rfl,rfl,rfl⟩ <;> exact U 1
   ·simp only [List.mem_singleton,Prod.mk.injEq] at K;obtain⟨rfl,rfl,rfl,rfl⟩:=K;exact rd 1
 case Cz sv=>obtain⟨rfl,rfl,rfl,rfl⟩:=K;cases sv <;> exact EV
 case FP=>
  simp only [List.mem_cons,List.not_mem_nil,or_false,Prod.mk.injEq] at K;rcases K with⟨rfl,rfl,rfl,rfl⟩ | ⟨rfl,rfl,rfl,rfl⟩ <;> exact nil 1
 case Eu sv=>split at K <;> simp only [List.mem_singleton,Prod.mk.injEq] at K <;> obtain⟨rfl,rfl,rfl,rfl⟩:=K <;> exact nil 1
 case Hw=>
  obtain⟨rfl,rfl,rfl,rfl⟩:=K;split
  ·exact U 1
  ·split <;> exact U 1
 case EF old=>
  split at K <;> simp only [List.mem_singleton,Prod.mk.injEq] at K <;> obtain⟨rfl,rfl,rfl,rfl⟩:=K
  ·exact U 1
  ·exact rd 1
 case G3=>obtain⟨rfl,rfl,rfl,rfl⟩:=K;split <;> exact nil 1
 case ET b=>obtain⟨rfl,rfl,rfl,rfl⟩:=K;exact EV
 case len=>obtain⟨rfl,rfl,rfl,rfl⟩:=K;exact V .enable 1 0 (by simp) (by simp) (by simp) rfl λB O=>trivial
 case EU=>obtain⟨rfl,rfl,rfl,rfl⟩:=K;exact V .enable 1 0 (by simp) (by simp) (by simp) rfl λB O=>trivial
 case Jq=>obtain⟨rfl,rfl,rfl,rfl⟩:=K;exact V .disable 0 1 (by simp) (by simp) (by simp) rfl λB O=>trivial
 case Ju=>obtain⟨rfl,rfl,rfl,rfl⟩:=K;exact V (.acquire F.uA) 0 0 (by simp) (by simp) (by simp) rfl λB O=>O
 case Jw=>obtain⟨rfl,rfl,rfl,rfl⟩:=K;exact V (.releaseMerge F.uA) 0 0 (by simp) (by simp) (by simp) rfl λB O=>O
 all_goals
  obtain⟨rfl,rfl,rfl,rfl⟩:=K
 all_goals first | exact nil 0 | exact nil 1 | exact U 1
end
end Pal
namespace Pal
open Go Go.Conc
open Go.ConcN (upd upd_same upd_ne sumTo sumTo_upd sumTo_upd_out sumTo_congr le_sumTo sumTo_le fork_knows RelBy)
def CB(c:Bool)(N:Nat)(φ:Nat->Nx):Nat->Nx:=λi=>if c=true/\i=N then φ 0 else if c=true/\i=0 then .ph (.Fz [] []) else φ i
theorem IT{N:Nat}{φ:Nat->Nx}:CB false N φ=φ:=by funext i;simp [CB]
theorem Ir{c:Bool}{N:Nat}{φ:Nat->Nx}{i:Nat}(K:i≠0)(O:i≠N):CB c N φ i=φ i:=by simp [CB,K,O]
theorem Jk{N:Nat}{φ:Nat->Nx}:CB true N φ N=φ 0:=by simp [CB]
theorem Mw{c:Bool}{N:Nat}{φ:Nat->Nx}{i:Nat}{x:Nx}(K:i≠0)(O:i≠N):upd (CB c N φ) i x=CB c N (upd φ i x):=by
 funext a;unfold CB;by_cases e:a=i
 ·subst e;rw [upd_same,if_neg (by simp [O]),if_neg (by simp [K]),upd_same]
 ·rw [upd_ne _ _ e];rw [upd_ne φ x (Ne.symm K),upd_ne _ _ e]
theorem U8{N:Nat}{φ:Nat->Nx}{x:Nx}(O:N≠0):upd (CB true N φ) N x=CB true N (upd φ 0 x):=by
 funext a;unfold CB;by_cases e:a=N
 ·subst e;simp [upd_same]
 ·rw [upd_ne _ _ e];by_cases K:a=0
  ·subst K;simp [e]
  ·rw [upd_ne φ x K];simp [e,K]
def Hn:Nx->Bool
 | .gone _=>true
 | .ph p=>Fam.CP p
def loc(x:Nx)(s:St):St:=if Hn x=true then .quiet else s
def Gl:LP->Prop
 | .Gn | .JC | .Jw | .Jq | .Hw | .EF _ | .G3 | .ET _ | .EU=>True
 | _=>False
def stored:Nx->Prop
 | .gone _=>True
 | .ph (.lk _ p)=>Gl p
 | .ph .HD | .ph .Gi | .ph .Iw | .ph .G2 | .ph .GB | .ph .GW | .ph .Fb=>True
 | _=>False
def OV(p:Ph):Prop:=p= .Fl∨∃k sv,p= .lk k (.Cz sv)
inductive Gm (P:Program) (F:Fam) (main:Bool):Nx->Rk->Bool->Gs_
 | walk {p:Ph} {r:Rk} {g:Goroutine} {s:St}:main=Fam.CF p->(Fam.CP p=true->s= .quiet)->Jr P main (JQ (Stop P F p)) r g s->Gm P F main (.ph p) r true g s
 | blk {p:Ph} {r:Rk} {g:Goroutine} {s:St}:OV p->main=Fam.CF p->Stop P F p g s->Gm P F main (.ph p) r false {g with status:= .blocked} s
 | gone {q d:Nat} {g:Goroutine}:main=false->QuitsD P q d g->Gm P F main (.gone d) (chain q) true g .quiet
section
variable {P:Program}{F:Fam}{main:Bool}
theorem Jr.running{p:Ph}{r:Rk}{g:Goroutine}{s:St}(h:Jr P main (JQ (Stop P F p)) r g s):g.status= .running:=by
 cases r with
 | leaf=>obtain⟨s₀,_,K⟩:=h;exact K.law.run
 | node f=>
  rcases h with⟨s₀,_,K⟩ | ⟨O,_⟩
  ·exact K.law.run
  ·exact O
theorem Jr.at_{Q:GP}{r:Rk}{g:Goroutine}{s:St}(h:Q g s):Jr P main Q r g s:=by
 cases r with
 | leaf=>exact h
 | node f=>exact .inl h
theorem Gm.awake{x:Nx}{r:Rk}{b:Bool}{g:Goroutine}{s:St}(h:Gm P F main x r b g s):Go.Conc.awake g:=by
 cases h with
 | walk _ _ K=>exact awake_of (.inl K.running)
 | blk _ _ _=>exact awake_of (.inr (.inl rfl))
 | gone _ O=>exact awake_of (O.status.elim .inl λx=> .inr (.inr x))
theorem Tz{g:Goroutine}(h:g.status= .running):{({g with status:= .blocked}:Goroutine) with status:= .running}=g:=by
 obtain⟨a,b,c,d,e⟩:=g;simp only at h;subst h;rfl
theorem PV{p:Ph}(h:OV p):Fam.CP p=false:=by
 rcases h with rfl | ⟨k,sv,rfl⟩ <;> rfl
theorem Gm.woken{x:Nx}{r:Rk}{b:Bool}{o:Goroutine}{s:St}(h:Gm P F main x r b o s){g g':Goroutine}{w':World}:
  ∃b',Gm P F main x r b' (Go.Conc.woken P g g' w' o) s/\(b=true->b'=true)/\(mayWake P g=true->g'.status= .running->b'=true):=by
 have ac:∀(o:Goroutine),Go.Conc.woken P g g' w' o=o.again w'∨Go.Conc.woken P g g' w' o=o:=by
  intro o;unfold Go.Conc.woken;split
  ·exact .inl rfl
  ·exact .inr rfl
 cases h with
 | walk K ae V=>exact⟨true,by rw [woken_run V.running];exact .walk K ae V,λ_=>rfl,λ_ _=>rfl⟩
 | @blk p _ go _ Y K O=>
  have Z:({go with status:= .blocked}:Goroutine).again w'=go:=by
   have:=O.law.offers;have ag:({go with status:= .blocked}:Goroutine).again w'={({go with status:= .blocked}:Goroutine) with status:= .running}:=by simp [Goroutine.again,this]
   rw [ag];exact Tz O.law.run
  have aa:Gm P F main (.ph p) r true go s:= .walk K (λq=>by rw [PV Y] at q;cases q) (Jr.at_ ⟨s,.refl _,O⟩);by_cases U:mayWake P g=true/\g'.status= .running
  ·have e:Go.Conc.woken P g g' w' ({go with status:= .blocked}:Goroutine)=({go with status:= .blocked}:Goroutine).again w':=by
    unfold Go.Conc.woken;rw [if_pos (by simp [U.1,U.2])]
   exact⟨true,by rw [e,Z];exact aa,λ_=>rfl,λ_ _=>rfl⟩
  ·rcases ac ({go with status:= .blocked}:Goroutine) with e | e
   ·exact⟨true,by rw [e,Z];exact aa,λ_=>rfl,λa b=>absurd ⟨a,b⟩ U⟩
   ·exact⟨false,by rw [e];exact .blk Y K O,λe=>e,λa b=>absurd ⟨a,b⟩ U⟩
 | gone K ab=>exact⟨true,by rw [woken_quitsD ab];exact .gone K ab,λ_=>rfl,λ_ _=>rfl⟩
end
structure Base where
 N0:Nat
 t0:Nat
 E0:LH
 w0:World
structure Inv (P:Program) (F:Fam) (B:Base) (gs:Array Goroutine) (w:World) (t:Trace) (φ:Nat->Nx) (r:Nat->Rk) (bt:Nat->Bool) (S:Nat->St) (Sh:Nat->Prop) (j:Nat) (c:Bool) (v wt sm:Nat) (m:M4) (q:Nat) (f:Nat->Value):Prop where
 CG:CH F B.N0 (gs.size+c.toNat) j c (CB c gs.size φ) v wt sm false
 lock:LI gs.size φ m q
 EG:ES F B.N0 B.t0 gs.size j φ S t
 Ki:∀i g,gs[i]? =some g->Gm P F (i==0) (φ i) (r i) (bt i) g (loc (φ i) (S i))
 Cc:BS t w gs.size S Sh
 HC:Sh F.wg
 H9:Sh F.mu
 Iy:Sh F.fd
 LJ:F.mu≠F.wg
 Jz:F.fd≠F.wg
 Jx:F.fd≠F.mu
 Hy:F.n<134217728
 mn:φ 0≠ .ph .GC/\φ 0≠ .ph .Hm
 wg:F.WG w v wt sm
 IY:F.MU w m q
 F6:F.FD w f
 blk:∀i,i<gs.size->bt i=false->(i=0/\φ 0= .ph .Fl/\sm=0)∨((∃k sv,φ i= .ph (.lk k (.Cz sv)))/\q=0)
 Ia:∀k,k<j->stored (φ (B.N0+k))->F.msg k (f k) (S (B.N0+k)).E
 le:Le B.E0 (S 0).E
 tape:w.tape=B.w0.tape
 os:F5 B.w0.os w.os
 output:w.output=B.w0.output
section
variable {P:Program}{F:Fam}{B:Base}{gs:Array Goroutine}{w w':World}{t:Trace}{φ:Nat->Nx}{r:Nat->Rk}{bt:Nat->Bool}{S:Nat->St}{Sh:Nat->Prop}{j:Nat}{c:Bool}{v wt' sm v₁ wt₁ sm₁:Nat}{m m₁:M4}{q q₁:Nat}{f f₁:Nat->Value}
theorem Inv.at_(h:Inv P F B gs w t φ r bt S Sh j c v wt' sm m q f)(d:Nat):Inv P F B gs (w.at d) t φ r bt S Sh j c v wt' sm m q f:=
 have K:BS t (w.at d) gs.size S Sh:=by
  have:=h.Cc.mute (u:= #[]) (w':=w.at d) (g:=0) (by simp) (by simp) (by simp) rfl;simpa using this
 {h with Cc:=K}
theorem Inv.size(h:Inv P F B gs w t φ r bt S Sh j c v wt' sm m q f):gs.size=B.N0+j:=by have:=h.CG.size;omega
theorem Inv.Du(h:Inv P F B gs w t φ r bt S Sh j c v wt' sm m q f){i:Nat}(hi:i<gs.size):i=0∨(i≠0/\∃d,φ i= .gone d/\i<B.N0)∨∃k,k<j/\i=B.N0+k/\i≠0/\Gz F k (φ i):=by
 have V:=h.size;have Y:=h.CG.pos;rcases Nat.eq_zero_or_pos i with K | K
 ·exact .inl K
 rcases Nat.lt_or_ge i B.N0 with O | O
 ·have:=h.CG.old i K O;rw [Ir (by omega) (by omega)] at this;cases U:φ i with
  | gone d=>exact .inr (.inl ⟨by omega,d,rfl,O⟩)
  | ph p=>rw [U] at this;exact this.elim
 ·have:=h.CG.work (i - B.N0) (by omega);rw [show B.N0+(i - B.N0)=i by omega,Ir (by omega) (by omega)] at this;exact .inr (.inr ⟨i - B.N0,by omega,by omega,by omega,this⟩)
theorem Inv.main(h:Inv P F B gs w t φ r bt S Sh j c v wt' sm m q f):∃p,φ 0= .ph p/\Fam.CF p=true/\((c=false/\Ho F.n j c p)∨(c=true/\IW (.ph p))):=by
 have Y:=h.size;cases K:c with
 | false=>
  have:=h.CG.main;rw [K,IT] at this;obtain⟨p,V,O⟩:=this;exact⟨p,V,by cases p <;> simp [Ho] at O <;> rfl,.inl ⟨rfl,O⟩⟩
 | true=>
  have:=h.CG.cls K;have Z:=h.CG.cj K;rw [K,show B.N0+F.n=gs.size by omega,Jk] at this;cases U:φ 0 with
  | gone d=>
   have:=h.CG.mode;rw [if_pos K,K,show B.N0+F.n=gs.size by omega,Jk,U] at this;simp [Dx] at this
  | ph p=>rw [U] at this;exact⟨p,rfl,by cases p <;> simp [IW] at this <;> rfl,.inr ⟨rfl,this⟩⟩
theorem Je(a b:LP->Nat)(N:Nat)(φ:Nat->Nx):Sg (λp=>a p+b p) N φ=Sg a N φ+Sg b N φ:=by
 unfold Sg
 induction N with
 | zero=>rfl
 | succ N K=>
  simp only [sumTo,K];have:Da (λp=>a p+b p) (φ N)=Da a (φ N)+Da b (φ N):=by
   cases φ N with
   | gone d=>rfl
   | ph p=>cases p <;> rfl
  omega
theorem N1{a b:Nat->Nat}:∀{N M:Nat},N<=M->(∀i,i<N->a i<=b i)->sumTo N a<=sumTo M b
 | 0,_,_,_=>by simp [sumTo]
 | N+1,0,h,_=>by omega
 | N+1,M+1,h,K=>by
  rcases Nat.lt_or_ge N M with q | q
  ·have O:sumTo (N+1) a<=sumTo M b:=N1 (by omega) K
   simp only [sumTo] at O ⊢;omega
  ·obtain rfl:N=M:=by omega
   have O:sumTo N a<=sumTo N b:=N1 (Nat.le_refl _) λi hi=>K i (by omega);have U:=K N (by omega);simp only [sumTo];omega
theorem Inv.small(h:Inv P F B gs w t φ r bt S Sh j c v wt' sm m q f):C8 m:=by
 have V:=h.size;have hb:Sg (λp=>(pQ p+pV p)+pD p) gs.size φ<=sumTo (gs.size+c.toNat) λi=>cU (CB c gs.size φ i):=by
  refine N1 (by omega) λi hi=>?_;rcases Nat.eq_zero_or_pos i with rfl | Y
  ·obtain⟨p,O,hm,_⟩:=h.main;rw [O];cases p <;> first | (simp [Da];done) | (simp [Fam.CF] at hm)
  ·rw [Ir (by omega) (by omega)];cases φ i with
   | gone d=>simp [Da]
   | ph p=>
    cases p <;> simp only [Da] <;> (try omega)
    rename_i k l;cases l <;> simp [pQ,pV,pD,cU]
 rw [Je,Je] at hb;have Z:=h.CG.cnt;have aa:=h.CG.Px;obtain⟨l1,l2,U⟩:=h.lock.ln;have ab:=h.Hy;show m.w<134217728;cases K:m.s with
 | false=>have:=(l2 K).2.2.2.1;omega
 | true=>have:=(U K).2.2.2.2.1;omega
theorem Inv.go(h:Inv P F B gs w t φ r bt S Sh j c v wt' sm m q f){i:Nat}{g g':Goroutine}{es:Array Event}{x:Nx}{ρ:Rk}{s':St}(hi:gs[i]? =some g)
  (ag:CH F B.N0 (gs.size+c.toNat) j c (CB c gs.size (upd φ i x)) v₁ wt₁ sm₁ false) (ah:LI gs.size (upd φ i x) m₁ q₁)
  (ai:ES F B.N0 B.t0 gs.size j (upd φ i x) (upd S i s') (t++MemOp.ofEvents i g.frame.fn g.frame.place es))
  (aj:Gm P F (i==0) x ρ true g' (loc x s'))
  (hC:BS (t++MemOp.ofEvents i g.frame.fn g.frame.place es) w' gs.size (upd S i s') Sh)
  (ak:F.WG w' v₁ wt₁ sm₁) (al:F.MU w' m₁ q₁) (am:F.FD w' f₁)
  (an:sm₁≠0->sm=0->mayWake P g=true/\g'.status= .running) (ao:q₁≠0->q=0->mayWake P g=true/\g'.status= .running)
  (ap:∀k,k<j->stored (upd φ i x (B.N0+k))->F.msg k (f₁ k) (upd S i s' (B.N0+k)).E)
  (aq:i=0->x≠ .ph .GC/\x≠ .ph .Hm) (ar:i=0->Le (S 0).E s'.E) (au:w'.tape=w.tape) (av:F5 w.os w'.os) (aw:w'.output=w.output):
  ∃O,Inv P F B ((gs.map (woken P g g' w')).setIfInBounds i g') w' (t++MemOp.ofEvents i g.frame.fn g.frame.place es) (upd φ i x) (upd r i ρ) O (upd S i s') Sh j c v₁ wt₁ sm₁ m₁ q₁ f₁:=by
 have ay:i<gs.size:=(Array.getElem?_eq_some_iff.1 hi).1;have U:((gs.map (woken P g g' w')).setIfInBounds i g').size=gs.size:=by simp
 have ac:∀a,∃b',(a=i->b'=true)/\(a≠i->∀o,gs[a]? =some o->Gm P F (a==0) (φ a) (r a) b' (woken P g g' w' o) (loc (φ a) (S a))/\(bt a=true->b'=true)/\(mayWake P g=true->g'.status= .running->b'=true)):=by
  intro a;by_cases e:a=i
  ·exact⟨true,λ_=>rfl,λq=>absurd e q⟩
  ·cases K:gs[a]? with
   | none=>exact⟨true,λ_=>rfl,λ_ o q=>by cases q⟩
   | some o=>
    obtain⟨b',az,V,Y⟩:=(h.Ki a o K).woken (g:=g) (g':=g') (w':=w');exact⟨b',λq=>absurd q e,λ_ o' q=>by cases q;exact⟨az,V,Y⟩⟩
 let O:Nat->Bool:=λa=>Classical.choose (ac a);have hb:∀a,(a=i->O a=true)/\(a≠i->∀o,gs[a]? =some o->Gm P F (a==0) (φ a) (r a) (O a) (woken P g g' w' o) (loc (φ a) (S a))/\(bt a=true->O a=true)/\(mayWake P g=true->g'.status= .running->O a=true)):=λa=>Classical.choose_spec (ac a);refine⟨O,by rw [U];exact ag,by rw [U];exact ah,by rw [U];exact ai,λa o K=>?_,by rw [U];exact hC,h.HC,h.H9,h.Iy,h.LJ,h.Jz,h.Jx,h.Hy,(by
  by_cases e:i=0
  ·subst e;rw [upd_same];exact aq rfl
  ·rw [upd_ne _ _ (Ne.symm e)];exact h.mn),ak,al,am,λa aa ab=>?_,ap,λb o K=>?_,au.trans h.tape,h.os.trans av,aw.trans h.output⟩
 ·by_cases e:a=i
  ·subst e;rw [Array.getElem?_setIfInBounds_self_of_lt (by simpa using ay)] at K;obtain rfl:=Option.some.inj K;rw [upd_same,upd_same,upd_same,(hb a).1 rfl];exact aj
  ·rw [Array.getElem?_setIfInBounds_ne (Ne.symm e),Array.getElem?_map] at K;obtain⟨o',aA,rfl⟩:=Option.map_eq_some_iff.1 K;rw [upd_ne _ _ e,upd_ne _ _ e,upd_ne _ _ e];exact((hb a).2 e o' aA).1
 ·rw [U] at aa;have e:a≠i:=λe=>by have:=(hb a).1 e;rw [ab] at this;cases this
  obtain⟨_,k1,aB⟩:=(hb a).2 e _ (Array.getElem?_eq_getElem aa);have ae:¬(mayWake P g=true/\g'.status= .running):=λ⟨x,y⟩=>by have:=aB x y;rw [ab] at this;cases this
  have aC:bt a=false:=by
   cases Z:bt a with
   | false=>rfl
   | true=>have:=k1 Z;rw [ab] at this;cases this
  rcases h.blk a aa aC with⟨rfl,V,Y⟩ | ⟨⟨k,sv,V⟩,Y⟩
  ·refine .inl ⟨rfl,by rw [upd_ne _ _ e];exact V,?_⟩;exact Classical.not_not.1 λZ=>ae (an Z Y)
  ·refine .inr ⟨⟨k,sv,by rw [upd_ne _ _ e];exact V⟩,?_⟩;exact Classical.not_not.1 λZ=>ae (ao Z Y)
 ·by_cases e:i=0
  ·subst e;rw [upd_same];exact ar rfl b o (h.le b o K)
  ·rw [upd_ne _ _ (Ne.symm e)];exact h.le b o K
end
end Pal
namespace Pal
open Go Go.Conc
open Go.ConcN (upd upd_same upd_ne sumTo sumTo_upd sumTo_upd_out sumTo_congr le_sumTo sumTo_le fork_knows RelBy)
def Pv(P:Program)(F:Fam)(B:Base)(gs:Array Goroutine)(w:World)(t:Trace):Prop:=
 ∃q Sh g s,G6 P gs w t q Sh g s/\F.fin g s/\Le B.E0 s.E/\w.tape=B.w0.tape/\F5 B.w0.os w.os/\w.output=B.w0.output
def HV(P:Program)(F:Fam)(B:Base)(gs:Array Goroutine)(w:World)(sl:Option (Nat×Nat))(t:Trace)(i:Nat)(K:Mu):Prop:=
 ∃gs' w' O u,runT P (crowd gs w sl) i=(.next (crowd gs' w' O),u)/\
  ((∃φ r bt S Sh j c v wt' sm m q f,Inv P F B gs' w' (t++u) φ r bt S Sh j c v wt' sm m q f/\Mu.lt (mu F gs'.size φ m q r bt) K)∨Pv P F B gs' w' (t++u))
theorem LI.same{N:Nat}{φ:Nat->Nx}{m:M4}{q i:Nat}{y:Nx}(h:LI N φ m q)(hi:i<N)(O:∀f,Da f (φ i)=Da f y∨(f≠pH/\f≠pN/\f≠pZ/\f≠pV/\f≠pT/\f≠pQ/\f≠pD/\f≠pX))(U:No y m):LI N (upd φ i y) m q:=by
 have e:∀f,(f=pH∨f=pN∨f=pZ∨f=pV∨f=pT∨f=pQ∨f=pD∨f=pX)->Sg f N (upd φ i y)=Sg f N φ:=λf V=>Mx f hi (by
  rcases O f with q | ⟨a,b,c,d,e,f,g,h⟩
  ·exact q
  ·rcases V with q | q | q | q | q | q | q | q <;> contradiction)
 refine⟨by rw [e pH (by simp),e pN (by simp),e pZ (by simp),e pV (by simp),e pT (by simp),e pQ (by simp),e pD (by simp),e pX (by simp)];exact h.ln,λa Y=>?_⟩;by_cases K:a=i
 ·subst K;rw [upd_same];exact U
 ·rw [upd_ne _ _ K];exact h.loc a Y
section
variable {P:Program}{F:Fam}{B:Base}{gs:Array Goroutine}{w w':World}{sl:Option (Nat×Nat)}{t:Trace}{φ:Nat->Nx}{r:Nat->Rk}{bt:Nat->Bool}{S:Nat->St}{Sh:Nat->Prop}{j:Nat}{c:Bool}{v wt' sm v₁ wt₁ sm₁:Nat}{m m₁:M4}{q q₁:Nat}{f f₁:Nat->Value}
theorem Inv.go'(h:Inv P F B gs w t φ r bt S Sh j c v wt' sm m q f){i:Nat}{g g':Goroutine}{es:Array Event}{x:Nx}{ρ:Rk}{s':St}(hi:gs[i]? =some g)(O:stepG P (i==0) g w= .go g' w' es)
  (U:CH F B.N0 (gs.size+c.toNat) j c (CB c gs.size (upd φ i x)) v₁ wt₁ sm₁ false) (V:LI gs.size (upd φ i x) m₁ q₁)
  (Y:ES F B.N0 B.t0 gs.size j (upd φ i x) (upd S i s') (t++MemOp.ofEvents i g.frame.fn g.frame.place es))
  (Z:Gm P F (i==0) x ρ true g' (loc x s'))
  (hC:BS (t++MemOp.ofEvents i g.frame.fn g.frame.place es) w' gs.size (upd S i s') Sh)
  (aa:F.WG w' v₁ wt₁ sm₁) (ab:F.MU w' m₁ q₁) (ac:F.FD w' f₁)
  (ae:sm₁≠0->sm=0->mayWake P g=true/\g'.status= .running) (ag:q₁≠0->q=0->mayWake P g=true/\g'.status= .running)
  (ah:∀k,k<j->stored (upd φ i x (B.N0+k))->F.msg k (f₁ k) (upd S i s' (B.N0+k)).E)
  (ai:i=0->x≠ .ph .GC/\x≠ .ph .Hm) (aj:i=0->Le (S 0).E s'.E) (ak:w'.tape=w.tape) (al:F5 w.os w'.os) (am:w'.output=w.output)
  (hm:∀K,Mu.lt (mu F gs.size (upd φ i x) m₁ q₁ (upd r i ρ) K) (mu F gs.size φ m q r bt)):HV P F B gs w sl t i (mu F gs.size φ m q r bt):=by
 obtain⟨K,an⟩:=h.go hi U V Y Z hC aa ab ac ae ag ah ai aj ak al am;refine⟨_,_,_,_,runT_crowd_go hi O,.inl ⟨_,_,_,_,_,_,_,_,_,_,_,_,_,an,?_⟩⟩;have ao:((gs.map (woken P g g' w')).setIfInBounds i g').size=gs.size:=by simp
 rw [ao];exact hm K
theorem Qd{k:Nat}{p:Ph}(hw:Gz F k (.ph p))(K:late (.ph p)):Fam.CP p=true:=by
 cases p <;> simp only [Gz] at hw <;> (try exact hw.elim) <;> first | rfl | exact K.elim
theorem L8(a:Nat)(fn:FuncId)(pos:String):MemOp.ofEvents a fn pos #[]= #[]:=by rw [ofEvents_eq];simp
theorem Inv.own(h:Inv P F B gs w t φ r bt S Sh j c v wt' sm m q f)(ay:∀k v E E',Le E E'->F.msg k v E->F.msg k v E'){i:Nat}{g g':Goroutine}{es:Array Event}{p:Ph}{ρ:Rk}{s':St}(hi:gs[i]? =some g)(K:φ i= .ph p)(al:(i==0)=Fam.CF p)
  (am:stepG P (i==0) g w= .go g' w' es) (an:Jr P (i==0) (JQ (Stop P F p)) ρ g' s') (az:Fits s' w') (O:Fr (loc (.ph p) (S i)) w s' w') (V:∀e∈es,Ev (loc (.ph p) (S i)) w w' e) (aA:loc (.ph p) (S i)= .quiet->s'= .quiet/\w'=w/\es= #[]) (aB:Rk.sub ρ (r i)):
  HV P F B gs w sl t i (mu F gs.size φ m q r bt):=by
 have U:i<gs.size:=(Array.getElem?_eq_some_iff.1 hi).1;have Y:upd φ i (.ph p)=φ:=by rw [← K];exact Ml _ _
 have ao:∀ap,Mu.lt (mu F gs.size (upd φ i (.ph p)) m q (upd r i ρ) ap) (mu F gs.size φ m q r bt):=λap=>SV U (λ_=>by rw [K]) (by rw [K]) aB;cases Z:Fam.CP p with
 | true=>
  have aa:loc (.ph p) (S i)= .quiet:=by simp [loc,Hn,Z]
  obtain⟨rfl,rfl,rfl⟩:=aA aa;have ah:upd S i (S i)=S:=Ml _ _;refine h.go' hi am (x:= .ph p) (ρ:=ρ) (s':=S i) (by rw [Y];exact h.CG) (by rw [Y];exact h.lock) ?_ (by rw [aa];exact .walk al (λ_=>rfl) an) ?_ h.wg h.IY h.F6 (λa b=>absurd b a) (λa b=>absurd b a) (by rw [Y,ah];exact h.Ia) (λe=>by subst e;rw [← K];exact h.mn) (λe=>by subst e;exact .refl _) rfl (.refl _) rfl ao
  ·rw [Y,ah,L8];simpa using h.EG
  ·rw [ah,L8];simpa using h.Cc
 | false=>
  have aa:loc (.ph p) (S i)=S i:=by simp [loc,Hn,Z]
  rw [aa] at O V;have aC:loc (.ph p) s'=s':=by simp [loc,Hn,Z]
  have ai:∀b₀,Sh b₀->∀b wr,Gw (S i) w w' b wr->b≠b₀:=by
   intro b₀ ac b wr aD;have aq:=h.Cc.sh i U b₀ ac;have aK:=h.Cc.F0 b₀ ac;rintro rfl;rcases aD.2 with q | q | ⟨q,_⟩
   ·exact q aq.1
   ·omega
   ·exact q aq.2
  have aj:∀b₀,Sh b₀->w'.heap[b₀]? =w.heap[b₀]? :=λb₀ ac=>O.keep b₀ (h.Cc.F0 b₀ ac) (h.Cc.sh i U b₀ ac).1;have ar:∀k,k<j->i=B.N0+k->¬late (φ i):=by
   intro k ab e au;rcases h.Du U with aL | ⟨_,d,hd,_⟩ | ⟨k',_,_,_,hw⟩
   ·have:=h.CG.pos;omega
   ·rw [K] at hd;cases hd
   ·rw [K] at hw au;rw [Qd hw au] at Z;cases Z
  have aE:∀e∈es,e.loc≠ .mark .disable/\e.loc≠ .mark .enable:=by
   intro e he;have:=V e he;refine⟨λag=>?_,λag=>?_⟩ <;> unfold Ev at this <;> rw [ag] at this <;> exact this
  refine h.go' (f₁:=f) hi am (x:= .ph p) (ρ:=ρ) (s':=s') (by rw [Y];exact h.CG) (by rw [Y];exact h.lock) ?_ (by rw [aC];exact .walk al (λe=>by rw [Z] at e;cases e) an) (h.Cc.own U az O V) ?_ ?_ ?_ (λa b=>absurd b a) (λa b=>absurd b a) ?_ (λe=>by subst e;rw [← K];exact h.mn) (λe=>by subst e;exact λb o ak=>O.ext b o ak) O.tape (.of O.os) O.output ao
  ·refine h.EG.app U (by rw [K];exact deafBehind_still aE _) (λe he=>⟨λa b ae hb aF=>absurd aF ?_,λa ae hb=>absurd rfl (ai F.fd h.Iy F.fd a.write (Kz (V e he) ae hb)),?_⟩) ?_ (λk ab aG e he a b ae hb hw=>?_) (λk ab e aa=>absurd (K▸aa) (ar k ab e))
   ·have:=Kz (V e he) ae hb;rintro(q | q)
    ·exact ai F.wg h.HC b _ this q
    ·exact ai F.mu h.H9 b _ this q
   ·intro ag;have:=V e he;unfold Ev at this;rw [ag] at this;exact this
   ·rcases h.Du U with e | ⟨_,d,hd,_⟩ | ⟨k,_,e,_,_⟩
    ·exact .inl (.inl e)
    ·rw [K] at hd;cases hd
    ·exact .inl (.inr (by omega))
   ·have aH:=Kz (V e he) ae hb;have aI:B.N0+k≠i:=λe=>ar k ab e.symm (e▸aG);have av:B.N0+k<gs.size:=by have:=h.size;omega
    rcases aH.2 with y | y | ⟨_,y⟩
    ·exact(h.Cc.hh i (B.N0+k) U av (Ne.symm aI) b y).2
    ·cases aJ:(S (B.N0+k)).E b with
     | none=>rfl
     | some o=>have:=(h.Cc.fits _ av).e b o aJ;simp [Array.getElem?_eq_none y] at this
    ·rw [y] at hw;cases hw
  ·show w'.heap[F.wg]? =_;rw [aj _ h.HC];exact h.wg
  ·show w'.heap[F.mu]? =_;rw [aj _ h.H9];exact h.IY
  ·show w'.heap[F.fd]? =_;rw [aj _ h.Iy];exact h.F6
  ·intro k ab aw;rw [Y] at aw;have:=h.Ia k ab aw;by_cases e:B.N0+k=i
   ·rw [e,upd_same];rw [e] at this;exact ay _ _ _ _ (λb o ak=>O.ext b o ak) this
   ·rw [upd_ne _ _ e];exact this
theorem Inv.slip(h:Inv P F B gs w t φ r bt S Sh j c v wt' sm m q f){i:Nat}{g:Goroutine}(hi:gs[i]? =some g)(Y:g.status= .running){d U:Nat}(O:φ i= .gone d)(ak:r i=chain U)(aa:(i==0)=false)(ae:QuitsD P U d g):
  HV P F B gs w sl t i (mu F gs.size φ m q r bt):=by
 have ab:i<gs.size:=(Array.getElem?_eq_some_iff.1 hi).1;have Z:i≠0:=by simpa using aa
 cases U with
 | zero=>rw [ae.1] at Y;cases Y
 | succ U=>
  rcases ae with⟨al,_⟩ | ⟨_,g',es,hm,am,an⟩
  ·rw [al] at Y;cases Y
  have ao:∀op∈MemOp.ofEvents i g.frame.fn g.frame.place es,op.act.touch? =none:=λop V=>by obtain⟨e,he,rfl⟩:=mem_ofEvents V;exact touch_mute (hm e he)
  have ap:∀e∈es,e.loc≠ .mark (.release F.sA):=by
   intro e he ag;have:=hm e he;obtain⟨loc,wr,au⟩:=e;simp only at ag;subst ag;simp [Event.mute] at this
  have ah:upd S i (S i)=S:=Ml _ _;have ai:=h.CG.leave (i:=i) (d:=d) (d':=deafBehind d es) (by omega) (by rw [Ir Z (by omega)];exact O);rw [Mw Z (by omega)] at ai;refine h.go' hi (by rw [aa];exact am w) (x:= .gone (deafBehind d es)) (ρ:=chain U) (s':=S i) ai (h.lock.other ab (λk p e=>by rw [O] at e;cases e) (λk p e=>by cases e)) ?_ (.gone aa an) ?_ h.wg h.IY h.F6 (λa b=>absurd b a) (λa b=>absurd b a) ?_ (λe=>absurd e Z) (λe=>absurd e Z) rfl (.refl _) rfl λav=>SV ab (λ_=>by rw [O];rfl) (by rw [O];rfl) (by rw [ak];exact U6 U w)
  ·refine h.EG.app ab (by rw [O];rfl) (λe he=>⟨λa b K=>(by rw [touch_mute (hm e he)] at K;cases K),λa K=>(by rw [touch_mute (hm e he)] at K;cases K),ap e he⟩) (.inr λe he=>touch_mute (hm e he)) (λk ac aq e he a b K=>(by rw [touch_mute (hm e he)] at K;cases K)) (λk ac e aq=> .inl ⟨by rw [O];trivial,rfl,λρ ar=>?_⟩);exact ar.appOwn _ _ es λm e he=> .inl (touch_mute (hm e (Array.mem_of_getElem? he)))
  ·rw [ah];exact h.Cc.mute (g:=i) (λop V=>by obtain⟨e,_,rfl⟩:=mem_ofEvents V;rfl) ao (λop V=>by obtain⟨e,he,rfl⟩:=mem_ofEvents V;exact low_mute (hm e he) _) rfl
  ·rw [ah];intro k ac aj;refine h.Ia k ac ?_;by_cases e:B.N0+k=i
   ·rw [e,O];trivial
   ·rw [upd_ne _ _ e] at aj;exact aj
theorem Yb{p:Ph}{es:Array Event}{K:Nx}(O:F.act p v wt' sm=some ((v₁,wt₁,sm₁),es,K)):
  (∀q,K= .ph q->Fam.CF q=Fam.CF p/\(Fam.CP q=true->p= .Gi∨Fam.CP p=true)/\(Fam.CP q=false->Fam.CP p=false/\p≠ .Gi)/\∀k l,q≠ .lk k l)/\(sm₁≠0->sm=0->p= .Fb)/\(∀d,K= .gone d->Fam.CF p=false/\Fam.CP p=true)/\
  (∀k l,p≠ .lk k l)/\(Fam.CF p=false->stored K)/\(Fam.CF p=false->late K->late (.ph p)∨p= .Gi)/\(Fam.CF p=false->stored (.ph p))/\K≠ .ph .GC/\K≠ .ph .Hm:=by
 cases p <;> simp only [Fam.act] at O <;> (try (cases O;done))
 all_goals (try (split at O)) <;> (try (cases O;done)) <;> (try (split at O))
 all_goals cases O
 all_goals first
  | (simp [Fam.CF,Fam.CP,stored,late];done)
  | (split <;> simp [Fam.CF,Fam.CP,stored,late];done)
  | (simp [Fam.CF,Fam.CP,stored,late];omega)
theorem CH.enabled{N0 N:Nat}{cl:Bool}(h:CH F N0 N j c φ v wt' sm cl){i:Nat}(hi:i<N){p:Ph}(K:φ i= .ph p)(ak:∀k,p≠ .GY k)(al:∀k,p≠ .FE k)(am:p≠ .GC)(an:∀ao vs,p≠ .Fz ao vs)(ap:p≠ .Hm)(aq:p= .Fl->sm=1)(ar:p≠ .FZ)(au:∀k l,p≠ .lk k l):
  ∃v' w' sm' es av,F.act p v wt' sm=some ((v',w',sm'),es,av):=by
 have hm:=h.mode;have aA:=h.Px;have aB:=h.Hy;have O:=h.cnt;have Z:cU (φ i)<=sumTo N λa=>cU (φ a):=le_sumTo (f:=λa=>cU (φ a)) hi;have aa:cL (φ i)<=sumTo N λa=>cL (φ a):=le_sumTo (f:=λa=>cL (φ a)) hi;have ag:cS (φ i)<=sumTo N λa=>cS (φ a):=le_sumTo (f:=λa=>cS (φ a)) hi;rw [K] at Z aa ag;have aw:wt'<=1:=by
  generalize (if c=true then φ (N0+F.n) else Nx.ph .Dl)=y at hm
  cases y with
  | gone d=>simp only [Dx] at hm;omega
  | ph q=>cases q <;> simp only [Dx] at hm <;> (try exact hm.elim) <;> omega
 have ab:1<=(sumTo N λa=>cL (φ a))+(sumTo N λa=>cS (φ a))->v=0/\sm=0/\wt'=sumTo N λa=>cL (φ a):=by
  intro hh;generalize (if c=true then φ (N0+F.n) else Nx.ph .Dl)=y at hm
  cases y with
  | gone d=>simp only [Dx] at hm;omega
  | ph q=>cases q <;> simp only [Dx] at hm <;> (try exact hm.elim) <;> omega
 have ac:∀x,φ i= .ph x->IW (.ph x)->c=true/\(if c=true then φ (N0+F.n) else Nx.ph .Dl)= .ph x:=by
  intro x V ah;rcases h.Du hi with rfl | ⟨a,b⟩ | ⟨k,ae,rfl⟩ | ⟨O,rfl⟩
  ·obtain⟨q,U,Y⟩:=h.main;rw [V] at U;cases U;cases x <;> simp [Ho] at Y <;> exact ah.elim
  ·have:=h.old i a b;rw [V] at this;exact this.elim
  ·have:=h.work k ae;rw [V] at this;cases x <;> simp [Gz] at this <;> exact ah.elim
  ·exact⟨O,by rw [if_pos O];exact V⟩
 cases p <;> simp only [Fam.act]
 ·exact absurd rfl (ak _)
 ·exact⟨_,_,_,_,_,rfl⟩
 ·exact⟨_,_,_,_,_,rfl⟩
 ·simp only [cU] at Z;have:1<=v:=by
   have aC:1<=sumTo N λa=>cU (φ a):=Z;omega
  rw [if_pos ⟨this,by omega,aw⟩];exact⟨_,_,_,_,_,rfl⟩
 ·have ay:1<=sumTo N λa=>cL (φ a):=aa;have:=ab (by omega);rw [if_pos ⟨this.1,by omega⟩];exact⟨_,_,_,_,_,rfl⟩
 ·have ay:1<=sumTo N λa=>cL (φ a):=aa;have:=ab (by omega);rw [if_pos ⟨this.1,by omega⟩];exact⟨_,_,_,_,_,rfl⟩
 ·have aD:1<=sumTo N λa=>cS (φ a):=ag;have:=ab (by omega);rw [if_pos this.2.1];exact⟨_,_,_,_,_,rfl⟩
 ·exact⟨_,_,_,_,_,rfl⟩
 ·obtain⟨ai,e⟩:=ac _ K trivial;rw [e] at hm;rw [if_pos ⟨hm.2.2.2.2.2,hm.2.2.2.1⟩];exact⟨_,_,_,_,_,rfl⟩
 ·obtain⟨ai,e⟩:=ac _ K trivial;rw [e] at hm;rw [if_pos ⟨hm.2.2.2.2.2.1,hm.2.2.2.2.2.2,hm.2.2.2.1⟩];split <;> exact⟨_,_,_,_,_,rfl⟩
 ·exact⟨_,_,_,_,_,rfl⟩
 ·rw [if_pos (aq rfl)];exact⟨_,_,_,_,_,rfl⟩
 ·obtain⟨ai,e⟩:=ac _ K trivial;rw [e] at hm;rw [if_pos ⟨hm.2.2.2.2.1,hm.2.2.2.1⟩];exact⟨_,_,_,_,_,rfl⟩
 ·exact⟨_,_,_,_,_,rfl⟩
 ·exact absurd rfl ar
 ·exact absurd rfl ap
 ·exact⟨_,_,_,_,_,rfl⟩
 ·have az:c=false/\v<=j/\j<F.n:=by
   rcases h.Du hi with rfl | ⟨a,b⟩ | ⟨k,ae,rfl⟩ | ⟨O,rfl⟩
   ·obtain⟨q,U,Y⟩:=h.main;rw [K] at U;cases U;have aj:=h.JD;rw [K] at aj;exact⟨Y.2.2,by simpa [pend] using aj,Y.2.1⟩
   ·have:=h.old i a b;rw [K] at this;exact this.elim
   ·have:=h.work k ae;rw [K] at this;exact this.elim
   ·have:=h.cls O;rw [K] at this;exact this.elim
  rw [az.1] at hm;simp only [Bool.false_eq_true,if_false,Dx] at hm;rw [if_pos ⟨by omega,hm.2.2.2.1⟩];exact⟨_,_,_,_,_,rfl⟩
 ·exact⟨_,_,_,_,_,rfl⟩
 ·exact⟨_,_,_,_,_,rfl⟩
 ·exact absurd rfl (al _)
 ·exact absurd rfl am
 ·exact absurd rfl (an _ _)
 all_goals first | exact⟨_,_,_,_,_,rfl⟩ | exact absurd rfl (au _ _)
end
end Pal
namespace Pal
open Go Go.Conc
open Go.ConcN (upd upd_same upd_ne sumTo sumTo_upd sumTo_upd_out sumTo_congr le_sumTo sumTo_le fork_knows RelBy)
section
variable {P:Program}{F:Fam}{B:Base}{gs:Array Goroutine}{w w':World}{sl:Option (Nat×Nat)}{t:Trace}{φ:Nat->Nx}{r:Nat->Rk}{bt:Nat->Bool}{S:Nat->St}{Sh:Nat->Prop}{j:Nat}{c:Bool}{v wt' sm v₁ wt₁ sm₁:Nat}{m m₁:M4}{q q₁:Nat}{f f₁:Nat->Value}
theorem VD(w:World)(v wt sm:Nat):(F.put w v wt sm).heap.size=w.heap.size:=by simp [Fam.put]
theorem OX(w:World)(v wt sm:Nat){b:Nat}(h:b≠F.wg):(F.put w v wt sm).heap[b]? =w.heap[b]? :=by simp [Fam.put,Array.getElem?_setIfInBounds_ne (Ne.symm h)]
theorem W9(w:World)(v wt sm:Nat)(h:F.wg<w.heap.size):F.WG (F.put w v wt sm) v wt sm:=by simp [Fam.WG,Fam.put,h]
theorem U2(w:World)(m:M4)(q:Nat):(F.FA w m q).heap.size=w.heap.size:=by simp [Fam.FA]
theorem Ov(w:World)(m:M4)(q:Nat){b:Nat}(h:b≠F.mu):(F.FA w m q).heap[b]? =w.heap[b]? :=by simp [Fam.FA,Array.getElem?_setIfInBounds_ne (Ne.symm h)]
theorem Wa(w:World)(m:M4)(q:Nat)(h:F.mu<w.heap.size):F.MU (F.FA w m q) m q:=by simp [Fam.MU,Fam.FA,h]
theorem Uv(w:World)(f:Nat->Value):(F.G4 w f).heap.size=w.heap.size:=by simp [Fam.G4]
theorem OC(w:World)(f:Nat->Value){b:Nat}(h:b≠F.fd):(F.G4 w f).heap[b]? =w.heap[b]? :=by simp [Fam.G4,Array.getElem?_setIfInBounds_ne (Ne.symm h)]
theorem We(w:World)(f:Nat->Value)(h:F.fd<w.heap.size):F.FD (F.G4 w f) f:=by simp [Fam.FD,Fam.G4,h]
theorem Xa{p:Ph}{s:St}(h:p≠ .Gi):Fam.IZ p s=s:=by cases p <;> first | rfl | exact absurd rfl h
theorem BS.heap{t:Trace}{w w':World}{N:Nat}{S:Nat->St}{Sh:Nat->Prop}(h:BS t w N S Sh)(hw:w'.heap=w.heap):BS t w' N S Sh:=by
 have:=h.mute (u:= #[]) (w':=w') (g:=0) (by simp) (by simp) (by simp) hw;simpa using this
theorem Inv.act(h:Inv P F B gs w t φ r bt S Sh j c v wt' sm m q f)(aH:∀k v E E',Le E E'->F.msg k v E->F.msg k v E'){i:Nat}{g:Goroutine}(hi:gs[i]? =some g){p:Ph}(K:φ i= .ph p)(Z:(i==0)=Fam.CF p){s₀:St}(aI:Cl (loc (.ph p) (S i)) s₀)(ag:Stop P F p g s₀)
  {es:Array Event} {Y:Nx} (O:F.act p v wt' sm=some ((v₁,wt₁,sm₁),es,Y)):HV P F B gs w sl t i (mu F gs.size φ m q r bt):=by
 have U:i<gs.size:=(Array.getElem?_eq_some_iff.1 hi).1;obtain⟨g',aJ,aK,ao⟩:=ag.law.act _ _ _ _ _ _ _ _ O;obtain⟨n1,aL,aM,aN,bb,aO,aP,aQ⟩:=Yb O;obtain⟨ac,e2,aR⟩:=XI p O;have ap:=h.Cc.F0 F.wg h.HC;have bd:=h.size;have be:=h.CG.pos;have aq:i≠0->Fam.CF p=false:=λe=>by rw [← Z];simp [e]
 have ar:(p= .HB∨∃j,p= .Hu j)->i=0:=by
  intro V;have:Fam.CF p=true:=by rcases V with rfl | ⟨j,rfl⟩ <;> rfl
  rw [this] at Z;simpa using Z
 have au:i=0∨B.N0<=i:=by
  rcases h.Du U with e | ⟨_,d,hd,_⟩ | ⟨k,_,e,_,_⟩
  ·exact .inl e
  ·rw [K] at hd;cases hd
  ·exact .inr (by omega)
 let s':St:=if Fam.CP p=true then S i else s₀
 have ah:Fam.CP p=true->s'=S i:=λe=>by simp [s',e]
 have aa:Fam.CP p=false->s'=s₀:=λe=>by simp [s',e]
 have av:Fam.CP p=false->Cl (S i) s₀:=λe=>by simpa [loc,Hn,e] using aI
 have hle:Le (S i).E s'.E:=by
  cases e:Fam.CP p with
  | true=>rw [ah e];exact .refl _
  | false=>rw [aa e];exact λb o ai=>(av e).ext b o ai
 have aw:BS t w gs.size (upd S i s') Sh:=by
  cases e:Fam.CP p with
  | true=>rw [ah e,Ml];exact h.Cc
  | false=>rw [aa e];exact h.Cc.ghost U (av e)
 have aS:BS (t++MemOp.ofEvents i g.frame.fn g.frame.place es) (F.put w v₁ wt₁ sm₁) gs.size (upd S i s') Sh:=by
  refine aw.ext (h.EG.noRace h.Cc.clean U au λe he=>(ac e he).toS ar) (λop aj a ak b hb=>?_) (λop aj=>?_) (VD ..) (λb hb=>OX _ _ _ _ λe=>hb (e▸h.HC))
  ·obtain⟨e,he,rfl⟩:=mem_ofEvents aj;obtain⟨⟨b',ab,al⟩,_⟩:=(ac e he).1 a ak;rw [hb] at ab;cases ab;rcases al with rfl | rfl
   ·exact h.HC
   ·exact h.H9
  ·obtain⟨e,he,rfl⟩:=mem_ofEvents aj;exact aR e he _ ap
 have aT:stepG P (i==0) g w= .go g' (F.put w v₁ wt₁ sm₁) es:=by rw [Z];exact aJ w h.wg
 have aU:CH F B.N0 (gs.size+c.toNat) j c (CB c gs.size (upd φ i Y)) v₁ wt₁ sm₁ false:=by
  by_cases e:i=0
  ·subst e;cases c with
   | false=>
    have:=h.CG.act (i:=0) (by omega) (by rw [IT];exact K) O;rw [IT] at this;rw [IT];exact this
   | true=>
    have:=h.CG.act (i:=gs.size) (by simp) (by rw [Jk];exact K) O
    rwa [U8 (by omega)] at this
  ·have:=h.CG.act (i:=i) (by omega) (by rw [Ir e (by omega)];exact K) O
   rwa [Mw e (by omega)] at this
 have aV:ES F B.N0 B.t0 gs.size j (upd φ i Y) (upd S i s') (t++MemOp.ofEvents i g.frame.fn g.frame.place es):=by
  refine h.EG.app U (by rw [K];exact e2) (λe he=>(ac e he).keep ar h.Jz h.Jx) (.inl au) (λk ae ay e he a b ak hb hw=>?_) (λk ae e ay=>?_)
  ·obtain⟨⟨b',ab,al⟩,_⟩:=(ac e he).1 a ak;rw [hb] at ab;cases ab;have az:B.N0+k<gs.size:=by omega
   rcases al with rfl | rfl
   ·exact(h.Cc.sh _ az _ h.HC).2
   ·exact(h.Cc.sh _ az _ h.H9).2
  ·have aA:i≠0:=by omega
   have aB:Gz F k (.ph p):=by
    rcases h.Du U with aW | ⟨_,d,hd,_⟩ | ⟨k',_,bf,_,hw⟩
    ·exact absurd aW aA
    ·rw [K] at hd;cases hd
    ·obtain rfl:k'=k:=by omega
     rwa [K] at hw
   rcases aO (aq aA) ay with am | rfl
   ·refine .inl ⟨by rw [K];exact am,by rw [ah (Qd aB am)],λρ an=>?_⟩;refine an.appOwn _ _ es λm e he=>?_;rw [h.EG.deaf _ U,K];exact VA p O aB am m e he
   ·refine .inr ⟨t.size,h.EG.LC,?_,?_⟩
    ·simp only [Fam.act] at O;cases O;exact .new (by rw [h.EG.deaf _ U,K];rfl) _ _
    ·simp only [Fam.act] at O;cases O;rw [aa rfl];intro b hb x a aC aX hw;have aY:MemOp.ofEvents i g.frame.fn g.frame.place #[Fam.CI (.releaseMerge F.sA)]= #[{g:=i,fn:=g.frame.fn,pos:=g.frame.place,act:= .mark (.releaseMerge F.sA)}]:=by rw [ofEvents_eq];simp [Fam.CI,MemAct.ofEvent]
     rw [aY] at aC ⊢;obtain⟨op,ai,aD⟩:=touch_of aC;rcases getElem?_append_cases ai with⟨_,aZ⟩ | ⟨_,aE⟩
     ·have a0:=aw.kE i U b (by rw [upd_same,aa rfl];exact hb) x a (by rw [touchAt_of aZ];exact aD) aX hw;have a2:(t++ #[({g:=i,fn:=g.frame.fn,pos:=g.frame.place,act:= .mark (.releaseMerge F.sA)}:MemOp)])[t.size]? =some {g:=i,fn:=g.frame.fn,pos:=g.frame.place,act:= .mark (.releaseMerge F.sA)}:=by simp
      exact .inr (a0.hb_new (Nat.le_refl _) a2 rfl)
     ·simp at aE;subst aE;cases aD
 have a3:∀k,k<j->stored (upd φ i Y (B.N0+k))->F.msg k (f k) (upd S i s' (B.N0+k)).E:=by
  intro k ae aF;by_cases e:B.N0+k=i
  ·rw [e,upd_same];have:=h.Ia k ae (by rw [e,K];exact aP (aq (by omega)));rw [e] at this;exact aH _ _ _ _ hle this
  ·rw [upd_ne _ _ e] at aF ⊢;exact h.Ia k ae aF
 have a4:LI gs.size (upd φ i Y) m q:=h.lock.other U (λk l e=>aN k l (by rw [K] at e;exact Nx.ph.inj e)) (λk l e=>by subst e;exact(n1 _ rfl).2.2.2 k l rfl);have a5:∀q,Y= .ph q->loc (.ph q) s'=Fam.IZ p s₀:=by
  intro q e;obtain⟨_,aG,a6,_⟩:=n1 q e;cases V:Fam.CP q with
  | true=>
   have:loc (.ph q) s'= .quiet:=by simp [loc,Hn,V]
   rw [this];rcases aG V with rfl | e
   ·rfl
   ·rw [ag.law.quiet e];cases p <;> rfl
  | false=>
   obtain⟨a1,a7⟩:=a6 V;rw [Xa a7,aa a1];simp [loc,Hn,V]
 have fin:∀(ρ:Rk),Gm P F (i==0) Y ρ true g' (loc Y s')->HV P F B gs w sl t i (mu F gs.size φ m q r bt):=λρ a8=>
  h.go' (f₁:=f) hi aT aU a4 aV a8 aS (W9 _ _ _ _ ap) (by show(F.put w v₁ wt₁ sm₁).heap[F.mu]? =_;rw [OX _ _ _ _ h.LJ];exact h.IY) (by show(F.put w v₁ wt₁ sm₁).heap[F.fd]? =_;rw [OX _ _ _ _ h.Jz];exact h.F6)
   (λa b=>⟨ag.law.Iv (.inl (aL a b)),aK⟩) (λa b=>absurd b a) a3 (λ_=>aQ) (λe=>by subst e;exact hle) rfl (.refl _) rfl λbg=>SM U (by rw [K];exact W5 O)
 cases Y with
 | ph q=>
  obtain⟨ρ,an⟩:=ao;refine fin ρ ?_;obtain⟨a9,aG,_,_⟩:=n1 q rfl;refine .walk (by rw [Z,a9]) (λV=>by simp [loc,Hn,V]) ?_;rw [a5 q rfl,Z];exact an
 | gone d=>
  obtain⟨ba,V⟩:=ao;exact fin (chain ba) (.gone (by rw [Z];exact(aM d rfl).1) V)
theorem XD{l:LP}{m m':M4}{q q':Nat}{es:Array Event}{o:Option LP}(K:(m',q',es,o)∈F.BW l m q):q'<=q∨∃b,l= .ET b:=by
 cases l <;> simp only [Fam.BW,List.mem_singleton,Prod.mk.injEq,List.not_mem_nil] at K
 case ET b=>exact .inr ⟨b,rfl⟩
 case GZ=>split at K <;> simp only [List.mem_singleton,Prod.mk.injEq] at K <;> exact .inl (by omega)
 case Cn sv aw it old=>
  simp only [Fam.Fo,List.mem_append] at K;left;rcases K with K | K
  ·split at K
   ·split at K
    ·simp only [List.mem_singleton] at K;split at K <;> simp only [Prod.mk.injEq] at K <;> omega
    ·simp only [List.mem_singleton,Prod.mk.injEq] at K;omega
   ·simp at K
  ·split at K
   ·split at K
    ·simp only [List.mem_singleton,Prod.mk.injEq] at K;omega
    ·simp only [List.mem_cons,List.not_mem_nil,or_false,Prod.mk.injEq] at K;rcases K with K | K <;> omega
   ·simp only [List.mem_singleton,Prod.mk.injEq] at K;omega
 case FP=>
  simp only [List.mem_cons,List.not_mem_nil,or_false,Prod.mk.injEq] at K;left;rcases K with K | K <;> omega
 case Eu sv=>split at K <;> simp only [List.mem_singleton,Prod.mk.injEq] at K <;> exact .inl (by omega)
 case EF old=>split at K <;> simp only [List.mem_singleton,Prod.mk.injEq] at K <;> exact .inl (by omega)
 all_goals exact .inl (by omega)
theorem Va{l:LP}{m m':M4}{q q':Nat}{es:Array Event}{o:Option LP}(K:(m',q',es,o)∈F.BW l m q):(∀p,o=some p->Gl p->Gl l)/\(o=none->Gl l):=by
 cases l <;> simp only [Fam.BW,List.mem_singleton,Prod.mk.injEq,List.not_mem_nil] at K
 case GZ=>split at K <;> simp only [List.mem_singleton,Prod.mk.injEq] at K <;> obtain⟨-,-,-,rfl⟩:=K <;> simp [Gl]
 case Cn sv aw it old=>
  simp only [Fam.Fo,List.mem_append] at K;rcases K with K | K
  ·split at K
   ·split at K
    ·simp only [List.mem_singleton] at K;split at K <;> simp only [Prod.mk.injEq] at K <;> obtain⟨-,-,-,rfl⟩:=K <;> simp [Gl]
    ·simp only [List.mem_singleton,Prod.mk.injEq] at K;obtain⟨-,-,-,rfl⟩:=K;simp [Gl]
   ·simp at K
  ·split at K
   ·split at K
    ·simp only [List.mem_singleton,Prod.mk.injEq] at K;obtain⟨-,-,-,rfl⟩:=K;simp [Gl]
    ·simp only [List.mem_cons,List.not_mem_nil,or_false,Prod.mk.injEq] at K;rcases K with⟨-,-,-,rfl⟩ | ⟨-,-,-,rfl⟩ <;> simp [Gl]
   ·simp only [List.mem_singleton,Prod.mk.injEq] at K;obtain⟨-,-,-,rfl⟩:=K;simp [Gl]
 case FP=>
  simp only [List.mem_cons,List.not_mem_nil,or_false,Prod.mk.injEq] at K;rcases K with⟨-,-,-,rfl⟩ | ⟨-,-,-,rfl⟩ <;> simp [Gl]
 case Cz sv=>obtain⟨-,-,-,rfl⟩:=K;cases sv <;> simp [Gl]
 case Eu sv=>split at K <;> simp only [List.mem_singleton,Prod.mk.injEq] at K <;> obtain⟨-,-,-,rfl⟩:=K <;> simp [Gl]
 all_goals first
  | (obtain⟨-,-,-,rfl⟩:=K;simp [Gl];done)
  | (exact⟨λ_ _ _=>trivial,λ_=>trivial⟩)
theorem Inv.BW(h:Inv P F B gs w t φ r bt S Sh j c v wt' sm m q f)(az:∀k v E E',Le E E'->F.msg k v E->F.msg k v E'){i:Nat}{g:Goroutine}(hi:gs[i]? =some g){k:Nat}{l:LP}(K:φ i= .ph (.lk k l))(aA:l≠ .Fs)(aa:(i==0)=false){s₀:St}(am:Cl (S i) s₀)(an:Stop P F (.lk k l) g s₀)
  (aB:∀sv,l= .Cz sv->q≠0):HV P F B gs w sl t i (mu F gs.size φ m q r bt):=by
 have O:i<gs.size:=(Array.getElem?_eq_some_iff.1 hi).1;have ai:=h.lock.ok O K h.small aB;obtain⟨m',q',es,o,g',ab,U,aC,V,aD,aE⟩:=an.law.lk k l rfl aA w m q h.IY ai;obtain⟨ac,e2,aF⟩:=Wn U;have ao:=h.Cc.F0 F.mu h.H9;have aY:=h.size;have aZ:=h.CG.pos;have Y:i≠0:=by simpa using aa
 obtain⟨k',aG,ap,_,aq⟩:∃k',k'<j/\i=B.N0+k'/\i≠0/\Gz F k' (φ i):=by
  rcases h.Du O with e | ⟨_,d,hd,_⟩ | e
  ·exact absurd e Y
  ·rw [K] at hd;cases hd
  ·exact e
 rw [K] at aq;obtain rfl:k=k':=aq;have aH:BS t w gs.size (upd S i s₀) Sh:=h.Cc.ghost O am;have aI:BS (t++MemOp.ofEvents i g.frame.fn g.frame.place es) ab gs.size (upd S i s₀) Sh:=by
  have:BS (t++MemOp.ofEvents i g.frame.fn g.frame.place es) (F.FA w m' q') gs.size (upd S i s₀) Sh:=by
   refine aH.ext (h.EG.noRace h.Cc.clean O (.inr (by omega)) λe he=>(ac e he).toS (λx=>x.elim)) (λop aj a ak b hb=>?_) (λop aj=>?_) (U2 ..) (λb hb=>Ov _ _ _ λe=>hb (e▸h.H9))
   ·obtain⟨e,he,rfl⟩:=mem_ofEvents aj;obtain⟨⟨b',Z,al⟩,_⟩:=(ac e he).1 a ak;rw [hb] at Z;cases Z;rcases al with rfl | rfl
    ·exact h.HC
    ·exact h.H9
   ·obtain⟨e,he,rfl⟩:=mem_ofEvents aj;exact aF e he _ ao
  exact this.heap V.1
 have aJ:cU (.ph (Fam.C9 k o))=1/\cL (.ph (Fam.C9 k o))=0/\cS (.ph (Fam.C9 k o))=0/\Gz F k (.ph (Fam.C9 k o))/\(∀a,Nx.ph (Fam.C9 k o)≠ .ph (.GY a))/\Fam.CF (Fam.C9 k o)=false/\Fam.CP (Fam.C9 k o)=false/\¬late (.ph (Fam.C9 k o)):=by
  cases o with
  | none=>exact⟨rfl,rfl,rfl,trivial,by simp [Fam.C9],rfl,rfl,λx=>x⟩
  | some p=>exact⟨rfl,rfl,rfl,rfl,by simp [Fam.C9],rfl,rfl,λx=>x⟩
 obtain⟨aK,x2,aL,aM,aN,aO,ar,aP⟩:=aJ;have aQ:CH F B.N0 (gs.size+c.toNat) j c (CB c gs.size (upd φ i (.ph (Fam.C9 k o)))) v wt' sm false:=by
  have ae:CB c gs.size φ (B.N0+k)= .ph (.lk k l):=by rw [← ap,Ir Y (by omega)];exact K
  have:=h.CG.H4 (v':=v) (wt':=wt') (sm':=sm) (cl':=false) aG (x:= .ph (Fam.C9 k o)) aM (λa=>by rw [ae];simp) aN (by rw [ae,aK];rfl) λL S' au av=>by
   rw [ae,x2] at au;rw [ae,aL] at av;have aR:L=_:=au;have aS:S'=_:=av;rw [aR,aS];exact h.CG.mode
  rwa [← ap,Mw Y (by omega)] at this
 have aT:ES F B.N0 B.t0 gs.size j (upd φ i (.ph (Fam.C9 k o))) (upd S i s₀) (t++MemOp.ofEvents i g.frame.fn g.frame.place es):=by
  refine h.EG.app O (by rw [K];rw [show FC (.ph (.lk k l))=dl l from rfl,e2];cases o <;> rfl) (λe he=>(ac e he).keep (λx=>x.elim) h.Jz h.Jx) (.inl (.inr (by omega))) (λk' ag aw e he a b ak hb hw=>?_) (λk' ag e aw=>absurd aw aP);obtain⟨⟨b',Z,al⟩,_⟩:=(ac e he).1 a ak;rw [hb] at Z;cases Z;have ay:B.N0+k'<gs.size:=by omega
  rcases al with rfl | rfl
  ·exact(h.Cc.sh _ ay _ h.HC).2
  ·exact(h.Cc.sh _ ay _ h.H9).2
 obtain⟨ρ,aU⟩:=aE;have aV:loc (.ph (Fam.C9 k o)) s₀=s₀:=by simp [loc,Hn,ar]
 refine h.go' (f₁:=f) hi (by rw [aa];exact aC) aQ (h.lock.step O K h.small ai U) aT (ρ:=ρ) (by rw [aV];exact .walk (by rw [aa,aO]) (λe=>by rw [ar] at e;cases e) (by rw [aa];exact aU)) aI ?_ ?_ ?_ (λa b=>absurd b a) (λa b=>?_) (λk' ag ah=>?_) (λe=>absurd e Y) (λe=>absurd e Y) (V.2.1) V.2.2.1 V.2.2.2 λa0=>YK O K U ai
 ·show ab.heap[F.wg]? =_;rw [V.1,Ov _ _ _ (Ne.symm h.LJ)];exact h.wg
 ·show ab.heap[F.mu]? =_;rw [V.1];exact Wa _ _ _ ao
 ·show ab.heap[F.fd]? =_;rw [V.1,Ov _ _ _ h.Jx];exact h.F6
 ·rcases XD U with e | ⟨aW,rfl⟩
  ·omega
  ·exact⟨an.law.Iv (.inr ⟨k,aW,rfl⟩),aD⟩
 ·by_cases e:B.N0+k'=i
  ·rw [e,upd_same] at ah ⊢;obtain rfl:k'=k:=by omega
   have aX:Gl l:=by
    obtain⟨a,b⟩:=Va U;cases o with
    | none=>exact b rfl
    | some p=>exact a p rfl ah
   have:=h.Ia k' ag (by rw [e,K];exact aX);rw [e] at this;exact az _ _ _ _ (λb o U=>am.ext b o U) this
  ·rw [upd_ne _ _ e] at ah ⊢;exact h.Ia k' ag ah
end
end Pal
namespace Pal
open Go Go.Conc
open Go.ConcN (upd upd_same upd_ne sumTo sumTo_upd sumTo_upd_out sumTo_congr le_sumTo sumTo_le fork_knows RelBy)
section
variable {P:Program}{F:Fam}{B:Base}{gs gs':Array Goroutine}{w w':World}{sl:Option (Nat×Nat)}{t:Trace}{φ:Nat->Nx}{r:Nat->Rk}{bt:Nat->Bool}{S:Nat->St}{Sh:Nat->Prop}{j:Nat}{c:Bool}{v wt' sm v₁ wt₁ sm₁:Nat}{m m₁:M4}{q q₁:Nat}{f f₁:Nat->Value}
theorem Inv.store(h:Inv P F B gs w t φ r bt S Sh j c v wt' sm m q f){i:Nat}{g:Goroutine}(hi:gs[i]? =some g){k:Nat}(O:φ i= .ph (.lk k .Fs))(aa:(i==0)=false){s₀:St}(ap:Cl (S i) s₀)(aq:Stop P F (.lk k .Fs) g s₀):
  HV P F B gs w sl t i (mu F gs.size φ m q r bt):=by
 have U:i<gs.size:=(Array.getElem?_eq_some_iff.1 hi).1;obtain⟨v0,ar,g',aI,au,av⟩:=aq.law.store k rfl;have ai:=h.Cc.F0 F.fd h.Iy;have aJ:=h.size;have aK:=h.CG.pos;have V:i≠0:=by simpa using aa
 obtain⟨k',ab,Y,_,aj⟩:∃k',k'<j/\i=B.N0+k'/\i≠0/\Gz F k' (φ i):=by
  rcases h.Du U with e | ⟨_,d,hd,_⟩ | e
  ·exact absurd e V
  ·rw [O] at hd;cases hd
  ·exact e
 rw [O] at aj;obtain rfl:k=k':=aj;have Z:∀e∈(#[⟨.cell ⟨F.fd,k,none⟩,true,false⟩]:Array Event),∀a,(MemAct.ofEvent e).touch? =some a->a=⟨.cell ⟨F.fd,k,none⟩,true,.plain⟩:=by
  intro e he a K;simp at he;subst he;simp [MemAct.ofEvent,MemAct.touch?] at K;exact K.symm
 have ak:∀e∈(#[⟨.cell ⟨F.fd,k,none⟩,true,false⟩]:Array Event),e.loc≠ .mark (.release F.sA):=by
  intro e he;simp at he;subst he;simp
 have aw:∀e∈(#[⟨.cell ⟨F.fd,k,none⟩,true,false⟩]:Array Event),EvS F B.N0 j i e:=λe he=>
  ⟨λa K=>by have:=Z e he a K;subst this;exact⟨F.fd,rfl,.inr ⟨rfl,k,ab,Y,rfl,rfl⟩⟩,ak e he⟩
 have ay:BS t w gs.size (upd S i s₀) Sh:=h.Cc.ghost U ap;have az:BS (t++MemOp.ofEvents i g.frame.fn g.frame.place #[⟨.cell ⟨F.fd,k,none⟩,true,false⟩]) (F.G4 w (upd f k v0)) gs.size (upd S i s₀) Sh:=by
  refine ay.ext (h.EG.noRace h.Cc.clean U (.inr (by omega)) aw) (λop ac a aA b hb=>?_) (λop ac=>?_) (Uv ..) (λb hb=>OC _ _ λe=>hb (e▸h.Iy))
  ·obtain⟨e,he,rfl⟩:=mem_ofEvents ac;have:=Z e he a aA;subst this;have:b=F.fd:=by simpa [CQ] using hb.symm
   subst this;exact h.Iy
  ·obtain⟨e,he,rfl⟩:=mem_ofEvents ac;simp at he;subst he;simp [MemAct.ofEvent,MemAct.low,Loc.low,ai]
 have aB:CH F B.N0 (gs.size+c.toNat) j c (CB c gs.size (upd φ i (.ph (.lk k .Gn)))) v wt' sm false:=by
  have ae:CB c gs.size φ (B.N0+k)= .ph (.lk k .Fs):=by rw [← Y,Ir V (by omega)];exact O
  have:=h.CG.H4 (v':=v) (wt':=wt') (sm':=sm) (cl':=false) ab (x:= .ph (.lk k .Gn)) rfl (λa=>by rw [ae];simp) (by simp) (by rw [ae];rfl) λL S' al am=>by
   rw [ae] at al am;have aC:L=_:=al;have aD:S'=_:=am;rw [aC,aD];exact h.CG.mode
  rwa [← Y,Mw V (by omega)] at this
 have aE:ES F B.N0 B.t0 gs.size j (upd φ i (.ph (.lk k .Gn))) (upd S i s₀) (t++MemOp.ofEvents i g.frame.fn g.frame.place #[⟨.cell ⟨F.fd,k,none⟩,true,false⟩]):=by
  refine h.EG.app U (by rw [O];rfl) (λe he=>⟨λa b K hb aF=>?_,λa K hb=>?_,ak e he⟩) (.inl (.inr (by omega))) (λk' ag an e he a b K hb hw=>?_) (λk' ag e an=>an.elim)
  ·have:=Z e he a K;subst this;have ah:b=F.fd:=by simpa [CQ] using hb.symm
   subst ah;rcases aF with e | e
   ·exact absurd e h.Jz
   ·exact absurd e h.Jx
  ·have:=Z e he a K;subst this;exact⟨k,ab,Y,rfl,rfl⟩
  ·have:=Z e he a K;subst this;have ah:b=F.fd:=by simpa [CQ] using hb.symm
   subst ah;exact(h.Cc.sh (B.N0+k') (by omega) _ h.Iy).2
 obtain⟨ρ,aG⟩:=av;have aH:LI gs.size (upd φ i (.ph (.lk k .Gn))) m q:=by
  refine h.lock.same U (λf=>?_) trivial;rw [O];by_cases e:f .Fs=f .Gn
  ·exact .inl e
  ·right;refine⟨?_,?_,?_,?_,?_,?_,?_,?_⟩ <;> rintro rfl <;> exact e rfl
 refine h.go' (f₁:=upd f k v0) hi (by rw [aa];exact au w f h.F6) aB aH aE (ρ:=ρ) (.walk (by rw [aa];rfl) (λe=>by cases e) (by rw [aa];exact aG)) az ?_ ?_ (We _ _ ai) (λa b=>absurd b a) (λa b=>absurd b a) (λk' ag ao=>?_) (λe=>absurd e V) (λe=>absurd e V) rfl (.refl _) rfl λaL=>SM U (by rw [O];simp [wt,G5])
 ·show(F.G4 w (upd f k v0)).heap[F.wg]? =_;rw [OC _ _ (Ne.symm h.Jz)];exact h.wg
 ·show(F.G4 w (upd f k v0)).heap[F.mu]? =_;rw [OC _ _ (Ne.symm h.Jx)];exact h.IY
 ·by_cases e:k'=k
  ·subst e;rw [← Y,upd_same,upd_same];exact ar
  ·rw [upd_ne _ _ e];rw [upd_ne _ _ (by omega)] at ao ⊢;exact h.Ia k' ag ao
theorem TA{g g' o:Goroutine}(h:g'.status= .blocked):woken P g g' w o=o:=by
 unfold woken;rw [if_neg (by simp [h])]
theorem ES.XK{N0 t0 N:Nat}(h:ES F N0 t0 N j φ S t){i:Nat}{s':St}(U:∀k,k<j->late (φ (N0+k))->N0+k≠i):ES F N0 t0 N j φ (upd S i s') t:=
 ⟨h.deaf,h.above,h.plain,h.said,h.F6,h.over,h.norel,h.LC,λk K O=>by rw [upd_ne _ _ (U k K O)];exact h.rel k K O⟩
theorem Inv.block(h:Inv P F B gs w t φ r bt S Sh j c v wt' sm m q f){i:Nat}{g:Goroutine}(hi:gs[i]? =some g){p:Ph}(K:φ i= .ph p)(al:bt i=true)(Z:(i==0)=Fam.CF p){s₀:St}(ae:Cl (S i) s₀)(aa:Stop P F p g s₀)
  (ab:(p= .Fl/\sm=0)∨((∃k sv,p= .lk k (.Cz sv))/\q=0)):HV P F B gs w sl t i (mu F gs.size φ m q r bt):=by
 have V:i<gs.size:=(Array.getElem?_eq_some_iff.1 hi).1;have aq:=h.size;have am:stepG P (i==0) g w= .go {g with status:= .blocked} w #[]:=by
  rw [Z];rcases ab with⟨rfl,rfl⟩ | ⟨⟨k,sv,rfl⟩,rfl⟩
  ·exact aa.law.EV rfl w v wt' h.wg
  ·exact aa.law.Cz k sv rfl w m h.IY
 have Y:OV p:=by
  rcases ab with⟨rfl,_⟩ | ⟨⟨k,sv,rfl⟩,_⟩
  ·exact .inl rfl
  ·exact .inr ⟨k,sv,rfl⟩
 have an:=PV Y;have ag:=runT_crowd_go (P:=P) (sl:=sl) (i:=i) hi am;have ao:(gs.map (woken P g {g with status:= .blocked} w)).setIfInBounds i {g with status:= .blocked}=gs.setIfInBounds i {g with status:= .blocked}:=by
  have:(woken P g {g with status:= .blocked} w)=id:=by funext o;exact TA rfl
  rw [this,Array.map_id]
 rw [ao,L8] at ag;have O:(gs.setIfInBounds i {g with status:= .blocked}).size=gs.size:=by simp
 have ah:t++(#[]:Trace)=t:=by simp
 have ap:∀k,k<j->late (φ (B.N0+k))->B.N0+k≠i:=by
  intro k ai aj e;rw [e,K] at aj;rcases Y with rfl | ⟨k',sv,rfl⟩
  ·rcases h.Du V with ah | ⟨_,d,hd,_⟩ | ⟨k',_,_,_,hw⟩
   ·have:=h.CG.pos;omega
   ·rw [K] at hd;cases hd
   ·rw [K] at hw;exact hw
  ·exact aj
 refine⟨_,_,_,_,ag,.inl ⟨φ,r,upd bt i false,upd S i s₀,Sh,j,c,v,wt',sm,m,q,f,?_,?_⟩⟩
 ·rw [ah];refine⟨by rw [O];exact h.CG,by rw [O];exact h.lock,by rw [O];exact h.EG.XK ap,λa o U=>?_,by rw [O];exact h.Cc.ghost V ae,h.HC,h.H9,h.Iy,h.LJ,h.Jz,h.Jx,h.Hy,h.mn,h.wg,h.IY,h.F6,λa ak hb=>?_,λk ai ac=>?_,?_,h.tape,h.os,h.output⟩
  ·by_cases e:a=i
   ·subst e;rw [Array.getElem?_setIfInBounds_self_of_lt V] at U;obtain rfl:=Option.some.inj U;rw [upd_same,upd_same,K];have:loc (.ph p) s₀=s₀:=by simp [loc,Hn,an]
    rw [this];exact .blk Y Z aa
   ·rw [Array.getElem?_setIfInBounds_ne (Ne.symm e)] at U;rw [upd_ne _ _ e,upd_ne _ _ e];exact h.Ki a o U
  ·by_cases e:a=i
   ·subst e;rcases ab with⟨rfl,rfl⟩ | ⟨⟨k,sv,rfl⟩,rfl⟩
    ·have:a=0:=by simpa [Fam.CF] using Z
     subst this;exact .inl ⟨rfl,K,rfl⟩
    ·exact .inr ⟨⟨k,sv,K⟩,rfl⟩
   ·rw [upd_ne _ _ e] at hb;rw [O] at ak;exact h.blk a ak hb
  ·by_cases e:B.N0+k=i
   ·rw [e,K] at ac;rcases Y with rfl | ⟨k',sv,rfl⟩ <;> exact ac.elim
   ·rw [upd_ne _ _ e];exact h.Ia k ai ac
  ·by_cases e:0=i
   ·subst e;rw [upd_same];exact λb o U=>ae.ext b o (h.le b o U)
   ·rw [upd_ne _ _ e];exact h.le
 ·rw [O];have:=sumTo_upd bt false bit V;rw [al] at this;exact .inr ⟨rfl,.inr ⟨rfl,.inr ⟨rfl,rfl,.inr ⟨rfl,by show(sumTo gs.size λa=>bit (upd bt i false a))<sumTo gs.size λa=>bit (bt a);simp only [bit] at this ⊢;simp only [if_true,Bool.false_eq_true,if_false] at this;omega⟩⟩⟩⟩
theorem LI.push{N:Nat}(h:LI N φ m q)(Y:0<N){p0:Ph}{j:Nat}(O:∀k p,φ 0≠ .ph (.lk k p))(U:∀k p,p0≠ .lk k p):LI (N+1) (upd (upd φ N (.ph (.lk j .FQ))) 0 (.ph p0)) m q:=by
 have V:LI (N+1) (upd φ N (.ph (.lk j .FQ))) m q:=by
  have e:∀f,f LP.FQ=0->Sg f (N+1) (upd φ N (.ph (.lk j .FQ)))=Sg f N φ:=by
   intro f Z;unfold Sg;simp only [sumTo];have:=sumTo_upd_out φ (.ph (.lk j .FQ)) (Da f) (i:=N) (j:=N) (Nat.le_refl _);rw [upd_same];show _+f .FQ=_;omega
  refine⟨by rw [e pH rfl,e pN rfl,e pZ rfl,e pV rfl,e pT rfl,e pQ rfl,e pD rfl,e pX rfl];exact h.ln,λa aa=>?_⟩;by_cases K:a=N
  ·subst K;rw [upd_same];trivial
  ·rw [upd_ne _ _ K];exact h.loc a (by omega)
 exact V.other (by omega) (by rw [upd_ne _ _ (by omega)];exact O) (λk p e=>U k p (Nx.ph.inj e))
theorem Inv.spawn(h:Inv P F B gs w t φ r bt S Sh j c v wt' sm m q f){g:Goroutine}(hi:gs[0]? =some g){K:Nat}(Z:φ 0= .ph (.FE K)){s₀:St}(ay:Cl (S 0) s₀)(aD:Stop P F (.FE K) g s₀):
  HV P F B gs w sl t 0 (mu F gs.size φ m q r bt):=by
 have V:0<gs.size:=(Array.getElem?_eq_some_iff.1 hi).1;obtain⟨rfl,a8,rfl⟩:K=j/\j<F.n/\c=false:=by
  obtain⟨p,az,_,hh⟩:=h.main;rw [Z] at az;cases az;rcases hh with⟨e,hm⟩ | ⟨_,hm⟩
  ·exact⟨hm.1,hm.2.1,e⟩
  ·exact hm.elim
 obtain⟨g',child,a9,ba,aE,aF,aG⟩:=aD.law.go _ rfl;have aH:=h.size;have bb:=h.CG.pos;have an:=runT_crowd_spawn (P:=P) (sl:=sl) (i:=0) hi (show stepG P (0==0) g w=_ from aE w);rw [L8] at an;generalize aI:({g:=0,fn:=g.frame.fn,pos:=g.frame.place,act:= .go gs.size}:MemOp)=x at an;generalize aJ:({g:=gs.size,fn:=child.frame.fn,pos:=g.frame.place,act:= .start}:MemOp)=y at an;have ac:x.g=0/\x.act= .go gs.size:=by subst aI;exact⟨rfl,rfl⟩
 have ae:y.g=gs.size/\y.act= .start:=by subst aJ;exact⟨rfl,rfl⟩
 have aK:((#[]:Trace).push x).push y= #[x,y]:=rfl;have ab:((gs.setIfInBounds 0 g').push child).size=gs.size+1:=by simp
 have aL:Fam.CF (F.Ew K)=true/\Fam.CP (F.Ew K)=false/\FC (.ph (F.Ew K))=0/\(∀k p,F.Ew K≠ .lk k p):=by
  unfold Fam.Ew;split <;> exact⟨rfl,rfl,rfl,by simp⟩
 obtain⟨aM,x2,aN,aO⟩:=aL;let φ':Nat->Nx:=upd (upd φ gs.size (.ph (F.start K))) 0 (.ph (F.Ew K));have f0:φ' 0= .ph (F.Ew K):=upd_same _ _ _;have ag:φ' gs.size= .ph (F.start K):=by show upd _ _ _ _=_;rw [upd_ne _ _ (by omega),upd_same]
 have ah:∀a,a≠0->a≠gs.size->φ' a=φ a:=λa aP aq=>by show upd _ _ _ _=_;rw [upd_ne _ _ aP,upd_ne _ _ aq]
 have hu:∀op∈(#[x,y]:Array MemOp),op.act.touch? =none/\∀m,op.act≠ .mark m:=by
  intro op O;simp only [List.mem_toArray,List.mem_cons,List.not_mem_nil,or_false] at O;rcases O with rfl | rfl
  ·rw [ac.2];exact⟨rfl,by simp⟩
  ·rw [ae.2];exact⟨rfl,by simp⟩
 have ai:=h.CG.spawn (by rw [IT];exact Z);rw [IT] at ai;simp only [Bool.toNat_false,Nat.add_zero] at ai;have ar:∃aj,CH F B.N0 (gs.size+1+aj.toNat) (K+1) aj (CB aj (gs.size+1) φ') v wt' sm false:=by
  by_cases e:K+1=F.n
  ·refine⟨true,?_⟩;have au:F.Fj K= .GC:=by unfold Fam.Fj;rw [if_pos e]
   have e2:F.Ew K= .Dl:=by unfold Fam.Ew;rw [if_pos e]
   have:=ai.Yg (by rw [upd_same,au]);have aQ:CB true (gs.size+1) φ'=upd (upd (upd (upd φ gs.size (.ph (F.start K))) 0 (.ph (F.Fj K))) (gs.size+1) (.ph .Dl)) 0 (.ph (.Fz [] [])):=by
    funext a;unfold CB;by_cases av:a=gs.size+1
    ·subst av;rw [if_pos ⟨rfl,rfl⟩,upd_ne _ _ (by omega),upd_same,f0,e2]
    ·rw [if_neg (by simp [av])];by_cases aa:a=0
     ·subst aa;rw [if_pos ⟨rfl,rfl⟩,upd_same]
     ·rw [if_neg (by simp [aa]),upd_ne _ _ aa,upd_ne _ _ av];show upd _ _ _ _=_;rw [upd_ne _ _ aa,upd_ne _ _ aa]
   rw [aQ];exact this
  ·refine⟨false,?_⟩;have au:F.Fj K=F.Ew K:=by unfold Fam.Fj Fam.Ew;rw [if_neg e,if_neg e]
   rw [au] at ai;rw [IT];exact ai
 obtain⟨aj,ar⟩:=ar;have aA:BS t w gs.size (upd S 0 s₀) Sh:=h.Cc.ghost V ay;have aR:BS (t++ #[x,y]) w gs.size (upd S 0 s₀) Sh:=by
  refine aA.ext (λsaid=>?_) (λop O a ak=>by rw [(hu op O).1] at ak;cases ak) (λop O=>?_) rfl λ_ _=>rfl
  ·have e:t++ #[x,y]=(t++ #[x])++ #[y]:=by apply Array.ext';simp
   rw [e];exact noRace_append (g:=gs.size) (noRace_append (g:=0) (h.Cc.clean said) (λop O=>by simp at O;subst O;exact ac.1) λz a _ op O b hb _=>by rw [(hu op (by simp at O ⊢;exact .inl O)).1] at hb;cases hb)
    (λop O=>by simp at O;subst O;exact ae.1) λz a _ op O b hb _=>by rw [(hu op (by simp at O ⊢;exact .inr O)).1] at hb;cases hb
  ·simp only [List.mem_toArray,List.mem_cons,List.not_mem_nil,or_false] at O;rcases O with rfl | rfl
   ·rw [ac.2];trivial
   ·rw [ae.2];trivial
 have aS:Deaf t 0=0:=by rw [h.EG.deaf 0 V,Z];rfl
 have aT:BS (t++ #[x,y]) w (gs.size+1) (upd (upd S 0 s₀) gs.size ⟨s₀.E,λ_=>none,false⟩) Sh:=by
  refine aR.push (i:=0) V (E:=s₀.E) (λb o al=>by rw [upd_same];exact al) λb hb z a aU aV aW=>?_;have hold:touchAt t z=some a:=by
   obtain⟨op,al,aw⟩:=touch_of aU;rcases getElem?_append_cases al with⟨_,aX⟩ | ⟨_,aY⟩
   ·rw [touchAt_of aX];exact aw
   ·rw [(hu op aY).1] at aw;cases aw
  exact fork_knows ac ae aS (h.EG.above _ (Nat.le_refl _)) (aA.kE 0 V b (by rw [upd_same];exact hb) z a hold aV aW)
 have aB:∀k,k<K->upd (upd S 0 s₀) gs.size ⟨s₀.E,λ_=>none,false⟩ (B.N0+k)=S (B.N0+k):=λk aC=>by rw [upd_ne _ _ (by omega),upd_ne _ _ (by omega)]
 have aZ:ES F B.N0 B.t0 (gs.size+1) (K+1) φ' (upd (upd S 0 s₀) gs.size ⟨s₀.E,λ_=>none,false⟩) (t++ #[x,y]):=by
  refine h.EG.spawn V aH (λa ak=>?_) (by rw [ag];rfl) (by rw [Z];rfl) (λk aC ao=>?_) ac ae
  ·by_cases e:a=0
   ·subst e;rw [f0,Z,aN];rfl
   ·rw [ah a e (by omega)]
  ·by_cases e:k=K
   ·subst e;rw [show B.N0+k=gs.size by omega,ag] at ao;exact ao.elim
   ·rw [ah _ (by omega) (by omega)] at ao;exact⟨by omega,ao,by rw [aB k (by omega)]⟩
 obtain⟨a0,a2⟩:=aG;obtain⟨a3,a4⟩:=aF;have am:∀{α:Type} (f:Nat->α) (a b:α),upd (upd f 0 a) gs.size b 0=a:=λf a b=>by rw [upd_ne _ _ (by omega),upd_same]
 have a5:∀s:St,loc (.ph (F.Ew K)) s=s:=λs=>by simp [loc,Hn,x2]
 refine⟨_,_,_,_,an,.inl ⟨φ',upd (upd r 0 a0) gs.size a3,upd (upd bt 0 true) gs.size true,upd (upd S 0 s₀) gs.size ⟨s₀.E,λ_=>none,false⟩,Sh,K+1,aj,v,wt',sm,m,q,f,?_,?_⟩⟩
 ·rw [aK];refine⟨by rw [ab];exact ar,by rw [ab];exact h.lock.push V (λk p e=>by rw [Z] at e;cases e) aO,by rw [ab];exact aZ,λa o Y=>?_,by rw [ab];exact aT,h.HC,h.H9,h.Iy,h.LJ,h.Jz,h.Jx,h.Hy,(by rw [f0];unfold Fam.Ew;split <;> simp),h.wg,h.IY,h.F6,λa ak hb=>?_,λk aC ap=>?_,?_,h.tape,h.os,h.output⟩
  ·by_cases e:a=0
   ·subst e;rw [Array.getElem?_push_lt (by simpa using V)] at Y;simp at Y;subst Y;rw [f0,am,am,am,a5];exact .walk aM.symm (λq=>by rw [x2] at q;cases q) a2
   ·by_cases U:a=gs.size
    ·subst U;have:child=o:=by
      rw [show gs.size=(gs.setIfInBounds 0 g').size by simp,Array.getElem?_push_size] at Y;exact Option.some.inj Y
     subst this;rw [ag,upd_same,upd_same,upd_same];have a6:(gs.size==0)=false:=by rw [beq_eq_false_iff_ne];omega
     rw [a6];exact .walk rfl (λq=>by cases q) a4
    ·rw [ah a e U,upd_ne _ _ U,upd_ne _ _ e,upd_ne _ _ U,upd_ne _ _ e,upd_ne _ _ U,upd_ne _ _ e];have:gs[a]? =some o:=by
      rw [Array.getElem?_push] at Y;simp [U] at Y;simpa [Array.getElem?_setIfInBounds_ne (Ne.symm e)] using Y
     exact h.Ki a o this
  ·rw [ab] at ak;by_cases e:a=0
   ·subst e;rw [am] at hb;cases hb
   ·by_cases U:a=gs.size
    ·subst U;rw [upd_same] at hb;cases hb
    ·rw [upd_ne _ _ U,upd_ne _ _ e] at hb;rcases h.blk a (by omega) hb with⟨aa,_⟩ | ⟨⟨k,sv,aq⟩,a7⟩
     ·exact absurd aa e
     ·exact .inr ⟨⟨k,sv,by rw [ah a e U];exact aq⟩,a7⟩
  ·by_cases e:k=K
   ·subst e;rw [show B.N0+k=gs.size by omega,ag] at ap;exact ap.elim
   ·rw [ah _ (by omega) (by omega)] at ap;rw [aB k (by omega)];exact h.Ia k (by omega) ap
  ·rw [am];exact h.le.trans λb o al=>ay.ext b o al
 ·rw [ab];refine Y4 ?_;simp only [sumTo];rw [ag];have a1:=sumTo_upd (upd φ gs.size (.ph (F.start K))) (.ph (F.Ew K)) (wt F.n) V;rw [upd_ne _ _ (by omega),Z] at a1;have bd:=sumTo_upd_out φ (.ph (F.start K)) (wt F.n) (i:=gs.size) (j:=gs.size) (Nat.le_refl _);have be:wt F.n (.ph (F.start K))=23:=rfl;have bf:wt F.n (.ph (.FE K))=5*F.n+85+50*(F.n - K):=rfl;have bg:wt F.n (.ph (F.Ew K))+30<=5*F.n+85+50*(F.n - K):=by
   unfold Fam.Ew;split <;> simp only [wt] <;> omega
  show(sumTo gs.size λi=>wt F.n (upd (upd φ gs.size (.ph (F.start K))) 0 (.ph (F.Ew K)) i))+_<_;omega
end
end Pal
namespace Pal
open Go Go.Conc
open Go.ConcN (upd upd_same upd_ne sumTo sumTo_upd sumTo_upd_out sumTo_congr le_sumTo sumTo_le fork_knows RelBy)
theorem BS.final{t:Trace}{w:World}{N:Nat}{S:Nat->St}{Sh:Nat->Prop}(h:BS t w N S Sh)(ac:0<N){s':St}{fd:Nat}
  (Y:∀b o,s'.E b=some o->w.heap[b]? =some o/\¬Sh b/\∀x a,touchAt t x=some a->CQ a.loc=some b->a.write=true->Knows t 0 x)
  (Z:∀b o,s'.H b=some o->w.heap[b]? =some o/\(¬Sh b∨b=fd)/\∀x a,touchAt t x=some a->CQ a.loc=some b->Knows t 0 x)
  (hd:∀b,s'.E b≠none->s'.H b=none) (ae:s'.E fd=none):BS t w N (lone s') (λb=>Sh b/\b≠fd):=by
 have l0:lone s' 0=s':=rfl;have ln:∀i,i≠0->lone s' i= .quiet:=λi hi=>by simp [lone,hi]
 have V:∀i b,i≠0->(lone s' i).E b=none:=λi b hi=>by rw [ln i hi];rfl
 have U:∀i b,i≠0->(lone s' i).H b=none:=λi b hi=>by rw [ln i hi];rfl
 refine⟨λi hi=>?_,λa b ag hb ab x O=>?_,λi hi b hb=>?_,λb hb=>h.F0 b hb.1,h.clean,h.low,λi hi b hb x a O aa=>?_,λi hi b hb x a O aa hw=>?_⟩
 ·by_cases e:i=0
  ·subst e;rw [l0];exact⟨λb o K=>(Y b o K).1,λb o K=>(Z b o K).1,hd⟩
  ·exact⟨λb o K=>(by rw [V i b e] at K;cases K),λb o K=>(by rw [U i b e] at K;cases K),λb hb=>U i b e⟩
 ·by_cases e:b=0
  ·subst e;rw [U a x ab] at O;exact absurd rfl O
  ·exact⟨U b x e,V b x e⟩
 ·by_cases e:i=0
  ·subst e;rw [l0];constructor
   ·cases O:s'.H b with
    | none=>rfl
    | some o=>rcases(Z b o O).2.1 with q | q;exact absurd hb.1 q;exact absurd q hb.2
   ·cases O:s'.E b with
    | none=>rfl
    | some o=>exact absurd hb.1 (Y b o O).2.1
  ·exact⟨U i b e,V i b e⟩
 ·by_cases e:i=0
  ·subst e;obtain⟨o,K⟩:=HK (x:=s'.H b) hb;exact(Z b o K).2.2 x a O aa
  ·rw [U i b e] at hb;exact absurd rfl hb
 ·by_cases e:i=0
  ·subst e;obtain⟨o,K⟩:=HK (x:=s'.E b) hb;exact(Y b o K).2.2 x a O aa hw
  ·rw [V i b e] at hb;exact absurd rfl hb
section
variable {P:Program}{F:Fam}{B:Base}{gs gs':Array Goroutine}{w w':World}{sl:Option (Nat×Nat)}{t:Trace}{φ:Nat->Nx}{r:Nat->Rk}{bt:Nat->Bool}{S:Nat->St}{Sh:Nat->Prop}{j:Nat}{c:Bool}{v wt' sm v₁ wt₁ sm₁:Nat}{m m₁:M4}{q q₁:Nat}{f f₁:Nat->Value}
theorem Inv.over(h:Inv P F B gs w t φ r bt S Sh j c v wt' sm m q f)(aX:∀k v E E',Le E E'->F.msg k v E->F.msg k v E'){g:Goroutine}(hi:gs[0]? =some g)(av:φ 0= .ph .FZ){s₀:St}(aI:Cl (S 0) s₀)(ac:Stop P F .FZ g s₀)(aY:Mu):
  HV P F B gs w sl t 0 aY:=by
 classical
 have aa:0<gs.size:=(Array.getElem?_eq_some_iff.1 hi).1;have bd:=h.size;have be:=h.CG.pos;obtain rfl:c=true:=by
  obtain⟨p,aJ,_,hh⟩:=h.main;rw [av] at aJ;cases aJ;rcases hh with⟨_,hm⟩ | ⟨e,_⟩
  ·exact hm.elim
  ·exact e
 have bf:j=F.n:=h.CG.cj rfl;have aw:∀i,i≠0->i<gs.size->∃d,φ i= .gone d:=by
  intro i ay an;rcases h.Du an with e | ⟨_,d,hd,_⟩ | ⟨k,Y,aZ,_,_⟩
  ·exact absurd e ay
  ·exact⟨d,hd⟩
  ·have:=h.CG.Wo rfl (.inr (.inr (.inl (by rw [show B.N0+F.n=gs.size by omega,Jk];exact av)))) k Y;rw [← aZ,Ir ay (by omega)] at this;cases U:φ i with
   | gone d=>exact⟨d,rfl⟩
   | ph p=>rw [U] at this;exact this.elim
 obtain⟨g',a0,a1⟩:=ac.law.fin rfl;have aK:=runT_crowd_go (P:=P) (sl:=sl) (i:=0) hi (show stepG P (0==0) g w=_ from a0 w);have aL:Deaf t 0=0:=by rw [h.EG.deaf 0 aa,av];rfl
 have az:MemOp.ofEvents 0 g.frame.fn g.frame.place #[Fam.CI (.acquire F.sA)]= #[{g:=0,fn:=g.frame.fn,pos:=g.frame.place,act:= .mark (.acquire F.sA)}]:=by rw [ofEvents_eq];simp [Fam.CI,MemAct.ofEvent]
 generalize hu:MemOp.ofEvents 0 g.frame.fn g.frame.place #[Fam.CI (.acquire F.sA)]=u at aK;have ae:∀op∈u,op.act.touch? =none/\op.g=0/\op.act.low w.heap.size:=by
  intro op ag;rw [← hu,az] at ag;simp at ag;subst ag;exact⟨rfl,rfl,h.Cc.F0 F.wg h.HC⟩
 have ao:(t++u)[t.size]? =some {g:=0,fn:=g.frame.fn,pos:=g.frame.place,act:= .mark (.acquire F.sA)}:=by rw [← hu,az];simp
 have a2:(t++u).heard t.size:=⟨0,by simp [Trace.g?,ao],by rw [deaf_old (Nat.le_refl _)];exact aL⟩;have a3:(t++u).g? t.size=some 0:=by simp [Trace.g?,ao]
 have a4:∀x,B.t0<=x->(t++u).act? x≠some (.mark (.release F.sA)):=Og h.EG.norel λop ag e=>by rw [← hu,az] at ag;simp at ag;subst ag;cases e
 have aA:∀k,k<F.n->∃ρ,ρ<t.size/\RelBy F.sA t (B.N0+k) ρ/\KE t (S (B.N0+k)).E ρ/\HappensBefore (t++u) ρ t.size:=by
  intro k Y;obtain⟨d,hd⟩:=aw (B.N0+k) (by omega) (by omega);obtain⟨ρ,a,b,e⟩:=h.EG.rel k (by omega) (by rw [hd];trivial);have ap:ρ<t.size:=lt_of_act? b.act;refine⟨ρ,ap,b,e,.single (.inr ⟨.marked ap (.inr (by rw [act?_old ap];exact b.act)) (by rw [act?_of ao]) λz V ab=>a4 z (by omega),(heard_old ap).2 b.heard,a2⟩)⟩
 have aM:∀{x ρ},Before t x ρ->HappensBefore (t++u) ρ t.size->Knows (t++u) 0 x:=λV ab=>⟨t.size,_,ao,rfl,.inr ((V.app u).hb ab)⟩;have aN:∀{x k},k<F.n->t.g? x=some (B.N0+k)->t.counts x->Knows (t++u) 0 x:=by
  intro x k Y Z ah;obtain⟨ρ,V,ab,_,am⟩:=aA k Y;have hle:x<=ρ:=Nat.le_of_not_lt λaj=>ab.after x aj Z ah;refine aM (ρ:=ρ) ?_ am;rcases Nat.lt_or_ge x ρ with U | U
  ·exact .inr (.single (.inl ⟨U,_,Z,ab.g⟩))
  ·exact .inl (by omega)
 have hold:∀{y a},touchAt (t++u) y=some a->touchAt t y=some a:=by
  intro y a U;obtain⟨op,O,aB⟩:=touch_of U;rcases getElem?_append_cases O with⟨aj,aC⟩ | ⟨_,aD⟩
  ·rw [touchAt_of aC];exact aB
  ·rw [(ae op aD).1] at aB;cases aB
 have ai:BS t w gs.size (upd S 0 s₀) Sh:=h.Cc.ghost aa aI;have aE:BS (t++u) w gs.size (upd S 0 s₀) Sh:=ai.mute (g:=0) (λop O=>(ae op O).2.1) (λop O=>(ae op O).1) (λop O=>(ae op O).2.2) rfl;let K:Nat->Obj->Prop:=λb o=>s₀.E b=some o∨∃k,k<F.n/\(S (B.N0+k)).E b=some o;have aF:∀b o,K b o->w.heap[b]? =some o:=by
  rintro b o (V | ⟨k,Y,V⟩)
  ·exact(ai.fits 0 aa).e b o (by rw [upd_same];exact V)
  ·exact(h.Cc.fits (B.N0+k) (by omega)).e b o V
 let E':LH:=λb=>if hb:∃o,K b o then some (Classical.choose hb) else none
 have aG:∀b o,E' b=some o->K b o:=by
  intro b o O;simp only [E'] at O;split at O
  ·rename_i hb;have:=Classical.choose_spec hb;rw [Option.some.inj O] at this;exact this
  ·cases O
 have aO:∀b o,K b o->E' b=some o:=by
  intro b o O;have hb:∃o,K b o:=⟨o,O⟩;have a5:E' b=some (Classical.choose hb):=by simp only [E'];rw [dif_pos hb]
  have e2:=aF b _ (Classical.choose_spec hb);rw [aF b o O] at e2;rw [a5,← Option.some.inj e2]
 have aP:Le s₀.E E':=λb o O=>aO b o (.inl O);have a6:∀k,k<F.n->Le (S (B.N0+k)).E E':=λk Y b o O=>aO b o (.inr ⟨k,Y,O⟩);have aQ:∀b o,K b o->¬Sh b:=by
  rintro b o (V | ⟨k,Y,V⟩) hb
  ·have:=(ai.sh 0 aa b hb).2;rw [upd_same,V] at this;cases this
  ·have:=(h.Cc.sh (B.N0+k) (by omega) b hb).2;rw [V] at this;cases this
 have aH:E' F.fd=none:=by
  cases U:E' F.fd with
  | none=>rfl
  | some o=>exact absurd h.Iy (aQ _ _ (aG _ _ U))
 have aR:∀b,E' b≠none->s₀.H b=none:=by
  intro b hb;obtain⟨o,O⟩:=HK hb;rcases aG b o O with V | ⟨k,Y,V⟩
  ·have:=(ai.fits 0 aa).d b (by rw [upd_same,V];simp)
   rwa [upd_same] at this
  ·cases U:s₀.H b with
   | none=>rfl
   | some o'=>
    have:=(ai.hh 0 (B.N0+k) aa (by omega) (by omega) b (by rw [upd_same,U];simp)).2;rw [upd_ne _ _ (by omega),V] at this;cases this
 have a7:∀k,k<F.n->F.msg k (f k) E':=λk Y=>by
  obtain⟨d,hd⟩:=aw (B.N0+k) (by omega) (by omega);exact aX _ _ _ _ (a6 k Y) (h.Ia k (by omega) (by rw [hd];trivial))
 have a8:=a1 E' f aP aH aR a7;have aS:((gs.map (woken P g g' w)).setIfInBounds 0 g').size=gs.size:=by simp
 have a9:BS (t++u) w gs.size (lone ⟨E',F.Jf s₀.H f,false⟩) (λb=>Sh b/\b≠F.fd):=by
  refine aE.final aa (λb o O=>?_) (λb o O=>?_) (λb hb=>?_) aH
  ·have Y:=aG b o O;refine⟨aF b o Y,aQ b o Y,λx a U ak hw=>?_⟩;rcases Y with V | ⟨k,Y,V⟩
   ·exact aE.kE 0 aa b (by rw [upd_same,V];simp) x a U ak hw
   ·obtain⟨ρ,_,_,ba,am⟩:=aA k Y;exact aM (ba b (by rw [V];simp) x a (hold U) ak hw) am
  ·simp only [Fam.Jf] at O;split at O
   ·rename_i e;subst e;cases O;refine⟨h.F6,.inr rfl,λx a U ak=>?_⟩;rcases h.EG.F6 x a (hold U) ak with z | ⟨k,Y,Z,ah,_⟩
    ·exact(z 0 aa (.inl rfl)).app u
    ·exact aN (by omega) Z ah
   ·refine⟨(ai.fits 0 aa).h b o (by rw [upd_same];exact O),.inl λhb=>?_,λx a U ak=>aE.kH 0 aa b (by rw [upd_same,O];simp) x a U ak⟩;have:=(ai.sh 0 aa b hb).1;rw [upd_same,O] at this;cases this
  ·simp only [Fam.Jf];rw [if_neg (λe=>by subst e;exact hb aH)];exact aR b hb
 have bb:∀i g,i≠0->gs[i]? =some g->∃q d,φ i= .gone d/\QuitsD P q d g:=by
  intro i g hi Z;obtain⟨d,hd⟩:=aw i hi (Array.getElem?_eq_some_iff.1 Z).1;have ac:=h.Ki i g Z;rw [hd] at ac;generalize U:Nx.gone d=x at ac;generalize loc x (S i)=s at ac;generalize r i=ρ at ac;generalize bt i=bg at ac;cases ac with
  | gone _ aq=>cases U;exact⟨_,_,hd,aq⟩
  | _=>cases U
 have aq:∀i,∃q,∀g,i≠0->gs[i]? =some g->QuitsD P q (Deaf t i) g:=by
  intro i;by_cases hi:i≠0/\i<gs.size
  ·obtain⟨q,d,V,ab⟩:=bb i _ hi.1 (Array.getElem?_eq_getElem hi.2);refine⟨q,λg _ Z=>?_⟩;rw [Array.getElem?_eq_getElem hi.2] at Z;obtain rfl:=Option.some.inj Z;rw [h.EG.deaf i hi.2,V];exact ab
  ·exact⟨0,λg V ab=>absurd ⟨V,(Array.getElem?_eq_some_iff.1 ab).1⟩ hi⟩
 have aT:∀i,i≠0->Deaf (t++u) i=Deaf t i:=λi hi=>Deaf_other t (Ne.symm hi) u λop O=>(ae op O).2.1;refine⟨_,_,_,_,aK,.inr ⟨λi=>Classical.choose (aq i),λb=>Sh b/\b≠F.fd,g',⟨E',F.Jf s₀.H f,false⟩,⟨by simp [aa],⟨λi x ay U=>?_,λi an=>?_⟩,by rw [aS];exact a9,λx ar Z al ah=>?_,?_⟩,a8,?_,h.tape,h.os,h.output⟩⟩
 ·have al:i≠0:=by omega
  rw [Array.getElem?_setIfInBounds_ne (Ne.symm al),Array.getElem?_map] at U;obtain⟨o',aC,rfl⟩:=Option.map_eq_some_iff.1 U;have aU:=Classical.choose_spec (aq i) o' al aC;rw [woken_quitsD aU,aT i al];exact aU
 ·rw [aS] at an;rw [aT i (by omega)];exact h.EG.above i an
 ·have:=Ol h.EG.over (u:=u) (N0:=B.N0) (N:=gs.size) (λop O=> .inl (ae op O).2.1) x ar Z al ah;rcases this with z | ⟨z1,bh⟩
  ·exact z
  ·have au:x<t.size:=by
    rcases Nat.lt_or_ge x t.size with z | z
    ·exact z
    ·obtain⟨op,O,aV⟩:=Option.map_eq_some_iff.1 Z;rcases getElem?_append_cases O with⟨aj,_⟩ | ⟨_,aD⟩
     ·exact aj
     ·rw [(ae op aD).2.1] at aV;exact absurd aV.symm al
   obtain⟨bi,z,bj,bl,bm⟩:=aN (k:=ar - B.N0) (by omega) (by rw [← g?_old (u:=u) au,Z];congr 1;omega) ((counts_old au).1 ah);refine⟨t.size,a3,?_⟩;obtain⟨ρ,V,ab,_,am⟩:=aA (ar - B.N0) (by omega);have aW:t.g? x=some (B.N0+(ar - B.N0)):=by rw [← g?_old (u:=u) au,Z];congr 1;omega
   have hle:x<=ρ:=Nat.le_of_not_lt λaj=>ab.after x aj aW ((counts_old au).1 ah);have hb:Before t x ρ:=by
    rcases Nat.lt_or_ge x ρ with U | U
    ·exact .inr (.single (.inl ⟨U,_,aW,ab.g⟩))
    ·exact .inl (by omega)
   exact(hb.app u).hb am
 ·have:=Deaf_own t 0 g.frame.fn g.frame.place #[Fam.CI (.acquire F.sA)];rw [hu] at this;rw [this,aL];rfl
 ·exact(h.le.trans λb o O=>aI.ext b o O).trans aP
end
end Pal
namespace Pal
open Go Go.Conc
open Go.ConcN (upd upd_same upd_ne sumTo sumTo_upd sumTo_upd_out sumTo_congr le_sumTo sumTo_le fork_knows RelBy)
theorem LN.busy{m:M4}{h rn rs v t s d x:Nat}(Y:LN m 0 h rn rs v t s d x)(ac:1<=s):1<=h+rn+rs+v+t+d+x:=by
 obtain⟨O,Z,aa⟩:=Y;cases hm:m.s with
 | true=>have:=(aa hm).2.2.2.1;rw [← O] at this;omega
 | false=>
  obtain⟨a1,ae,K,ag,ab⟩:=Z hm;cases V:m.l with
  | true=>rw [V] at O;simp at O;omega
  | false=>
   cases U:m.k with
   | true=>rw [U] at K;simp at K;omega
   | false=>
    rw [U] at K;simp at K;have:=ab V U (by omega);omega
section
variable {P:Program}{F:Fam}{B:Base}{gs gs':Array Goroutine}{w w':World}{sl:Option (Nat×Nat)}{t:Trace}{φ:Nat->Nx}{r:Nat->Rk}{bt:Nat->Bool}{S:Nat->St}{Sh:Nat->Prop}{j:Nat}{c:Bool}{v wt' sm v₁ wt₁ sm₁:Nat}{m m₁:M4}{q q₁:Nat}{f f₁:Nat->Value}
theorem Uu{N:Nat}{f:Nat->Nat}(h:1<=sumTo N f):∃i,i<N/\1<=f i:=by
 induction N with
 | zero=>simp [sumTo] at h
 | succ N K=>
  simp only [sumTo] at h;by_cases e:1<=f N
  ·exact⟨N,by omega,e⟩
  ·obtain⟨i,hi,O⟩:=K (by omega);exact⟨i,by omega,O⟩
theorem Inv.runs(h:Inv P F B gs w t φ r bt S Sh j c v wt' sm m q f):∃(i:Nat) (g:Goroutine),gs[i]? =some g/\g.status= .running:=by
 have aG:=h.CG.pos;have aH:=h.size;have ag:0<gs.size:=by omega
 have aa:∀i (hi:i<gs.size) p,φ i= .ph p->bt i=true->∃(i:Nat) (g:Goroutine),gs[i]? =some g/\g.status= .running:=by
  intro i hi p U hb;refine⟨i,_,Array.getElem?_eq_getElem hi,?_⟩;have K:=h.Ki i _ (Array.getElem?_eq_getElem hi);rw [U,hb] at K;generalize loc (Nx.ph p) (S i)=s at K;generalize ar:Nx.ph p=x at K;generalize au:true=b at K;generalize gs[i]=o at K ⊢;generalize r i=ρ at K;cases K with
  | walk _ _ ah=>exact ah.running
  | blk _ _ _=>cases au
  | gone _ _=>cases ar
 obtain⟨p0,Z,av,hh⟩:=h.main;cases ai:bt 0 with
 | true=>exact aa 0 ag p0 Z ai
 | false=>
  obtain⟨U,aI⟩:φ 0= .ph .Fl/\sm=0:=by
   rcases h.blk 0 ag ai with⟨_,a,b⟩ | ⟨⟨k,sv,a⟩,_⟩
   ·exact⟨a,b⟩
   ·rw [Z] at a;cases a;cases av
  rw [U] at Z;cases Z;obtain⟨rfl⟩:c=true:=by
   rcases hh with⟨_,hm⟩ | ⟨e,_⟩
   ·exact hm.elim
   ·exact e
  have ah:j=F.n:=h.CG.cj rfl;have aj:=h.CG.mode;rw [if_pos rfl,show B.N0+F.n=gs.size by omega,Jk,U] at aj;obtain⟨aw,_,_⟩:=aj;have ab:=h.CG.cnt;have ak:CB true gs.size φ 0= .ph (.Fz [] []):=by simp [CB];omega
  rw [ak] at ab;simp only [pend,Nat.add_zero] at ab;have hex:∃i,i<gs.size+1/\1<=cU (CB true gs.size φ i)+cL (CB true gs.size φ i)+cS (CB true gs.size φ i):=by
   apply Classical.byContradiction;intro ay;have ac:∀i,i<gs.size+1->cU (CB true gs.size φ i)=0/\cL (CB true gs.size φ i)=0/\cS (CB true gs.size φ i)=0:=λi hi=>by
    have:¬1<=cU (CB true gs.size φ i)+cL (CB true gs.size φ i)+cS (CB true gs.size φ i):=λq=>ay ⟨i,hi,q⟩;omega
   have zero:∀f:Nat->Nat,(∀i,i<gs.size+1->f i=0)->sumTo (gs.size+1) f=0:=λf az=>by
    have:=sumTo_le (f:=f) (c:=0) (j:=gs.size+1) (λi hi=>by rw [az i hi];exact Nat.le_refl _);omega
   have z1:=zero (λi=>cU (CB true gs.size φ i)) λi hi=>(ac i hi).1;have aJ:=zero (λi=>cL (CB true gs.size φ i)) λi hi=>(ac i hi).2.1;have aK:=zero (λi=>cS (CB true gs.size φ i)) λi hi=>(ac i hi).2.2;simp only [Bool.toNat_true] at aw ab;omega
  obtain⟨i,hi,O⟩:=hex;have al:i≠0:=by rintro rfl;rw [ak] at O;simp [cU,cL,cS] at O
  have aA:i≠gs.size:=by rintro rfl;rw [Jk,U] at O;simp [cU,cL,cS] at O
  rw [Ir al aA] at O;have ae:i<gs.size:=by omega
  cases am:φ i with
  | gone d=>rw [am] at O;simp [cU,cL,cS] at O
  | ph pi=>
   cases an:bt i with
   | true=>exact aa i ae pi am an
   | false=>
    obtain⟨⟨k,sv,aB⟩,aC⟩:(∃k sv,φ i= .ph (.lk k (.Cz sv)))/\q=0:=by
     rcases h.blk i ae an with⟨e,_⟩ | e
     ·exact absurd e al
     ·exact e
    subst aC;have aD:1<=Sg pQ gs.size φ:=by
     have:=le_sumTo (f:=λa=>Da pQ (φ a)) ae;have e:Da pQ (φ i)=1:=by rw [aB];rfl
     simp only [e] at this;exact this
    have hb:=h.lock.ln.busy aD;have aE:1<=Sg (λp=>(((((pH p+pN p)+pZ p)+pV p)+pT p)+pD p)+pX p) gs.size φ:=by
     rw [Je,Je,Je,Je,Je,Je];exact hb
    obtain⟨a,ao,V⟩:=Uu aE;cases Y:φ a with
    | gone d=>rw [Y] at V;simp [Da] at V
    | ph aF=>
     rw [Y] at V;cases aF <;> (try (simp [Da] at V;done))
     rename_i k' l;cases ap:bt a with
     | true=>exact aa a ao _ Y ap
     | false=>
      rcases h.blk a ao ap with⟨e,aq,_⟩ | ⟨⟨aL,aM,e⟩,_⟩
      ·subst e;rw [Y] at aq;cases aq
      ·rw [Y] at e;cases e;simp [Da,pH,pN,pZ,pV,pT,pD,pX] at V
theorem Inv.step(h:Inv P F B gs w t φ r bt S Sh j c v wt' sm m q f)(ac:∀k v E E',Le E E'->F.msg k v E->F.msg k v E'):
  ∃gs' w' ah u,stepT P (crowd gs w sl)=(.next (crowd gs' w' ah),u)/\
  ((∃φ' r' aq S' aB ae aC v' aD sm' m' q' aE,Inv P F B gs' w' (t++u) φ' r' aq S' aB ae aC v' aD sm' m' q' aE/\Mu.lt (mu F gs'.size φ' m' q' r' aq) (mu F gs.size φ m q r bt))∨Pv P F B gs' w' (t++u)):=by
 have aT:=h.size;have aF:∀x∈gs,awake x:=by
  intro x K;obtain⟨i,hi,rfl⟩:=Array.mem_iff_getElem.1 K;exact(h.Ki i _ (Array.getElem?_eq_getElem hi)).awake
 obtain⟨i,g,d,ah,hi,ar,aG⟩:=crowd_pick (P:=P) (w:=w) (sl:=sl) aF h.runs
 suffices HV P F B gs (w.at d) ah t i (mu F gs.size φ m q r bt) by
  obtain⟨gs',w',aH,u,ai,aj⟩:=this;exact⟨gs',w',aH,u,aG.trans ai,aj⟩
 have O:=h.at_ d;have au:i<gs.size:=(Array.getElem?_eq_some_iff.1 hi).1;have Z:=h.Ki i g hi;generalize K:φ i=x at Z;generalize av:r i=ρ at Z;generalize hb:bt i=b at Z;generalize aw:loc x (S i)=s at Z;cases Z with
 | blk _ _ _=>cases ar
 | gone hm ay=>exact O.slip hi ar K av hm ay
 | @walk p _ _ _ hm ay ak=>
  have aI:JQ (Stop P F p) g s∨∃f,ρ= .node f/\(∀w,Fits s w->∃g' s' w' es,stepG P (i==0) g w= .go g' w' es/\Jr P (i==0) (JQ (Stop P F p)) (f w) g' s'/\Fits s' w'/\Fr s w s' w'/\(∀e∈es,Ev s w w' e)/\(s= .quiet->s'= .quiet/\w'=w/\es= #[])):=by
   cases ρ with
   | leaf=>exact .inl ak
   | node f=>
    rcases ak with q | ⟨_,q⟩
    ·exact .inl q
    ·exact .inr ⟨f,rfl,q⟩
  rcases aI with⟨s₀,az,U⟩ | ⟨f0,rfl,hgo⟩
  ·subst aw;have V:Fam.CP p=false->Cl (S i) s₀:=λe=>by simpa [loc,Hn,e] using az
   by_cases c1:∃k l,p= .lk k l
   ·obtain⟨k,l,rfl⟩:=c1;by_cases c2:l= .Fs
    ·subst c2;exact O.store hi K hm (V rfl) U
    by_cases c3:(∃sv,l= .Cz sv)/\q=0
    ·obtain⟨⟨sv,rfl⟩,c3⟩:=c3;exact O.block hi K hb hm (V rfl) U (.inr ⟨⟨k,sv,rfl⟩,c3⟩)
    exact O.BW ac hi K c2 hm (V rfl) U λsv e al=>c3 ⟨⟨sv,e⟩,al⟩
   by_cases c2:∃ae,p= .FE ae
   ·obtain⟨ae,rfl⟩:=c2;have aa:i=0:=by simpa [Fam.CF] using hm
    subst aa;exact O.spawn hi K (V rfl) U
   by_cases c3:p= .FZ
   ·subst c3;have aa:i=0:=by simpa [Fam.CF] using hm
    subst aa;exact O.over ac hi K (V rfl) U _
   by_cases c4:p= .Fl/\sm=0
   ·obtain⟨rfl,c4⟩:=c4;exact O.block hi K hb hm (V rfl) U (.inl ⟨rfl,c4⟩)
   have aJ:∃am,am<gs.size+c.toNat/\CB c gs.size φ am= .ph p:=by
    by_cases e:i=0
    ·subst e;cases c with
     | false=>exact⟨0,by omega,by rw [IT];exact K⟩
     | true=>exact⟨gs.size,by simp,by rw [Jk];exact K⟩
    ·exact⟨i,by omega,by rw [Ir e (by omega)];exact K⟩
   have aK:p= .Fl->sm=1:=by
    rintro rfl;have aa:i=0:=by simpa [Fam.CF] using hm
    subst aa;obtain⟨p0,ab,_,hh⟩:=h.main;rw [K] at ab;cases ab;obtain rfl:c=true:=by
     rcases hh with⟨_,hm⟩ | ⟨e,_⟩
     ·exact hm.elim
     ·exact e
    have ak:=h.CG.cj rfl;have aA:=h.CG.mode;rw [if_pos rfl,show B.N0+F.n=gs.size by omega,Jk,K] at aA;obtain⟨aU,_⟩:=aA;have:sm≠0:=λq=>c4 ⟨rfl,q⟩;omega
   obtain⟨am,aL,aM⟩:=aJ;have ag:(∀k,p≠ .GY k)/\p≠ .GC/\(∀an vs,p≠ .Fz an vs)/\p≠ .Hm:=by
    by_cases e:i=0
    ·subst e;have ao:=h.mn;rw [K] at ao;obtain⟨p0,ab,_,hh⟩:=h.main;rw [K] at ab;cases ab;refine⟨λk e=>?_,λe=>?_,λan vs e=>?_,λe=>?_⟩
     ·subst e;rcases hh with⟨_,Y⟩ | ⟨_,Y⟩ <;> exact Y.elim
     ·subst e;exact ao.1 rfl
     ·subst e;rcases hh with⟨e,Y⟩ | ⟨_,Y⟩
      ·have:=Y.2;rw [e] at this;cases this
      ·exact Y.elim
     ·subst e;exact ao.2 rfl
    ·rcases h.Du au with al | ⟨_,d,hd,_⟩ | ⟨k',aV,aW,_,hw⟩
     ·exact absurd al e
     ·rw [K] at hd;cases hd
     ·rw [K] at hw;refine⟨λk e=>?_,λe=>?_,λan vs e=>?_,λe=>?_⟩ <;> subst e
      ·exact absurd hw.2 Bool.false_ne_true
      all_goals exact hw.elim
   obtain⟨v',w',sm',es,aX,aN⟩:=h.CG.enabled aL aM ag.1 (λk e=>c2 ⟨k,e⟩) ag.2.1 ag.2.2.1 ag.2.2.2 aK c3 λk l e=>c1 ⟨k,l,e⟩;exact O.act ac hi K hm az U aN
  ·subst aw;have aO:Fits (loc (.ph p) (S i)) (w.at d):=by
    have:=O.Cc.fits i au;unfold loc;split
    ·exact⟨λb o ap=>(by cases ap),λb o ap=>(by cases ap),λb hb=>rfl⟩
    ·exact this
   obtain⟨g',s',w',es,ai,aj,aP,aQ,aR,aS⟩:=hgo (w.at d) aO;exact O.own ac hi K hm ai aj aP aQ aR aS (by rw [av];exact⟨f0,_,rfl,rfl⟩)
theorem Inv.run(Y:∀k v E E',Le E E'->F.msg k v E->F.msg k v E'):∀(K:Mu) (gs:Array Goroutine) (w:World) (sl:Option (Nat×Nat)) (t:Trace) (φ:Nat->Nx) (r:Nat->Rk) (bt:Nat->Bool) (S:Nat->St) (Sh:Nat->Prop) (j:Nat) (c:Bool) (v wt' sm:Nat) (m:M4) (q:Nat) (f:Nat->Value),
  mu F gs.size φ m q r bt=K->Inv P F B gs w t φ r bt S Sh j c v wt' sm m q f->∃n gs' w' O U,runNT P n (crowd gs w sl) t=(.next (crowd gs' w' O),U)/\Pv P F B gs' w' U:=by
 intro K
 induction K using Mu.wf.induction with
 | _ K Z=>
  intro gs w sl t φ r bt S Sh j c v wt' sm m q f aa h;obtain⟨gs',w',O,u,V,hh⟩:=h.step (sl:=sl) Y;rcases hh with⟨φ',r',ab,S',ac,ae,ag,v',ah,sm',m',q',ai,aj,ak⟩ | al
  ·obtain⟨n,am,an,ao,ap,aq,ar⟩:=Z _ (aa▸ak) gs' w' O (t++u) φ' r' ab S' ac ae ag v' ah sm' m' q' ai rfl aj;exact⟨n+1,am,an,ao,ap,Ma V aq,ar⟩
  ·exact⟨1,gs',w',O,t++u,Ma V rfl,al⟩
end
def Jc(H:LH)(a b c:Nat):LH:=λx=>if x=c then none else if x=b then none else if x=a then none else H x
theorem Wr{P:Program}(F:Fam){Q:GP}{g:Goroutine}{s:St}{f₀:Nat->Value}(ai:1<=F.n)(aq:F.n<134217728)(ar:∀k v E E',Le E E'->F.msg k v E->F.msg k v E')
  (aj:F.mu≠F.wg) (ak:F.fd≠F.wg) (al:F.fd≠F.mu) (Z:s.H F.wg=some (F.Hz 0 0)) (aa:s.H F.mu=some (F.HA 0 0)) (ac:s.H F.fd=some (F.H6 f₀))
  (au:Way P true (Stop P F (.F1 0)) g ⟨s.E,Jc s.H F.wg F.mu F.fd,false⟩) (av:∀g s,F.fin g s->(Gv P).ok Q g s):(Gv P).ok Q g s:=by
 intro gs w sl t q Sh hC;have V:0<gs.size:=(Array.getElem?_eq_some_iff.1 hC.main).1;let s1:St:={s with H:=λb=>if b=F.wg then none else s.H b}
 let s2:St:={s with H:=λb=>if b=F.mu then none else s1.H b}
 have am:lone s 0=s:=rfl;have c1:BS t w gs.size (upd (lone s) 0 s1) (λb=>Sh b∨b=F.wg):=by
  have:=hC.Cc.share (i:=0) V (b₀:=F.wg) (o₀:=F.Hz 0 0) (by rw [am];exact Z);exact this
 have c2:BS t w gs.size (upd (upd (lone s) 0 s1) 0 s2) (λb=>(Sh b∨b=F.wg)∨b=F.mu):=by
  have:=c1.share (i:=0) V (b₀:=F.mu) (o₀:=F.HA 0 0) (by rw [upd_same];simp [s1,aj,aa]);refine this.congr λi hi=>?_;by_cases e:i=0
  ·subst e;simp only [upd_same];exact⟨rfl,rfl⟩
  ·have h:∀(f:Nat->St) (x:St),upd f 0 x i=f i:=λf x=>upd_ne f x e;constructor <;> simp only [h]
 have c3:BS t w gs.size (upd (upd (upd (lone s) 0 s1) 0 s2) 0 ⟨s.E,Jc s.H F.wg F.mu F.fd,false⟩) (λb=>((Sh b∨b=F.wg)∨b=F.mu)∨b=F.fd):=by
  have:=c2.share (i:=0) V (b₀:=F.fd) (o₀:=F.H6 f₀) (by rw [upd_same];simp [s2,s1,ak,al,ac]);refine this.congr λi hi=>?_;by_cases e:i=0
  ·subst e;simp only [upd_same];exact⟨rfl,rfl⟩
  ·have h:∀(f:Nat->St) (x:St),upd f 0 x i=f i:=λf x=>upd_ne f x e;constructor <;> simp only [h]
 have Y:∀b,s.H b≠none->∀x a,touchAt t x=some a->CQ a.loc=some b->Knows t 0 x:=λb hb=>hC.Cc.kH 0 V b (by rw [am];exact hb);have ae:=hC.Cc.fits 0 V;obtain⟨ρ,aw⟩:=au;let φ:Nat->Nx:=λi=>if i=0 then .ph (.F1 0) else .gone (Deaf t i)
 have z:∀f:Nx->Nat,(∀d,f (.gone d)=0)->f (.ph (.F1 0))=0->(sumTo gs.size λi=>f (φ i))=0:=by
  intro f an ao;have:=sumTo_le (f:=λi=>f (φ i)) (c:=0) (j:=gs.size) λi _=>by
   show f (φ i)<=0;by_cases e:i=0
   ·simp [φ,e,ao]
   ·simp [φ,e,an]
  omega
 have O:∀f:LP->Nat,Sg f gs.size φ=0:=λf=>z (Da f) (λ_=>rfl) rfl;have ay:∀i,(upd (upd (upd (lone s) 0 s1) 0 s2) 0 ⟨s.E,Jc s.H F.wg F.mu F.fd,false⟩) i=if i=0 then⟨s.E,Jc s.H F.wg F.mu F.fd,false⟩ else .quiet:=by
  intro i;by_cases e:i=0
  ·subst e;rw [upd_same];rfl
  ·rw [upd_ne _ _ e,upd_ne _ _ e,upd_ne _ _ e];simp [lone,e]
 have az:F.Hz (Fam.word 0 0) (0:Nat)=F.Hz 0 0:=by simp [Fam.word]
 have aA:F.HA M4.zero.num (0:Nat)=F.HA 0 0:=by simp [M4.num,M4.zero]
 have ap:∀i,i<gs.size->(i=0∨gs.size<=i)->i=0:=λi hi ab=>by omega
 have aB:Inv P F ⟨gs.size,t.size,s.E,w⟩ gs w t φ (λi=>if i=0 then ρ else chain (q i)) (λ_=>true) (upd (upd (upd (lone s) 0 s1) 0 s2) 0 ⟨s.E,Jc s.H F.wg F.mu F.fd,false⟩) (λb=>((Sh b∨b=F.wg)∨b=F.mu)∨b=F.fd) 0 false 0 0 0 M4.zero 0 f₀:=by
  refine⟨?_,⟨?_,λi hi=>?_⟩,⟨λi hi=>?_,λi hi=>hC.lv.above i hi,λx a b K hb ag U i hi ab=>?_,λx a b K hb ag U=>?_,λx a K hb=> .inl λi hi ab=>?_,λx g aC aD aE=> .inl (hC.over x g aC aD aE),λx K e=>?_,Nat.le_refl _,λk U=>by omega⟩,λi g' ah=>?_,c3,.inl (.inl (.inr rfl)),.inl (.inr rfl),.inr rfl,aj,ak,al,aq,by simp [φ],?_,?_,ae.h _ _ ac,λi hi hb=>(by cases hb),λk U=>(by omega),?_,rfl,.refl _,rfl⟩
  ·rw [IT];refine⟨V,ai,by omega,by simp,Nat.zero_le _,by simp,⟨.F1 0,rfl,rfl,ai,rfl⟩,λi an ao=>?_,λk U=>by omega,by simp,?_,by simp [φ,pend],?_,λk U=>by omega,.nil,λk U=>by cases U⟩
   ·have:i≠0:=by omega
    simp [φ,this,MV]
   ·have:=z cU (λ_=>rfl) rfl;simp only [Bool.toNat_false,Nat.add_zero];rw [this];simp [φ,pend]
   ·simp only [Bool.false_eq_true,if_false,Dx];exact⟨z cL (λ_=>rfl) rfl,z cS (λ_=>rfl) rfl,trivial,trivial,trivial⟩
  ·rw [O,O,O,O,O,O,O,O];simp [LN,M4.zero]
  ·by_cases e:i=0
   ·simp [φ,e,No]
   ·simp [φ,e,No]
  ·by_cases e:i=0
   ·subst e;simp [φ,FC];exact hC.hears
   ·simp [φ,e,FC]
  ·obtain rfl:=ap i hi ab;rcases ag with rfl | rfl
   ·exact Y _ (by rw [Z];simp) x a K hb
   ·exact Y _ (by rw [aa];simp) x a K hb
  ·rcases ag with rfl | rfl
   ·exact Y _ (by rw [Z];simp) x a K hb
   ·exact Y _ (by rw [aa];simp) x a K hb
  ·obtain rfl:=ap i hi ab;exact Y _ (by rw [ac];simp) x a K hb
  ·have:=lt_of_act? e;have a0:t.size<=x:=K;omega
  ·rw [ay];by_cases e:i=0
   ·subst e;rw [hC.main] at ah;obtain rfl:=Option.some.inj ah;simp only [if_true,φ];exact .walk rfl (λh=>by cases h) aw
   ·have hm:(i==0)=false:=by rw [beq_eq_false_iff_ne];exact e
    simp only [e,if_false,φ];exact .gone hm (hC.lv.old i g' (by omega) ah)
  ·show w.heap[F.wg]? =_;rw [az];exact ae.h _ _ Z
  ·show w.heap[F.mu]? =_;rw [aA];exact ae.h _ _ aa
  ·rw [upd_same];exact Le.refl _
 obtain⟨n,gs',w',aF,aG,aH,q',aI,g',s',aJ,aK,hle,aL,aM,aN⟩:=Inv.run ar _ _ _ sl _ _ _ _ _ _ _ _ _ _ _ _ _ _ rfl aB;obtain⟨aO,aP,w2,aQ,t2,aR,aS,g2,aT,k1,aU,aV,aW,aX,aY,aZ⟩:=av g' s' aK gs' w' aF aG q' aI aJ;refine⟨n+aO,aP,w2,aQ,t2,aR,aS,g2,aT,?_,aU,aV,λb o h=>aW b o (hle b o h),aX.trans aL,aM.trans aY,aZ.trans aN⟩;rw [runNT_add,aH];exact k1
end Pal
namespace Pal
open Go Go.Conc
section
variable {P:Program}{F:Fam}{J:Judge P}{Q:GP}{n:Nat}{L L':Env}{ds:Ld_}{k:Li_}{cs:Lf_}{s s':St}{b:Frame}{main:Bool}
theorem BI(hb:b.roundOf=none)(T:Av_)(todo:Li_):fr b T ds todo=b.at ⟨T,ds⟩ todo:=by simp [fr,Frame.at,hb]
theorem Ky(hb:b.roundOf=none)(T:Av_)(todo:Li_):Em b T ds todo={b.at ⟨T,ds⟩ todo with mode:= .returning}:=by simp [Em,Frame.at,hb]
theorem Ey(T:Av_)(ds:Ld_)(x:Operand):(⟨T,ds⟩:Act).eval x=By T x:=by cases x <;> rfl
theorem Ec(T:Av_)(ds:Ld_)(d:Option Tmp)(v:Value):(⟨T,ds⟩:Act).put d v=⟨CM T d v,ds⟩:=by cases d <;> rfl
def JO(J:Judge P)(Q:GP)(b:Frame)(n:Nat)(L:Env)(ds:Ld_)(cs:Lf_)(s:St):Prop:=
 ∀T,Has n L T->∀todo,J.ok Q (G (Em b T ds todo) cs) s
theorem JL.out(K:b.roundOf=none)(h:JO J Q b n L ds cs s):JL J Q b n L ds [] cs s:=λT O=>
 Judge.Db rfl (λw=>by simp [G,stepG,stepG.exec,fr,Em,K]) (h T O [])
theorem Gr(K:b.roundOf=none)(h:JO J Q b n L ds cs s):JL J Q b n L ds (.code .ret::k) cs s:=λT O=>
 Judge.Db rfl (λw=>by simp [G,stepG,stepG.exec,fr,Em,K]) (h T O (.code .ret::k))
theorem JO.leave{c:Frame}{v:Value}(O:b.kind= .normal)(K:Bd P b.fn L n s v)(h:J.ok Q (G (c.finish v) cs) s):JO J Q b n L [] (c::cs) s:=λT U todo=>by
 obtain⟨fn,V,K⟩:=K
 exact Judge.leave O V (K T U) h
theorem JO.leaveD{c:Frame}{fn:Func}(O:b.kind= .deferred)(U:P.funcs[b.fn]? =some fn)(K:fn.results= #[])(V:c.mode= .returning∨c.mode= .panicking [goexitEntry])(h:J.ok Q (G c cs) s):JO J Q b n L [] (c::cs) s:=λT Z todo=>by
 refine Judge.Db rfl (λw=>?_) h
 have Y:=results_none K T P w
 have e2:=λ(x:Array Event)=>events_results_none (P:=P) (w:=w) K T x
 rcases V with e | e <;> simp [G,stepG,unwind,Em,U,Y,e2,doReturn,O,GStep.after,seen_none,e,goexitEntry]
theorem JO.enter{f:FuncId}{fn:Func}{c:Code}{vs:Lv_}(O:b.roundOf=none)(V:P.funcs[f]? =some fn)(Y:(fn.name== "runtime.NumGoroutine")=false)(hb:fn.body=some c)(ac:vs.length<=fn.ntmps)
  (h:∀T,Has n L T->∀todo,JL J Q (baseD f) fn.ntmps (FY 0 vs) [] [.code c] (Em b T ds todo::cs) s):JO J Q b n L (dcall f vs.toArray::ds) cs s:=λT Z todo=>by
 refine Judge.Db rfl (λw=>?_) (h T Z todo (vs.toArray++Array.replicate (fn.ntmps - vs.length) undef) ⟨by simp;omega,λt v aa=>?_⟩)
 ·rw [Ky O,stepG_unwind_enter (a:=⟨T,dcall f vs.toArray::ds⟩) rfl V Y hb,Ky O]
  rw [BI (b:=baseD f) rfl];simp
 ·obtain⟨_,K⟩:=I6 aa;have ab:t<vs.length:=by
   rcases Nat.lt_or_ge t vs.length with U | U
   ·exact U
   ·simp at K;have:=(List.getElem?_eq_some_iff.1 K).1;omega
  rw [Array.getD_eq_getD_getElem?,Array.getElem?_append_left (by simpa using ab)];simp at K;simp [K]
theorem JL.defer{ops:Ao_}{i:Nat}{rest:List Nat}{d:Option Tmp}{f:FuncId}{args:Array Operand}{ats:Array TypeId}{ty:TypeId}{p:String}{af:Ae_}{g:On_}{vs:Lv_}
  (U:ops[i]? =some ⟨d,.defer ⟨.value (.func f),args,ats⟩,ty,p,af,g⟩) (V:b.roundOf=none) (hw:AT L ops ⟨d,.defer ⟨.value (.func f),args,ats⟩,ty,p,af,g⟩=some true) (K:((b.kind != .early)&&Bh n d)=true)
  (Y:evs L args.toList=some vs) (h:JL J Q b n (Ax L d undef) (dcall f vs.toArray::ds) (.inRegion ops rest::k) cs s):
  JL J Q b n L ds (.inRegion ops (i::rest)::k) cs s:=λT O=>by
 simp only [Bool.and_eq_true] at K
 have Z:args.map (By T)=vs.toArray:=by
  rw [← Gd O.FW Y];apply Array.ext';simp
 refine Judge.oper U (Cb O hw) (by simpa using K.1) (.inl V) ?_;have hd:execOp (By T) ⟨d,.defer ⟨.value (.func f),args,ats⟩,ty,p,af,g⟩= .pure (.defer (dcall f vs.toArray)):=by
  simp only [execOp,resolve,bind,Sem.bind,Deferred.ofValue,By,pure,dcall];rw [Z];simp
 rw [hd];exact h _ (O.put K.2 undef)
def KD:Ph->Bool
 | .GY _ | .FE _ | .GC | .Fz _ _ | .Hm | .Fl | .FZ | .lk _ _=>false
 | _=>true
theorem Ij{p:Ph}{g:Goroutine}(K:KD p=true)(V:g.status= .running)(Y:g.offers=none)(O:if Fam.CP p=true then s= .quiet else s.q=false)(Z:p= .Fb->mayWake P g=true)
  (h:∀v wt sm v' wt' sm' es U,F.act p v wt sm=some ((v',wt',sm'),es,U)->∃g',(∀w,F.WG w v wt sm->stepG P (Fam.CF p) g w= .go g' (F.put w v' wt' sm') es)/\g'.status= .running/\LG P (Stop P F) (Fam.CF p) U g' (Fam.IZ p s)):Stop P F p g s:=
 GI.stop {
  run:=V
  offers:=Y
  quiet:=λe=>by rw [if_pos e] at O;exact O
  live:=λe=>by rw [if_neg (by rw [e];simp)] at O;exact O
  act:=h
  Iv:=λe=>by rcases e with e | ⟨k,b,e⟩;exact Z e;subst e;cases K
  EV:=λe=>by subst e;cases K
  go:=λj e=>by subst e;cases K
  lk:=λk l e=>by subst e;cases K
  Cz:=λk sv e=>by subst e;cases K
  store:=λk e=>by subst e;cases K
  fin:=λe=>by subst e;cases K}
theorem Kw{w:World}{v wt sm:Nat}(h:F.WG w v wt sm):F.put w v wt sm=w:=by
 unfold Fam.put;have:w.heap.setIfInBounds F.wg (F.Hz (Fam.word v wt) sm)=w.heap:=by
  apply Array.ext_getElem?;intro i;by_cases e:F.wg=i
  ·subst e;unfold Fam.WG at h;have O:F.wg<w.heap.size:=by
    rcases Nat.lt_or_ge F.wg w.heap.size with K | K
    ·exact K
    ·simp [Array.getElem?_eq_none K] at h
   rw [Array.getElem?_setIfInBounds_self_of_lt O,h]
  ·rw [Array.getElem?_setIfInBounds_ne e]
 rw [this]
theorem Il{w:World}{v wt sm:Nat}(h:F.WG w v wt sm):w.cell? F.sA=some (.int .u64 (Fam.word v wt))/\w.cell? F.mA=some (.int .u32 sm)/\w.frozen? F.sA=false/\w.frozen? F.mA=false:=by
 unfold Fam.WG Fam.Hz at h;refine⟨?_,?_,?_,?_⟩
 ·simp [World.cell?,Fam.sA,h]
 ·simp [World.cell?,Fam.mA,h]
 ·simp [World.frozen?,Fam.sA,h]
 ·simp [World.frozen?,Fam.mA,h]
theorem Mc{w:World}{v wt sm v' wt':Nat}(h:F.WG w v wt sm):w.setCell F.sA (.int .u64 (Fam.word v' wt'))=F.put w v' wt' sm:=by
 unfold Fam.put World.setCell;congr 1;apply Array.ext_getElem?;intro i;unfold Fam.WG Fam.Hz at h;rw [Array.getElem?_modify];have O:F.wg<w.heap.size:=by
  rcases Nat.lt_or_ge F.wg w.heap.size with K | K
  ·exact K
  ·simp [Array.getElem?_eq_none K] at h
 by_cases e:F.wg=i
 ·subst e;rw [Array.getElem?_setIfInBounds_self_of_lt O,h];simp [Fam.sA,Fam.Hz]
 ·rw [Array.getElem?_setIfInBounds_ne e];simp [Fam.sA,e]
theorem P7{w:World}{v wt sm sm':Nat}(h:F.WG w v wt sm):w.setCell F.mA (.int .u32 sm')=F.put w v wt sm':=by
 unfold Fam.put World.setCell;congr 1;apply Array.ext_getElem?;intro i;unfold Fam.WG Fam.Hz at h;rw [Array.getElem?_modify];have O:F.wg<w.heap.size:=by
  rcases Nat.lt_or_ge F.wg w.heap.size with K | K
  ·exact K
  ·simp [Array.getElem?_eq_none K] at h
 by_cases e:F.wg=i
 ·subst e;rw [Array.getElem?_setIfInBounds_self_of_lt O,h];simp [Fam.mA,Fam.Hz]
 ·rw [Array.getElem?_setIfInBounds_ne e];simp [Fam.mA,e]
structure B7 (P:Program) (f:FuncId) (e:Av_->Sem Value):Prop where
 h:∃fn,P.funcs[f]? =some fn/\(fn.name== "runtime.NumGoroutine")=false/\fn.body.isNone=true/\Extern.findNext fn=none/\Extern.find fn=some e
section
variable {ops:Ao_}{i:Nat}{rest:List Nat}{d:Option Tmp}{f:FuncId}{args:Array Operand}{ats:Array TypeId}{ty:TypeId}{pp:String}{af:Ae_}{g:On_}{vs:Lv_}{p q:Ph}
theorem Js{T:Av_}(K:Has n L T)(O:evs L args.toList=some vs):args.map (⟨T,ds⟩:Act).eval=vs.toArray:=by
 have:(⟨T,ds⟩:Act).eval=By T:=funext λx=>Ey T ds x;rw [this,← Gd K.FW O];apply Array.ext';simp
theorem Lk{m:Mark}(Y:KD p=true)(Z:if Fam.CP p=true then s= .quiet else s.q=false)(aa:p≠ .Fb)(ab:∀v wt sm,F.act p v wt sm=some ((v,wt,sm),#[Fam.CI m],.ph q))(ac:Fam.IZ p s=s)
  (ae:ops[i]? =some ⟨d,.call ⟨.value (.func f),args,ats⟩,ty,pp,af,g⟩) (O:b.roundOf=none) (hw:AT L ops ⟨d,.call ⟨.value (.func f),args,ats⟩,ty,pp,af,g⟩=some true) (K:((b.kind != .early)&&Bh n d)=true)
  (hm:∀x,m≠ .extern x) (he:B7 P f (λ_=>do mark m;pure Extern.Race.none_))
  (h:JL (A1 P (Fam.CF p)) (Stop P F q) b n (Ax L d (.tuple #[])) ds (.inRegion ops rest::k) cs s):
  JL (A1 P (Fam.CF p)) (Stop P F p) b n L ds (.inRegion ops (i::rest)::k) cs s:=λT U=>by
 simp only [Bool.and_eq_true] at K
 obtain⟨fn,ag,ah,hb,ai,he⟩:=he.h
 refine(A1 P _).stop (Ij Y rfl rfl Z (λe=>absurd e aa) λv wt sm v' wt' sm' es ak V=>?_)
 rw [ab] at V;cases V
 refine⟨_,λw aj=>?_,rfl,by rw [ac];exact h _ (U.put K.2 _)⟩
 rw [BI O,BI O,stepG_mark0 (a:=⟨T,ds⟩) m hm ae (Cb U hw) (by simpa using K.1) rfl ag ah hb ai he,Kw aj,Ec]
 rfl
theorem N8{mk:Addr->Mark}{ad:Addr}(Y:KD p=true)(Z:if Fam.CP p=true then s= .quiet else s.q=false)(aa:p≠ .Fb)(ab:∀v wt sm,F.act p v wt sm=some ((v,wt,sm),#[Fam.CI (mk ad)],.ph q))
  (ac:ops[i]? =some ⟨d,.call ⟨.value (.func f),args,ats⟩,ty,pp,af,g⟩) (U:b.roundOf=none) (hw:AT L ops ⟨d,.call ⟨.value (.func f),args,ats⟩,ty,pp,af,g⟩=some true) (K:((b.kind != .early)&&Bh n d)=true)
  (hm:∀ad x,mk ad≠ .extern x) (he:B7 P f (Extern.Race.marked mk)) (ae:evs L args.toList=some vs) (ag:vs[0]? =some (.pointer (some ad)))
  (h:JL (A1 P (Fam.CF p)) (Stop P F q) b n (Ax L d (.tuple #[])) ds (.inRegion ops rest::k) cs (Fam.IZ p s)):
  JL (A1 P (Fam.CF p)) (Stop P F p) b n L ds (.inRegion ops (i::rest)::k) cs s:=λT O=>by
 simp only [Bool.and_eq_true] at K
 obtain⟨fn,ah,ai,hb,aj,he⟩:=he.h
 refine(A1 P _).stop (Ij Y rfl rfl Z (λe=>absurd e aa) λv wt sm v' wt' sm' es al V=>?_)
 rw [ab] at V;cases V
 refine⟨_,λw ak=>?_,rfl,h _ (O.put K.2 _)⟩
 rw [BI U,BI U,stepG_markAt (a:=⟨T,ds⟩) mk hm ac (Cb O hw) (by simpa using K.1) rfl ah ai hb aj he (ad:=ad) (by rw [Js O ae];simpa using ag),Kw ak,Ec]
 rfl
end
end
end Pal
namespace Pal
open Go Go.Conc
section
variable {E H:LH}{S:List Seg}{j l:Nat}{o o':Obj}
theorem J2(ae:An E H S)(V:S[j]? =some [(l,o)])(o':Obj):(Ak E H S).upd l o'=Ak E H (S.set j [(l,o')])/\An E H (S.set j [(l,o')]):=by
 obtain⟨K,Y⟩:=Gx ae V;have U:=Nd.iff.1 Y;have Z:E l=none:=(U.2 (l,o) (by simp)).1;have ag:H l=none:=(U.2 (l,o) (by simp)).2;have aa:Nd E H (S.set j []).flatten:=JR.Nd.left Y;have ah:∀q∈(S.set j []).flatten,q.1≠l:=λq O e=>by
  have:=U.1;rw [List.map_append,List.nodup_append] at this;exact this.2.2 q.1 (List.mem_map_of_mem O) l (by simp) e
 have ab:Bi (S.set j []).flatten H l=none:=by
  have key:∀(B:List (Nat×Obj)),(∀q∈B,q.1≠l)->Bi B H l=none:=by
   intro B
   induction B with
   | nil=>intro _;exact ag
   | cons q B ai=>
    intro O;obtain⟨c,aj⟩:=q;have ac:l≠c:=λe=>O (c,aj) (by simp) e.symm;have K:=ai λq' ak=>O q' (List.mem_cons_of_mem _ ak);simp only [Bi]
    first
    | rw [if_neg ac];exact K
    | rw [if_neg (Ne.symm ac)];exact K
  exact key _ ah
 have f1:=JZ (E:=E) (H:=H) (B:=(S.set j []).flatten) (r:=l) Z ab o aa;have f2:=JZ (E:=E) (H:=H) (B:=(S.set j []).flatten) (r:=l) Z ab o' aa;obtain⟨al,g2⟩:=Io (seg:= [(l,o)]) V f2.1;refine⟨?_,g2⟩;rw [K,← al,← f1.2,← f2.2];unfold St.upd;congr 1;funext x;by_cases am:x=l <;> simp [am]
end
section
variable {P:Program}{J:Judge P}{Q:Gs_}{b:Frame}{n:Nat}{L:Env}{ds:Ld_}{k:Li_}{cs:Lf_}{E H:LH}{S:List Seg}{j l:Nat}
theorem Judge.EV{α:Type}{g:Goroutine}{g':α->Goroutine}{s:St}(x:Sem α)(Z:s.q=false)(aa:g.status= .running)
  (ab:∀w a w',x.run P w= .ok a w'->∃es,stepG P J.main g w= .go (g' a) w' es/\∀e∈es,e∈x.events P w #[])
  (h:lp P x s (λa s'=>J.ok Q (g' a) s') (λ_ _=>False)):J.ok Q g s:=by
 refine J.step ⟨aa,λw f=>?_,λe=>by subst e;cases Z⟩;obtain⟨s',O,U,V,K⟩:=Mo _ h f;cases Y:x.run P w with
 | ok a w'=>
  rw [Y] at O U V K;simp only [Kc] at O U V;obtain⟨es,he,hm⟩:=ab w a w' Y;exact⟨g' a,s',w',es,he,K,O,U,λe ac=>V e (hm e ac)⟩
 | halt a w'=>rw [Y] at K;exact K.elim
theorem Me{r:Loop}{s:St}{K:Loop->St->Prop}{X:Halt->St->Prop}(h:s.get l=some (.loop r))(k:K r s):lp P (Instr.getLoop l) s K X:=by
 unfold Instr.getLoop getObj;simp only [bind,Sem.bind,lp];exact⟨_,h,rfl,k⟩
theorem TX{r:Loop}{T:Av_}(j:Nat)(K:An E H S)(O:S[j]? =some [(l,.loop r)])(U:(r.state== .busy)=false)(V:r.pending=none)
  (h:An E H (S.set j [(l,.loop {r with state:= .exhausted})])->J.ok Q (G (fr b T ds k) cs) (Ak E H (S.set j [(l,.loop {r with state:= .exhausted})]))):
  J.ok Q (G (fr b T ds (.endRangeFunc l::k)) cs) (Ak E H S):=by
 obtain⟨Y,Z⟩:=J2 K O (.loop {r with state:= .exhausted});have aa:lp P (Instr.endLoop l) (Ak E H S) (λa s'=>a=none/\s'=Ak E H (S.set j [(l,.loop {r with state:= .exhausted})])) (λ_ _=>False):=by
  unfold Instr.endLoop;refine Av _ _ (Me (DW (i:=0) K O rfl) ?_);rw [if_neg (by rw [U];simp)];have ab:(Ak E H S).H l=some (.loop r):=by
   have:=DW (i:=0) K O rfl;have ac:E l=none:=MP K O;unfold St.get at this;rw [show(Ak E H S).E l=none from ac] at this;exact this
  simp only [bind,Sem.bind,lp,setObj,pure];refine⟨⟨_,ab,rfl⟩,rfl,V,?_⟩;exact Y
 refine Judge.EV (g':=λae=>G (fr b T ds ((ae.map Item.code).toList++k)) cs) (Instr.endLoop l) rfl rfl (λw a w' ag=>?_) (Ej _ aa (λa s' ⟨ah,ai⟩=>by subst ah ai;exact h Z) (λ_ _ h=>h));refine⟨seen P b.fn ((Instr.endLoop l).events P w #[])++ #[],?_,λe he=>?_⟩
 ·simp [G,stepG,stepG.exec,fr,ag,GStep.after]
 ·exact mem_seen (by simpa using he)
def S5(l:Nat)(f:FuncId):Frame:={(default:Frame) with fn:=f,kind:= .normal,roundOf:=some l}
theorem FT.yield{r:Loop}{t:Tmp}{v:Value}{B:Seg}{R:Value->LH->Seg->Prop}{i:Nat}(K:B[i]? =some (l,.loop r))(O:r.params= #[t])
  (h:∀(Q:Gs_) (U:Frame) (cs:Lf_) (H:LH),An E H [B]->(∀w E' S' B',Le E E'->S'.flatten=B'->R w E' B'->An E' H S'->J.ok Q (G (U.finish w) cs) (Ak E' H S'))->
   J.ok Q (G (fr (S5 l r.fn) (r.tmps.setIfInBounds t v) [] [.code r.assign,.beginRound,.code r.body]) (U::cs)) (Ak E H [B])):
  FT J (.func (.yield l) #[] #[]) [v] E B R:=λH V Q c cs Y=>by
 have Z:(mk E H B).get l=some (.loop r):=N5 V K
 simp only [Deferred.ofValue,bind,Sem.bind,pure,invoke]
 unfold Instr.yield
 refine Av _ _ (Me Z ?_)
 have aa:¬((#[]:Av_)++ [v].toArray).size≠r.params.size:=by rw [O];simp
 rw [if_neg aa];have e2:((r.params.zip ((#[]:Av_)++ [v].toArray)).foldl (λtmps (t,a)=>tmps.setIfInBounds t a) r.tmps)=r.tmps.setIfInBounds t v:=by rw [O];simp [Array.zip,Array.zipWith,Array.zipWithMAux]
 simp only [lp,pure];have ab:mk E H B=Ak E H [B]:=by unfold Ak;simp
 rw [e2,ab];exact h Q c cs H (by unfold An;simpa using V) λw E' S' B' hle K ac ae=>by
  subst K;exact Y w _ ⟨E',S'.flatten,hle,ac,ae,rfl⟩
theorem JL.beginRound{r:Loop}(j:Nat)(U:b.roundOf=some l)(V:b.kind= .normal)(K:An E H S)(O:S[j]? =some [(l,.loop r)])(Y:r.state= .ready)
  (h:An E H (S.set j [(l,.loop {r with state:= .busy})])->JL J Q b n L ds k cs (Ak E H (S.set j [(l,.loop {r with state:= .busy})]))):
  JL J Q b n L ds (.beginRound::k) cs (Ak E H S):=λT Z=>by
 obtain⟨aa,ab⟩:=J2 K O (.loop {r with state:= .busy})
 have ac:lp P (Instr.beginRound l) (Ak E H S) (λ_ s'=>s'=Ak E H (S.set j [(l,.loop {r with state:= .busy})])) (λ_ _=>False):=by
  unfold Instr.beginRound;refine Av _ _ (Me (DW (i:=0) K O rfl) ?_);have ae:(Ak E H S).H l=some (.loop r):=by
   have:=DW (i:=0) K O rfl;have ag:E l=none:=MP K O;unfold St.get at this;rw [show(Ak E H S).E l=none from ag] at this;exact this
  simp only [bind,Sem.bind,lp,setObj,pure,Y];exact⟨⟨_,ae,rfl⟩,rfl,aa⟩
 refine Judge.EV (g':=λ_=>G (fr b T ds k) cs) (Instr.beginRound l) rfl rfl (λw a w' ah=>?_) (Ej _ ac (λa s' ai=>by subst ai;exact h ab T Z) (λ_ _ h=>h));refine⟨seen P b.fn ((Instr.beginRound l).events P w #[])++ #[],?_,λe he=>?_⟩
 ·simp [G,stepG,stepG.exec,fr,stepG.apply,U,V,ah,GStep.after,Frame.finish]
 ·exact mem_seen (by simpa using he)
theorem Jv{o:Obj}{seg:Seg}(K:An E H S)(O:S[j]? =some ((l,o)::seg)):(Ak E H S).H l=some o:=by
 have:=DW (i:=0) K O rfl;have U:E l=none:=MP K O;unfold St.get at this;rw [show(Ak E H S).E l=none from U] at this;exact this
theorem JL.endRound{r:Loop}{c:Frame}(j:Nat)(U:b.roundOf=some l)(V:b.kind= .normal)(K:An E H S)(O:S[j]? =some [(l,.loop r)])
  (h:An E H (S.set j [(l,.loop {r with state:= .ready,pending:=none})])->J.ok Q (G (c.finish (.bool true)) cs) (Ak E H (S.set j [(l,.loop {r with state:= .ready,pending:=none})]))):
  JL J Q b n L [] [] (c::cs) (Ak E H S):=λT ag=>by
 obtain⟨Y,Z⟩:=J2 K O (.loop {r with state:= .ready,pending:=none})
 have aa:lp P (Instr.endRound l none) (Ak E H S) (λa s'=>a= .bool true/\s'=Ak E H (S.set j [(l,.loop {r with state:= .ready,pending:=none})])) (λ_ _=>False):=by
  unfold Instr.endRound;refine Av _ _ (Me (DW (i:=0) K O rfl) ?_);simp only [bind,Sem.bind,lp,setObj,pure];exact⟨⟨_,Jv K O,rfl⟩,rfl,rfl,Y⟩
 refine Judge.EV (g':=λv=>G (c.finish v) cs) (Instr.endRound l none) rfl rfl (λw a w' ab=>?_) (Ej _ aa (λa s' ⟨ac,ae⟩=>by subst ac ae;exact h Z) (λ_ _ h=>h));refine⟨seen P b.fn ((Instr.endRound l none).events P w #[])++ #[],?_,λe he=>?_⟩
 ·simp [G,stepG,stepG.exec,fr,U,V,ab,GStep.after,doReturn]
 ·exact mem_seen (by simpa using he)
theorem JL.rangeFunc{x:Operand}{params:Array Tmp}{as O:Code}{f:FuncId}{caps:Lv_}(ag:b.roundOf=none)(ah:b.kind≠ .early)(aa:ev L x=some (.func (.func f) #[] caps.toArray))(hb:DI P f=true)(ai:An E H S)
  (h:∀K l T,Has n L T->An E H (S++ [[(K,.deferred (some []))]]++ [[(l,.loop ⟨.ready,none,b.fn,T,params,as,O,K⟩)]])->
   J.ok Q (G (Frame.enter P f (.func (.yield l) #[] #[]::caps).toArray .normal) (fr b T (⟨.collected K,#[]⟩::ds) (.inRangeFunc l::k)::cs)) (Ak E H (S++ [[(K,.deferred (some []))]]++ [[(l,.loop ⟨.ready,none,b.fn,T,params,as,O,K⟩)]]))):
  JL J Q b n L ds (.code (.rangeFunc x params as O)::k) cs (Ak E H S):=λT ab=>by
 have aj:lp P (Instr.enterLoop b.fn T params as O b.roundOf) (Ak E H S) (λq s'=>∃K,q.2= [⟨.collected K,#[]⟩]/\An E H (S++ [[(K,.deferred (some []))]]++ [[(q.1,.loop ⟨.ready,none,b.fn,T,params,as,O,K⟩)]])/\s'=Ak E H (S++ [[(K,.deferred (some []))]]++ [[(q.1,.loop ⟨.ready,none,b.fn,T,params,as,O,K⟩)]])) (λ_ _=>False):=by
  unfold Instr.enterLoop;rw [ag];simp only [newObj,bind,Sem.bind,lp,pure];refine⟨rfl,λK V Y=>?_⟩;obtain⟨Z,ak⟩:=JZ V Y (.deferred (some [])) ai;obtain⟨al,p2⟩:=EX Z;have am:(Ak E H S).upd K (.deferred (some []))=Ak E H (S++ [[(K,.deferred (some []))]]):=by rw [← al,← ak];rfl
  rw [am];refine⟨rfl,λl an ao=>?_⟩;obtain⟨ap,aq⟩:=JZ an ao (.loop ⟨.ready,none,b.fn,T,params,as,O,K⟩) p2;obtain⟨p3,p4⟩:=EX ap;exact⟨K,rfl,p4,by rw [← p3,← aq];rfl⟩
 refine Judge.EV (g':=λq=>G (Frame.enter P f (.func (.yield q.1) #[] #[]::caps).toArray .normal) (fr b T (q.2++ds) (.inRangeFunc q.1::k)::cs)) (Instr.enterLoop b.fn T params as O b.roundOf) rfl rfl (λw a w' ar=>?_) (Ej _ aj (λa s' ⟨K,V,Y,Z⟩=>by subst Z;simp only [V];exact h K a.1 T ab Y) (λ_ _ h=>h));obtain⟨l,mk⟩:=a;have au:By T x= .func (.func f) #[] caps.toArray:=ab.ev aa;obtain⟨fn,U,av,ac⟩:∃fn,P.funcs[f]? =some fn/\(fn.name== "runtime.NumGoroutine")=false/\fn.body.isNone=false:=by
  unfold DI at hb;cases U:P.funcs[f]? with
  | none=>rw [U] at hb;cases hb
  | some fn=>
   rw [U] at hb;simp only [Bool.and_eq_true,Bool.not_eq_true'] at hb;exact⟨fn,rfl,hb.1,by cases aa:fn.body <;> simp_all⟩
 refine⟨seen P b.fn ((Instr.enterLoop b.fn T params as O b.roundOf).events P w #[])++ #[],?_,λe he=>?_⟩
 ·have ae:=QC (b:=b) (ds:=mk++ds) T (.inRangeFunc l::k);simp only [fr] at ae;have aw:¬fn.name= "runtime.NumGoroutine" :=by simpa using av
  have ay:¬fn.body=none:=by intro e;rw [e] at ac;cases ac
  have az:By T (.const (.func (.yield l) #[] #[]))= .func (.yield l) #[] #[]:=rfl;simp [G,stepG,stepG.exec,fr,ar,GStep.after,stepG.apply,resolve,ae,au,Deferred.ofValue,invoke,callFunc,U,aw,ay,ah,az,seen_none]
 ·exact mem_seen (by simpa using he)
theorem JO.collected{K:Nat}(j:Nat)(ag:b.roundOf=none)(O:An E H S)(U:S[j]? =some [(K,.deferred (some []))])
  (h:An E H (S.set j [(K,.deferred none)])->JO J Q b n L ds cs (Ak E H (S.set j [(K,.deferred none)]))):JO J Q b n L (⟨.collected K,#[]⟩::ds) cs (Ak E H S):=λT V todo=>by
 obtain⟨Y,Z⟩:=J2 O U (.deferred none)
 have aa:lp P (Instr.takeDeferred K) (Ak E H S) (λa s'=>a= []/\s'=Ak E H (S.set j [(K,.deferred none)])) (λ_ _=>False):=by
  unfold Instr.takeDeferred getObj;simp only [bind,Sem.bind,lp,setObj,pure];exact⟨_,DW (i:=0) O U rfl,rfl,⟨_,Jv O U,rfl⟩,rfl,rfl,Y⟩
 refine Judge.EV (g':=λl=>G (Em b T (l++ds) todo) cs) (Instr.takeDeferred K) rfl rfl (λw a w' ab=>?_) (Ej _ aa (λa s' ⟨ac,ae⟩=>by subst ac ae;exact h Z T V todo) (λ_ _ h=>h));refine⟨seen P b.fn ((Instr.takeDeferred K).events P w #[])++ #[],?_,λe he=>?_⟩
 ·simp [G,stepG,unwind,Em,ab,GStep.after]
 ·exact mem_seen (by simpa using he)
def Ka(f:FuncId)(args caps:Av_):Deferred:={target:= .fn (.func f) caps,args:=args}
theorem JO.OE{f:FuncId}{fn:Func}{c:Code}{vs caps:Lv_}(ae:b.roundOf=none)(O:P.funcs[f]? =some fn)(V:(fn.name== "runtime.NumGoroutine")=false)(hb:fn.body=some c)(Y:(vs++caps).length<=fn.ntmps){s:St}
  (h:∀T,Has n L T->∀todo,JL J Q (baseD f) fn.ntmps (FY 0 (vs++caps)) [] [.code c] (Em b T ds todo::cs) s):JO J Q b n L (Ka f vs.toArray caps.toArray::ds) cs s:=λT Z todo=>by
 have aa:¬fn.name= "runtime.NumGoroutine" :=by simpa using V
 refine Judge.Db rfl (λw=>?_) (h T Z todo ((vs++caps).toArray++Array.replicate (fn.ntmps - (vs++caps).length) undef) ⟨by simp;simp at Y;omega,λt v ab=>?_⟩)
 ·rw [BI (b:=baseD f) rfl];have:=enter_atD (P:=P) (vs++caps).toArray O hb;simp only [List.size_toArray] at this;rw [← this];simp [G,stepG,unwind,callDeferred,Em,Ka,invoke,callFunc,O,aa,hb,GStep.after,seen_none]
 ·obtain⟨_,K⟩:=I6 ab;have ac:t<(vs++caps).length:=by
   rcases Nat.lt_or_ge t (vs++caps).length with U | U
   ·exact U
   ·simp only [Nat.sub_zero] at K;have:=(List.getElem?_eq_some_iff.1 K).1;omega
  rw [Array.getD_eq_getD_getElem?,Array.getElem?_append_left (by simpa using ac)];simp only [Nat.sub_zero] at K;rw [List.getElem?_toArray,K];rfl
theorem UM{ops:Ao_}{i:Nat}{rest:List Nat}{d:Option Tmp}{x:Operand}{f:FuncId}{caps:Lv_}{args:Array Operand}{ats:Array TypeId}{ty:TypeId}{p:String}{af:Ae_}{g:On_}{vs:Lv_}{s:St}
  (U:ops[i]? =some ⟨d,.defer ⟨.value x,args,ats⟩,ty,p,af,g⟩) (V:b.roundOf=none) (hw:AT L ops ⟨d,.defer ⟨.value x,args,ats⟩,ty,p,af,g⟩=some true) (O:((b.kind != .early)&&Bh n d)=true)
  (Y:ev L x=some (.func (.func f) #[] caps.toArray)) (Z:evs L args.toList=some vs) (h:JL J Q b n (Ax L d undef) (Ka f vs.toArray caps.toArray::ds) (.inRegion ops rest::k) cs s):
  JL J Q b n L ds (.inRegion ops (i::rest)::k) cs s:=λT K=>by
 simp only [Bool.and_eq_true] at O
 have aa:args.map (By T)=vs.toArray:=by
  rw [← Gd K.FW Z];apply Array.ext';simp
 refine Judge.oper U (Cb K hw) (by simpa using O.1) (.inl V) ?_;have hd:execOp (By T) ⟨d,.defer ⟨.value x,args,ats⟩,ty,p,af,g⟩= .pure (.defer (Ka f vs.toArray caps.toArray)):=by
  simp only [execOp,resolve,bind,Sem.bind,Deferred.ofValue,K.ev Y,pure,Ka];rw [aa];simp
 rw [hd];exact h _ (K.put O.2 undef)
end
end Pal
namespace Pal
open Go Go.Conc
section
variable {P:Program}{s:St}{ρ:Operand->Value}{x y z:Operand}{d:Option Tmp}{t u ty e:TypeId}{p:String}{af:Ae_}{g:On_}{a:Option Addr}{l c:Nat}
theorem Mf(K:P.underlying t=some (.slice e))(O:ρ x= .slice a l c)(U:ρ (.const (.slice none 0 0))= .slice none 0 0):Yl P ⟨d,.binOp .eql t x (.const (.slice none 0 0)) u,ty,p,af,g⟩ ρ s (.bool a.isNone):=by
 refine FL (sm:=do eqGuard .eql t x (.const (.slice none 0 0)) (ρ x) (ρ (.const (.slice none 0 0)));binOp .eql t (ρ x) (ρ (.const (.slice none 0 0)))) rfl ?_
 rw [O,U];have V:lp P (eqGuard .eql t x (.const (.slice none 0 0)) (.slice a l c) (.slice none 0 0)) s (λ_ s'=>s'=s) (λ_ _=>False):=by
  simp [eqGuard,lp,pure]
 refine Av _ _ (Ej _ V ?_ (λ_ _ h=>h));rintro _ _ rfl;have hb:binOp .eql t (.slice a l c) (.slice none 0 0)=(do pure (.bool (← Op.equal t (.slice a l c) (.slice none 0 0)))):=rfl
 rw [hb];refine Av (x:=Op.equal t (.slice a l c) (.slice none 0 0)) _ ?_;unfold Op.equal Op.maxDepth Op.equalIn;refine Av _ _ (Cp K ?_);cases a <;> exact⟨rfl,rfl⟩
end
section
variable {P:Program}{J:Judge P}{Q:Gs_}{b:Frame}{n:Nat}{L:Env}{ds:Ld_}{k:Li_}{cs:Lf_}{s:St}
end
section
variable {P:Program}{J:Judge P}{Q:Gs_}{b:Frame}{n:Nat}{ds:Ld_}{ops:Ao_}{k:Li_}{cs:Lf_}{m fuel:Nat}{listed:Array Bool}{L:Env}{E H:LH}{S:List Seg}
variable {d:Option Tmp}{x y:Operand}{t u ty e:TypeId}{p:String}{af:Ae_}{g:On_}{v:Value}{i:Nat}
end
end Pal
namespace Pal
open Go Go.Conc
def Ix(P:Program)(d:Nat):GP:=λg _=>∃q,QuitsD P q d g
def KR(P:Program):Frame:={(default:Frame) with fn:=P.funcs.size,defers:= [],mode:= .panicking [goexitEntry]}
section
variable {P:Program}{F:Fam}{J:Judge P}{Q:GP}{n:Nat}{L L':Env}{ds:Ld_}{k:Li_}{cs:Lf_}{s s':St}{b:Frame}{main:Bool}
theorem Lv.quits{d:Nat}:∀{m:Nat} {g:Goroutine},Lv P (Ix P d) m g->∃q,QuitsD P q d g
 | 0,_,h=>h
 | m+1,_,h=>by
  rcases h with h | ⟨K,g',O,h⟩
  ·exact h
  ·obtain⟨q,U⟩:=h.quits;exact⟨q+1,.ctl K O U⟩
theorem NS{d:Nat}{g:Goroutine}(h:(HP P).ok (Ix P d) g .quiet):∃q,QuitsD P q d g:=by
 obtain⟨m,hm⟩:=h rfl;exact hm.quits
theorem Uf:(HP P).ok (Ix P 0) (G (KR P) []) .quiet:=by
 refine Judge.Db (g':={frame:=KR P,callers:= [],status:= .finished,dying:=none}) rfl (λw=>?_) ((HP P).stop ⟨0,rfl,rfl⟩);have K:(default:Frame).todo= []:=rfl;have O:∀(m:FrameMode),Frame.catches P {fn:=P.funcs.size,tmps:=(default:Frame).tmps,todo:= [],defers:= [],mode:=m,kind:=(default:Frame).kind,roundOf:=(default:Frame).roundOf}=false:=λm=>by simp [Frame.catches]
 simp [G,stepG,unwind,KR,goexitEntry,K,O]
theorem QQ{ops:Ao_}{i:Nat}{rest:List Nat}{d:Option Tmp}{f:FuncId}{args:Array Operand}{ats:Array TypeId}{ty:TypeId}{pp:String}{af:Ae_}{g:On_}{T:Av_}{e:Av_->Sem Value}
  (K:ops[i]? =some ⟨d,.call ⟨.value (.func f),args,ats⟩,ty,pp,af,g⟩) (he:B7 P f e):mayWake P (G (fr b T ds (.inRegion ops (i::rest)::k)) cs)=true:=by
 obtain⟨fn,O,_,hb,_⟩:=he.h;have U:fn.body.isSome=false:=by cases h:fn.body <;> simp_all
 simp [mayWake,G,fr,K,Frame.eval,O,U]
theorem Vs{v wt:Nat}(K:1<=v)(O:v<2147483648)(U:wt<=1):IntKind.u64.wrap (Fam.word v wt+18446744069414584320)=Fam.word (v - 1) wt:=by
 simp only [Fam.word,Fam.KK,IntKind.wrap,IntKind.bits,IntKind.signed];simp;omega
theorem VF{v:Nat}(h:v<2147483647):IntKind.u64.wrap (Fam.word v 0+4294967296)=Fam.word (v+1) 0:=by
 simp only [Fam.word,Fam.KK,IntKind.wrap,IntKind.bits,IntKind.signed];simp;omega
theorem word_inj{v v' wt:Nat}(h:Fam.word v wt=Fam.word v' wt):v=v':=by
 simp only [Fam.word,Fam.KK] at h;omega
section
variable {ops:Ao_}{i:Nat}{rest:List Nat}{d:Option Tmp}{f:FuncId}{x y z:Operand}{ats:Array TypeId}{ty:TypeId}{pp:String}{af:Ae_}{g:On_}{p q:Ph}
theorem Wi(aa:ops[i]? =some ⟨d,.call ⟨.value (.func f),#[x,y],ats⟩,ty,pp,af,g⟩)(Y:b.roundOf=none)(hw:AT L ops ⟨d,.call ⟨.value (.func f),#[x,y],ats⟩,ty,pp,af,g⟩=some true)(O:((b.kind != .early)&&Bh n d)=true)
  (he:B7 P f (Extern.Atomic.update (Op.intArith .add) .u64 true)) (ab:ev L x=some (.pointer (some F.sA))) (ac:ev L y=some (.int .u64 18446744069414584320))
  (ae:JL (A1 P false) (Stop P F .GB) b n (Ax L d (.int .u64 (Fam.word 0 1))) ds (.inRegion ops rest::k) cs .quiet)
  (ag:∀v wt:Nat,v<2147483647->wt<=1->¬(v=0/\wt=1)->JL (HP P) (Ix P 1) b n (Ax L d (.int .u64 (Fam.word v wt))) ds (.inRegion ops rest::k) cs .quiet):
  JL (A1 P false) (Stop P F .G2) b n L ds (.inRegion ops (i::rest)::k) cs .quiet:=λT K=>by
 simp only [Bool.and_eq_true] at O
 obtain⟨fn,ah,ai,hb,aj,he⟩:=he.h
 refine(A1 P _).stop (Ij rfl rfl rfl rfl (by simp) λv wt sm v' wt' sm' es ak U=>?_)
 simp only [Fam.act] at U
 split at U
 ·rename_i V
  cases U;refine⟨G (fr b (CM T d (.int .u64 (Fam.word (v - 1) wt))) ds (.inRegion ops rest::k)) cs,λw Z=>?_,rfl,?_⟩
  ·obtain⟨c1,_,c3,_⟩:=Il Z;rw [BI Y,BI Y];show stepG P false _ w=_;rw [stepG_add_atomic (a:=⟨T,ds⟩) aa (Cb K hw) (by simpa using O.1) rfl ah ai hb aj .u64 he (by rw [Ey];exact K.ev ab) (by rw [Ey];exact K.ev ac) c1 c3,Vs V.1 V.2.1 V.2.2,Mc Z,Ec]
   rfl
  ·split
   ·rename_i e;obtain⟨rfl,rfl⟩:=e;exact ae _ (K.put O.2 _)
   ·rename_i e;exact NS (ag (v - 1) wt (by omega) V.2.2 (by omega) _ (K.put O.2 _))
 ·cases U
theorem Wc{j:Nat}(aa:s.q=false)(ab:ops[i]? =some ⟨d,.call ⟨.value (.func f),#[x,y],ats⟩,ty,pp,af,g⟩)(Y:b.roundOf=none)(hw:AT L ops ⟨d,.call ⟨.value (.func f),#[x,y],ats⟩,ty,pp,af,g⟩=some true)(O:((b.kind != .early)&&Bh n d)=true)
  (he:B7 P f (Extern.Atomic.update (Op.intArith .add) .u64 true)) (ac:ev L x=some (.pointer (some F.sA))) (ae:ev L y=some (.int .u64 4294967296))
  (ag:JL (A1 P true) (Stop P F (.Ic j)) b n (Ax L d (.int .u64 (Fam.word 1 0))) ds (.inRegion ops rest::k) cs s)
  (ah:∀v:Nat,1<=v->v<2147483647->JL (A1 P true) (Stop P F (.GG j)) b n (Ax L d (.int .u64 (Fam.word (v+1) 0))) ds (.inRegion ops rest::k) cs s):
  JL (A1 P true) (Stop P F (.H5 j)) b n L ds (.inRegion ops (i::rest)::k) cs s:=λT K=>by
 simp only [Bool.and_eq_true] at O
 obtain⟨fn,ai,aj,hb,ak,he⟩:=he.h
 refine(A1 P _).stop (Ij rfl rfl rfl aa (by simp) λv wt sm v' wt' sm' es al U=>?_)
 simp only [Fam.act] at U
 split at U
 ·rename_i V
  obtain⟨V,rfl⟩:=V;cases U;refine⟨G (fr b (CM T d (.int .u64 (Fam.word (v+1) 0))) ds (.inRegion ops rest::k)) cs,λw Z=>?_,rfl,?_⟩
  ·obtain⟨c1,_,c3,_⟩:=Il Z;rw [BI Y,BI Y];show stepG P true _ w=_;rw [stepG_add_atomic (a:=⟨T,ds⟩) ab (Cb K hw) (by simpa using O.1) rfl ai aj hb ak .u64 he (by rw [Ey];exact K.ev ac) (by rw [Ey];exact K.ev ae) c1 c3,VF V,Mc Z,Ec]
   rfl
  ·split
   ·rename_i e;subst e;exact ag _ (K.put O.2 _)
   ·rename_i e;exact ah v (by omega) V _ (K.put O.2 _)
 ·cases U
theorem XS(ab:KD p=true)(ac:if Fam.CP p=true then s= .quiet else s.q=false)(ae:p≠ .Fb)(ag:Fam.IZ p s=s)(ah:∀v wt sm r,F.act p v wt sm=some r->r.1=(v,wt,sm)/\r.2.1= #[Fam.Ce F.sA])
  (ai:ops[i]? =some ⟨d,.call ⟨.value (.func f),#[x],ats⟩,ty,pp,af,g⟩) (U:b.roundOf=none) (hw:AT L ops ⟨d,.call ⟨.value (.func f),#[x],ats⟩,ty,pp,af,g⟩=some true) (K:((b.kind != .early)&&Bh n d)=true)
  (he:B7 P f (Extern.Atomic.loadT (.int .u64))) (aj:ev L x=some (.pointer (some F.sA)))
  (h:∀v wt sm r,F.act p v wt sm=some r->∃q,r.2.2= .ph q/\JL (A1 P (Fam.CF p)) (Stop P F q) b n (Ax L d (.int .u64 (Fam.word v wt))) ds (.inRegion ops rest::k) cs s):
  JL (A1 P (Fam.CF p)) (Stop P F p) b n L ds (.inRegion ops (i::rest)::k) cs s:=λT O=>by
 simp only [Bool.and_eq_true] at K
 obtain⟨fn,ak,al,hb,am,he⟩:=he.h
 refine(A1 P _).stop (Ij ab rfl rfl ac (λe=>absurd e ae) λv wt sm v' wt' sm' es ao V=>?_)
 obtain⟨Y,e2⟩:=ah _ _ _ _ V
 obtain⟨q,Z,an⟩:=h _ _ _ _ V
 simp only at Y e2 Z
 cases Y
 subst e2 Z
 refine⟨_,λw aa=>?_,rfl,by rw [ag];exact an _ (O.put K.2 _)⟩
 obtain⟨c1,_,_,_⟩:=Il aa
 rw [BI U,BI U,stepG_load_atomic (a:=⟨T,ds⟩) ai (Cb O hw) (by simpa using K.1) rfl ak al hb am .u64 he (by rw [Ey];exact O.ev aj) c1,Kw aa,Ec]
 rfl
theorem X4(Z:ops[i]? =some ⟨d,.call ⟨.value (.func f),#[x,y],ats⟩,ty,pp,af,g⟩)(V:b.roundOf=none)(hw:AT L ops ⟨d,.call ⟨.value (.func f),#[x,y],ats⟩,ty,pp,af,g⟩=some true)(U:((b.kind != .early)&&Bh n d)=true)
  (he:B7 P f Extern.Atomic.storeT) (aa:ev L x=some (.pointer (some F.sA))) (ab:ev L y=some (.int .u64 0))
  (h:JL (A1 P false) (Stop P F .Fb) b n (Ax L d (.tuple #[])) ds (.inRegion ops rest::k) cs .quiet):
  JL (A1 P false) (Stop P F .GW) b n L ds (.inRegion ops (i::rest)::k) cs .quiet:=λT K=>by
 simp only [Bool.and_eq_true] at U
 obtain⟨fn,ac,ae,hb,ag,he⟩:=he.h
 refine(A1 P _).stop (Ij rfl rfl rfl rfl (by simp) λv wt sm v' wt' sm' es aj O=>?_)
 simp only [Fam.act] at O
 split at O
 ·rename_i ah
  obtain⟨rfl,rfl⟩:=ah;cases O;refine⟨_,λw Y=>?_,rfl,h _ (K.put U.2 _)⟩;obtain⟨c1,_,c3,_⟩:=Il Y;have ai:(.int .u64 0:Value)= .int .u64 (Fam.word 0 0):=by simp [Fam.word]
  rw [BI V,BI V];show stepG P false _ w=_;rw [stepG_store_atomic (a:=⟨T,ds⟩) Z (Cb K hw) (by simpa using U.1) rfl ac ae hb ag he (by rw [Ey];exact K.ev aa) (by rw [Ey];exact K.ev ab) c1 c3,ai,Mc Y,Ec]
  rfl
 ·cases O
theorem XQ{m:Nat}(ai:s.q=false)(Z:ops[i]? =some ⟨d,.call ⟨.value (.func f),#[x,y,z],ats⟩,ty,pp,af,g⟩)(Y:b.roundOf=none)(hw:AT L ops ⟨d,.call ⟨.value (.func f),#[x,y,z],ats⟩,ty,pp,af,g⟩=some true)(U:((b.kind != .early)&&Bh n d)=true)
  (he:B7 P f (Extern.Atomic.casT (.int .u64))) (aa:ev L x=some (.pointer (some F.sA))) (ab:ev L y=some (.int .u64 (Fam.word m 0))) (ac:ev L z=some (.int .u64 (Fam.word m 1)))
  (aj:JL (A1 P true) (Stop P F .H7) b n (Ax L d (.bool true)) ds (.inRegion ops rest::k) cs s)
  (ak:JL (A1 P true) (Stop P F (.FN (m - 1))) b n (Ax L d (.bool false)) ds (.inRegion ops rest::k) cs s):
  JL (A1 P true) (Stop P F (.G1 m)) b n L ds (.inRegion ops (i::rest)::k) cs s:=λT K=>by
 simp only [Bool.and_eq_true] at U
 obtain⟨fn,ae,ag,hb,ah,he⟩:=he.h
 refine(A1 P _).stop (Ij rfl rfl rfl ai (by simp) λv wt sm v' wt' sm' es am O=>?_)
 simp only [Fam.act] at O
 split at O
 ·rename_i al
  obtain⟨_,_,rfl⟩:=al;split at O
  ·rename_i e;subst e;cases O;refine⟨_,λw V=>?_,rfl,aj _ (K.put U.2 _)⟩;obtain⟨c1,_,c3,_⟩:=Il V;rw [BI Y,BI Y];show stepG P true _ w=_;rw [stepG_cas_hit (a:=⟨T,ds⟩) Z (Cb K hw) (by simpa using U.1) rfl ae ag hb ah .u64 he (by rw [Ey];exact K.ev aa) (by rw [Ey];exact K.ev ab) (by rw [Ey];exact K.ev ac) c1 c3,Mc V,Ec]
   rfl
  ·rename_i e;cases O;refine⟨_,λw V=>?_,rfl,ak _ (K.put U.2 _)⟩;obtain⟨c1,_,c3,_⟩:=Il V;rw [BI Y,BI Y];show stepG P true _ w=_;rw [stepG_cas_miss (a:=⟨T,ds⟩) Z (Cb K hw) (by simpa using U.1) rfl ae ag hb ah .u64 he (by rw [Ey];exact K.ev aa) (by rw [Ey];exact K.ev ab) (by rw [Ey];exact K.ev ac) c1 c3 (λq=>e (word_inj q)),Kw V,Ec]
   rfl
 ·cases O
theorem VY{args:Array Operand}{vs:Lv_}(V:ops[i]? =some ⟨d,.call ⟨.value (.func f),args,ats⟩,ty,pp,af,g⟩)(Y:b.roundOf=none)(hw:AT L ops ⟨d,.call ⟨.value (.func f),args,ats⟩,ty,pp,af,g⟩=some true)(O:((b.kind != .early)&&Bh n d)=true)
  (he:B7 P f Extern.Sync.semrelease) (aa:evs L args.toList=some vs) (ab:vs[0]? =some (.pointer (some F.mA)))
  (h:JL (HP P) (Ix P 1) b n (Ax L d (.tuple #[])) ds (.inRegion ops rest::k) cs .quiet):
  JL (A1 P false) (Stop P F .Fb) b n L ds (.inRegion ops (i::rest)::k) cs .quiet:=λT U=>by
 simp only [Bool.and_eq_true] at O
 have ac:=QQ (P:=P) (b:=b) (ds:=ds) (k:=k) (cs:=cs) (rest:=rest) (T:=T) V he
 obtain⟨fn,ae,ag,hb,ah,he⟩:=he.h
 refine(A1 P _).stop (Ij rfl rfl rfl rfl (λ_=>ac) λv wt sm v' wt' sm' es ak K=>?_)
 simp only [Fam.act] at K
 split at K
 ·rename_i ai
  subst ai;cases K;refine⟨_,λw Z=>?_,rfl,NS (h _ (U.put O.2 _))⟩;obtain⟨_,c2,_,c4⟩:=Il Z;rw [BI Y,BI Y];show stepG P false _ w=_;rw [stepG_semrelease (a:=⟨T,ds⟩) V (Cb U hw) (by simpa using O.1) rfl ae ag hb ah he (ad:=F.mA) (by rw [Js U aa];simpa using ab) c2 c4,Ec];have aj:IntKind.u32.wrap (((0:Nat):Int)+1)=((1:Nat):Int):=by decide
  rw [aj,P7 Z]
 ·cases K
theorem Ug{args:Array Operand}{vs:Lv_}(ag:s.q=false)(Z:ops[i]? =some ⟨d,.call ⟨.value (.func f),args,ats⟩,ty,pp,af,g⟩)(V:b.roundOf=none)(hw:AT L ops ⟨d,.call ⟨.value (.func f),args,ats⟩,ty,pp,af,g⟩=some true)(Y:((b.kind != .early)&&Bh n d)=true)
  (he:B7 P f Extern.Sync.semacquire) (ah:evs L args.toList=some vs) (ai:vs[0]? =some (.pointer (some F.mA)))
  (h:JL (A1 P true) (Stop P F .GX) b n (Ax L d (.tuple #[])) ds (.inRegion ops rest::k) cs s):
  JL (A1 P true) (Stop P F .Fl) b n L ds (.inRegion ops (i::rest)::k) cs s:=λT K=>by
 simp only [Bool.and_eq_true] at Y
 obtain⟨fn,aa,ab,hb,ac,he⟩:=he.h
 have ae:(args.map (⟨T,ds⟩:Act).eval)[0]? =some (.pointer (some F.mA)):=by rw [Js K ah];simpa using ai
 refine(A1 P _).stop (GI.stop {
  run:=rfl,offers:=rfl,quiet:=(by simp [Fam.CP]),live:=λ_=>ag,act:=?_,Iv:=(by simp),EV:=?_,go:=(by simp),lk:=(by simp),Cz:=(by simp),store:=(by simp),fin:=(by simp)})
 ·intro v wt sm v' wt' sm' es al O;simp only [Fam.act] at O;split at O
  ·rename_i aj;subst aj;cases O;refine⟨_,λw U=>?_,rfl,h _ (K.put Y.2 _)⟩;obtain⟨_,c2,_,c4⟩:=Il U;rw [BI V,BI V];show stepG P true _ w=_;rw [stepG_semacquire (a:=⟨T,ds⟩) Z (Cb K hw) (by simpa using Y.1) rfl aa ab hb ac he (ad:=F.mA) ae c2 (by decide) c4,Ec];have ak:(((1:Nat):Int) - 1)=((0:Nat):Int):=by decide
   rw [ak,P7 U]
  ·cases O
 ·intro _ w v wt U;obtain⟨_,c2,_,c4⟩:=Il U;rw [BI V];exact stepG_semacquire_wait (a:=⟨T,ds⟩) Z (Cb K hw) rfl aa ab hb ac he (ad:=F.mA) ae c2
theorem R0{args:Array Operand}{vs:Lv_}(V:s.q=false)(Y:ops[i]? =some ⟨d,.call ⟨.value (.func f),args,ats⟩,ty,pp,af,g⟩)(U:b.roundOf=none)(hw:AT L ops ⟨d,.call ⟨.value (.func f),args,ats⟩,ty,pp,af,g⟩=some true)(K:((b.kind != .early)&&Bh n d)=true)
  (he:B7 P f (Extern.Race.marked .acquire)) (Z:evs L args.toList=some vs) (aa:vs[0]? =some (.pointer (some F.sA)))
  (h:∀E' f,Le s.E E'->E' F.fd=none->(∀b,E' b≠none->s.H b=none)->(∀k,k<F.n->F.msg k (f k) E')->∀T,Has n (Ax L d (.tuple #[])) T->F.fin (G (fr b T ds (.inRegion ops rest::k)) cs) ⟨E',F.Jf s.H f,false⟩):
  JL (A1 P true) (Stop P F .FZ) b n L ds (.inRegion ops (i::rest)::k) cs s:=λT O=>by
 simp only [Bool.and_eq_true] at K
 obtain⟨fn,ab,ac,hb,ae,he⟩:=he.h
 refine(A1 P _).stop (GI.stop {
  run:=rfl,offers:=rfl,quiet:=(by simp [Fam.CP]),live:=λ_=>V,act:=(by simp [Fam.act]),Iv:=(by simp),EV:=(by simp),go:=(by simp),lk:=(by simp),Cz:=(by simp),store:=(by simp),fin:=λ_=>?_})
 refine⟨_,λw=>?_,λE' f a1 ag ah ai=>h E' f a1 ag ah ai _ (O.put K.2 _)⟩
 rw [BI U,BI U,stepG_markAt (a:=⟨T,ds⟩) .acquire (by simp) Y (Cb O hw) (by simpa using K.1) rfl ab ac hb ae he (ad:=F.sA) (by rw [Js O Z];simpa using aa),Ec]
 rfl
end
end
end Pal
namespace Pal
open Go Go.Conc
section
variable {P:Program}{F:Fam}{J:Judge P}{Q:GP}{n:Nat}{L L':Env}{ds:Ld_}{k:Li_}{cs:Lf_}{s s':St}{b:Frame}{main:Bool}
variable {ops:Ao_}{i:Nat}{rest:List Nat}{d:Option Tmp}{f:FuncId}{x y z:Operand}{ats:Array TypeId}{ty t e:TypeId}{pp:String}{af:Ae_}{g:On_}{p q:Ph}
theorem Ks(T:Av_)(ds:Ld_):(⟨T,ds⟩:Act).eval=By T:=funext λx=>Ey T ds x
theorem V0{X:GP}{fn:Func}{c:Code}{vs:Lv_}{caps:Av_}{args:Av_}(O:P.funcs[f]? =some fn)(Y:(fn.name== "runtime.NumGoroutine")=false)(hb:fn.body=some c)(Z:args++caps=vs.toArray)(ae:vs.length<=fn.ntmps)
  (h:JL (A1 P false) X (baseD f) fn.ntmps (FY 0 vs) [] [.code c] [KR P] s):Way P false X (born P {target:= .fn (.func f) caps,args:=args}) s:=by
 have aa:¬fn.name= "runtime.NumGoroutine" :=by simpa using Y
 refine Judge.Db (J:=A1 P false) rfl (λw=>?_) (h (vs.toArray++Array.replicate (fn.ntmps - vs.length) undef) ⟨by simp;omega,λt v ab=>?_⟩)
 ·show stepG P false _ w=_;have U:=enter_atD (P:=P) vs.toArray O hb;rw [BI (b:=baseD f) rfl];simp only [List.size_toArray] at U;simp [G,born,stepG,unwind,callDeferred,invoke,callFunc,O,aa,hb,GStep.after,seen_none,Z,KR,U]
 ·obtain⟨_,K⟩:=I6 ab;have ac:t<vs.length:=by
   rcases Nat.lt_or_ge t vs.length with V | V
   ·exact V
   ·simp at K;have:=(List.getElem?_eq_some_iff.1 K).1;omega
  rw [Array.getD_eq_getD_getElem?,Array.getElem?_append_left (by simpa using ac)];simp at K;simp [K]
theorem W3{T:Av_}{args:Array Operand}{K:Go.Fn}{fi O:Av_}{as:Lv_}(U:Has n L T)(V:ev L x=some (.func K fi O))(Y:evs L args.toList=some as):
  execOp (By T) ⟨d,.go ⟨.value x,args,ats⟩,ty,pp,af,g⟩= .pure (.spawn {target:= .fn K O,args:=fi++as.toArray}):=by
 have Z:args.map (By T)=as.toArray:=by
  rw [← Gd U.FW Y];apply Array.ext';simp
 simp only [execOp,resolve,bind,Sem.bind,Deferred.ofValue,U.ev V,pure,Z]
theorem Xf{j:Nat}{args:Array Operand}{fi U:Av_}{as:Lv_}{V:FuncId}(aa:s.q=false)(ab:ops[i]? =some ⟨d,.go ⟨.value x,args,ats⟩,ty,pp,af,g⟩)(Y:b.roundOf=none)(hw:AT L ops ⟨d,.go ⟨.value x,args,ats⟩,ty,pp,af,g⟩=some true)(K:((b.kind != .early)&&Bh n d)=true)
  (ac:ev L x=some (.func (.func V) fi U)) (ae:evs L args.toList=some as)
  (ag:Way P false (Stop P F (F.start j)) (born P {target:= .fn (.func V) U,args:=fi++as.toArray}) ⟨s.E,λ_=>none,false⟩)
  (ah:JL (A1 P true) (Stop P F (F.Ew j)) b n (Ax L d undef) ds (.inRegion ops rest::k) cs s):
  JL (A1 P true) (Stop P F (.FE j)) b n L ds (.inRegion ops (i::rest)::k) cs s:=λT O=>by
 simp only [Bool.and_eq_true] at K
 have Z:=W3 (d:=d) (ats:=ats) (ty:=ty) (pp:=pp) (af:=af) (g:=g) O ac ae
 refine(A1 P _).stop (GI.stop {
  run:=rfl,offers:=rfl,quiet:=(by simp [Fam.CP]),live:=λ_=>aa,act:=(by simp [Fam.act]),Iv:=(by simp),EV:=(by simp),go:=λai e=>?_,lk:=(by simp),Cz:=(by simp),store:=(by simp),fin:=(by simp)})
 cases e
 refine⟨G (fr b (CM T d undef) ds (.inRegion ops rest::k)) cs,_,rfl,rfl,λw=>?_,ag,ah _ (O.put K.2 _)⟩
 rw [BI Y,BI Y,stepG_spawn (a:=⟨T,ds⟩) (w':=w) ab (Cb O hw) (by simpa using K.1) (by rw [Ks,Z];rfl) rfl,listed_none (by rw [Ks,Z];simp [Sem.events_pure']),Ec]
theorem JO.Rt{j:Nat}(V:s.q=false)(K:b.roundOf=none)(he:B7 P f (λ_=>do mark .enable;pure Extern.Race.none_))
  (h:JO (A1 P true) (Stop P F (.FE j)) b n L ds cs s):JO (A1 P true) (Stop P F (.GG j)) b n L (dcall f #[]::ds) cs s:=λT Y todo=>by
 obtain⟨fn,Z,aa,hb,ab,he⟩:=he.h
 refine(A1 P _).stop (Ij rfl rfl rfl V (by simp) λv wt sm v' wt' sm' es ae O=>?_)
 simp only [Fam.act] at O
 cases O
 refine⟨G (Em b T ds todo) cs,λw ac=>?_,rfl,h T Y todo⟩
 rw [Ky K,Ky K,Kw ac]
 exact stepG_unwind_entry (a:=⟨T,dcall f #[]::ds⟩) (v:= .tuple #[]) (evs:= #[Fam.CI .enable]) rfl Z aa hb ab he (by simp [Extern.Race.none_]) (by simp;rfl) (by
  intro x U
  simp at U
  subst U
  exact⟨rfl,λg h=>by cases h⟩)
theorem JO.MA(K:b.roundOf=none)(he:B7 P f (λ_=>do mark .enable;pure Extern.Race.none_))
  (h:JO (HP P) (Ix P 0) b n L ds cs .quiet):JO (HP P) (Ix P 1) b n L (dcall f #[]::ds) cs .quiet:=λT U todo=>by
 obtain⟨fn,V,Y,hb,Z,he⟩:=he.h
 refine(HP P).stop ?_
 obtain⟨q,O⟩:=NS (h T U todo)
 rw [Ky K] at O
 rw [Ky K]
 exact⟨q+1,QuitsD.unwind_mark (a:=⟨T,dcall f #[]::ds⟩) .enable rfl (by simp) rfl V Y hb Z he O⟩
end
end Pal
namespace Pal
open Go Go.Conc
def Tn:BinOp->Int->Int->Option Bool
 | .lss,m,m'=>some (decide (m<m'))
 | .leq,m,m'=>some (decide (m<=m'))
 | .gtr,m,m'=>some (decide (m'<m))
 | .geq,m,m'=>some (decide (m'<=m))
 | .eql,m,m'=>some (decide (m=m'))
 | .neq,m,m'=>some (decide (m≠m'))
 | _,_,_=>none
def Kf(L:Env):Op->Option Value
 | .move x=>ev L x
 | .assign x=>ev L x
 | .pick z x y=>match ev L z with
  | some (.bool true)=>ev L x
  | some (.bool false)=>ev L y
  | _=>none
 | .extract x i=>match ev L x with
  | some (.tuple vs)=>vs[i]?
  | _=>none
 | .nilCheck x=>match ev L x with
  | some (.pointer (some a))=>some (.pointer (some a))
  | _=>none
 | .binOp op _ x y _=>match ev L x with
  | some (.int kd m)=>match ev L y with
   | some (.int kd' m')=>if kd=kd' then(match Tn op m m' with | some t=>some (.bool t) | none=>none) else none
   | _=>none
  | _=>none
 | _=>none
theorem WR{P:Program}{s:St}{ρ:Operand->Value}{d:Option Tmp}{x y:Operand}{t u ty:TypeId}{p:String}{af:Ae_}{g:On_}{kd:IntKind}{m m':Int}(K:ρ x= .int kd m)(O:ρ y= .int kd m'):Yl P ⟨d,.binOp .neq t x y u,ty,p,af,g⟩ ρ s (.bool (decide (m≠m'))):=by
 have h:=Yl.neq (P:=P) (s:=s) (d:=d) (t:=t) (u:=u) (ty:=ty) (p:=p) (af:=af) (g:=g) K O;simpa using h
theorem My{P:Program}{L:Env}{ρ:Operand->Value}{s:St}{o:Oper}{v:Value}(K:EP L ρ)(h:Kf L o.op=some v):Yl P o ρ s v:=by
 obtain⟨d,op,ty,p,af,g⟩:=o;simp only at h;unfold Kf at h;split at h
 ·exact Yl.move (K _ _ h)
 ·exact Yl.assign (K _ _ h)
 ·split at h
  ·rename_i e;exact Lf (K _ _ e) (K _ _ h)
  ·rename_i e;exact UO (K _ _ e) (K _ _ h)
  ·cases h
 ·split at h
  ·rename_i e;exact Yl.extract (K _ _ e) h
  ·cases h
 ·split at h
  ·rename_i e;cases h;exact Yl.nilCheck (K _ _ e)
  ·cases h
 ·split at h
  ·rename_i O;split at h
   ·rename_i U;split at h
    ·rename_i e;subst e;split at h
     ·rename_i e;cases h;unfold Tn at e;split at e
      ·cases e;exact Yl.lss (K _ _ O) (K _ _ U)
      ·cases e;exact Yl.leq (K _ _ O) (K _ _ U)
      ·cases e;exact Yl.gtr (K _ _ O) (K _ _ U)
      ·cases e;exact Yl.geq (K _ _ O) (K _ _ U)
      ·cases e;exact Yl.eql (K _ _ O) (K _ _ U)
      ·cases e;exact WR (K _ _ O) (K _ _ U)
      ·cases e
     ·cases h
    ·cases h
   ·cases h
  ·cases h
 ·cases h
def IX:List Oper->Nat->Option Oper
 | [],_=>none
 | o::_,0=>some o
 | _::os,i+1=>IX os i
theorem KC:∀(os:List Oper) (i:Nat),IX os i=os[i]?
 | [],i=>by simp [IX]
 | _::_,0=>rfl
 | _::os,i+1=>by simp [IX,KC os i]
def Pt(b:Frame)(n:Nat)(L:Env):Li_->Option (Li_×Env)
 | .code (.seq x y)::k=>some (.code x:: .code y::k,L)
 | .code (.block i c)::k=>some (.code c:: .inBlock i::k,L)
 | .code (.scope c)::k=>some (.code c:: .inScope c::k,L)
 | .code .skip::k=>some (k,L)
 | .code (.exit i)::k=>match exitTo i k with
  | some k'=>some (k',L)
  | none=>none
 | .code (.cond c x y)::k=>match ev L c with
  | some (.bool true)=>some (.code x::k,L)
  | some (.bool false)=>some (.code y::k,L)
  | _=>none
 | .code (.region _ ops false)::k=>some (.inRegion ops (List.range ops.size)::k,L)
 | .inBlock _::k=>some (k,L)
 | .inScope _::k=>some (k,L)
 | .inRegion _ []::k=>some (k,L)
 | .inRegion ops (i::rest)::k=>match IX ops.toList i with
  | some ⟨d,op,ty,p,af,g⟩=>match AT L ops ⟨d,op,ty,p,af,g⟩ with
   | some true=>match BK b n ⟨d,op,ty,p,af,g⟩ with
    | true=>match Kf L op with
     | some v=>match d with
      | some d=>some (.inRegion ops rest::k,(d,v)::L)
      | none=>some (.inRegion ops rest::k,L)
     | none=>none
    | false=>none
   | some false=>match Bh n d with
    | true=>match d with
     | some d=>some (.inRegion ops rest::k,(d,undef)::L)
     | none=>some (.inRegion ops rest::k,L)
    | false=>none
   | none=>none
  | none=>none
 | _=>none
def MJ(b:Frame)(n:Nat):Nat->Li_->Env->Option (Li_×Env)
 | 0,k,L=>some (k,L)
 | m+1,k,L=>match Pt b n L k with
  | some (k',L')=>MJ b n m k' L'
  | none=>none
section
variable {P:Program}{J:Judge P}{Q:Gs_}{b:Frame}{n:Nat}{L L':Env}{ds:Ld_}{k k':Li_}{cs:Lf_}{s:St}
theorem W2(h:Pt b n L k=some (k',L'))(K:JL J Q b n L' ds k' cs s):JL J Q b n L ds k cs s:=by
 unfold Pt at h;split at h
 ·cases h;exact JL.seq K
 ·cases h;exact JL.block K
 ·cases h;exact JL.scope K
 ·cases h;exact JL.skip K
 ·split at h
  ·rename_i e;cases h;exact JL.exit e K
  ·cases h
 ·split at h
  ·rename_i e;cases h;exact I7 e K
  ·rename_i e;cases h;exact JW e K
  ·cases h
 ·cases h;exact JL.region K
 ·cases h;exact Gb K
 ·cases h;exact TT K
 ·cases h;exact JL.done K
 ·split at h
  ·rename_i d op ty p af g O;rw [KC,Array.getElem?_toList] at O;split at h
   ·rename_i hw;split at h
    ·rename_i U;split at h
     ·rename_i v Y;cases d with
      | none=>cases h;exact Ao O hw U (λρ V=>My V Y) K
      | some d=>cases h;exact Ao O hw U (λρ V=>My V Y) K
     ·cases h
    ·cases h
   ·rename_i hw;split at h
    ·rename_i U;cases d with
     | none=>cases h;exact HX O hw U K
     | some d=>cases h;exact HX O hw U K
    ·cases h
   ·cases h
  ·cases h
 ·cases h
theorem JL.go(m:Nat)(h:MJ b n m k L=some (k',L'))(K:JL J Q b n L' ds k' cs s):JL J Q b n L ds k cs s:=by
 induction m generalizing k L with
 | zero=>cases h;exact K
 | succ m O=>
  unfold MJ at h;split at h
  ·rename_i e;exact W2 e (O h)
  ·cases h
end
abbrev Ai(a o:Nat):Value:= .pointer (some ⟨a,o,none⟩)
abbrev sV{α:Type}(a:Option Addr)(l:List α)(c:Nat):Value:= .slice a l.length c
abbrev fV(n:Nat):Value:= .func (.func n) #[] #[]
abbrev nS:Value:= .slice none 0 0
abbrev AJ(r:Nat):Option Addr:=some ⟨r,0,none⟩
end Pal
namespace Pal
open Go Go.Conc Go.Conc.Lib
open Go.ConcR.Gen
theorem FV{P:Program}{t:TypeId}{n:Nat}(h:∀w,Sem.run P (Go.sizeOf t) w= .ok n w):Bm P t=some n:=by
 have K:=h default;unfold Bm;simp only [Go.sizeOf,typeInfo,bind,Sem.bind,program,Sem.run] at K;cases hi:P.info? t with
 | none=>rw [hi] at K;simp [stuck,Sem.run,Sem.bind] at K
 | some i=>
  rw [hi] at K;simp [pure,Sem.bind,Sem.run] at K;simp [K]
section
variable {P:Program}{L:WgLink}(H:WgLib P L)
include H
theorem L9:B7 P L.disable (λ_=>do mark .disable;pure Extern.Race.none_):=⟨⟨_,H.f_disable,x_disable_n L,x_disable_b L,x_disable_x L,x_disable_f L⟩⟩
theorem IG:B7 P L.enable (λ_=>do mark .enable;pure Extern.Race.none_):=⟨⟨_,H.f_enable,x_enable_n L,x_enable_b L,x_enable_x L,x_enable_f L⟩⟩
theorem PT:B7 P L.relMerge (Extern.Race.marked .releaseMerge):=⟨⟨_,H.f_relMerge,x_relMerge_n L,x_relMerge_b L,x_relMerge_x L,x_relMerge_f L⟩⟩
theorem NY:B7 P L.acquire (Extern.Race.marked .acquire):=⟨⟨_,H.f_acquire,x_acquire_n L,x_acquire_b L,x_acquire_x L,x_acquire_f L⟩⟩
theorem Vg:B7 P L.raceRead (Extern.Race.marked .read):=⟨⟨_,H.f_raceRead,x_raceRead_n L,x_raceRead_b L,x_raceRead_x L,x_raceRead_f L⟩⟩
theorem Uo:B7 P L.raceWrite (Extern.Race.marked .write):=⟨⟨_,H.f_raceWrite,x_raceWrite_n L,x_raceWrite_b L,x_raceWrite_x L,x_raceWrite_f L⟩⟩
theorem Q8:B7 P L.addU64 (Extern.Atomic.update (Op.intArith .add) .u64 true):=⟨⟨_,H.f_addU64,x_addU64_n L,x_addU64_b L,x_addU64_x L,x_addU64_f L⟩⟩
theorem Vk:B7 P L.loadU64 (Extern.Atomic.loadT (.int .u64)):=⟨⟨_,H.f_loadU64,x_loadU64_n L,x_loadU64_b L,x_loadU64_x L,x_loadU64_f L⟩⟩
theorem UN:B7 P L.storeU64 Extern.Atomic.storeT:=⟨⟨_,H.f_storeU64,x_storeU64_n L,x_storeU64_b L,x_storeU64_x L,x_storeU64_f L⟩⟩
theorem Wk:B7 P L.casU64 (Extern.Atomic.casT (.int .u64)):=⟨⟨_,H.f_casU64,x_casU64_n L,x_casU64_b L,x_casU64_x L,x_casU64_f L⟩⟩
theorem Ut:B7 P L.semrelease Extern.Sync.semrelease:=⟨⟨_,H.f_semrelease,x_semrelease_n L,x_semrelease_b L,x_semrelease_x L,x_semrelease_f L⟩⟩
theorem TQ:B7 P L.semacquire Extern.Sync.semacquire:=⟨⟨_,H.f_semacquire,x_semacquire_n L,x_semacquire_b L,x_semacquire_x L,x_semacquire_f L⟩⟩
theorem Qc:B7 P L.inBubble (λ_=>pure (.bool false)):=⟨⟨_,H.f_inBubble,x_inBubble_n L,x_inBubble_b L,x_inBubble_x L,x_inBubble_f L⟩⟩
end
section
variable {P:Program}{F:Fam}{J:Judge P}{Q:GP}{n:Nat}{L L':Env}{ds:Ld_}{k:Li_}{cs:Lf_}{s s':St}{b:Frame}{main:Bool}
variable {ops:Ao_}{i:Nat}{rest:List Nat}{d:Option Tmp}{f:FuncId}{x y z:Operand}{ats:Array TypeId}{ty t u e tw:TypeId}{pp:String}{af:Ae_}{g:On_}{p q:Ph}
theorem Yl.to{o:Oper}{ρ:Operand->Value}{v v':Value}(h:Yl P o ρ s v)(e:v=v'):Yl P o ρ s v':=e▸h
theorem Lm{ad:Addr}(ah:KD p=true)(ai:if Fam.CP p=true then s= .quiet else s.q=false)(aj:p≠ .Fb)(ak:∀v wt sm,F.act p v wt sm=some ((v,wt,sm),#[],.ph q))(al:Fam.IZ p s=s)
  (am:ops[i]? =some ⟨d,.convert t u x,ty,pp,af,g⟩) (U:b.roundOf=none) (hw:AT L ops ⟨d,.convert t u x,ty,pp,af,g⟩=some true) (K:((b.kind != .early)&&Bh n d)=true)
  (V:P.underlying t=some (.pointer tw)) (hu:P.underlying u=some .unsafePointer) (Y:(P.info? tw).map (λi=>decide (i.size=0))=some false) (an:ev L x=some (.pointer (some ad))) (hb:ad=F.sA∨ad=F.mA)
  (h:JL (A1 P (Fam.CF p)) (Stop P F q) b n (Ax L d (.pointer (some ad))) ds (.inRegion ops rest::k) cs s):
  JL (A1 P (Fam.CF p)) (Stop P F p) b n L ds (.inRegion ops (i::rest)::k) cs s:=λT O=>by
 simp only [Bool.and_eq_true] at K
 refine(A1 P _).stop (Ij ah rfl rfl ai (λe=>absurd e aj) λv wt sm v' wt' sm' es ap Z=>?_)
 rw [ak] at Z;cases Z
 refine⟨_,λw aa=>?_,rfl,by rw [al];exact h _ (O.put K.2 _)⟩
 obtain⟨ab,ac⟩:∃ab,w.cell? ad=some ab:=by
  obtain⟨c1,c2,_,_⟩:=Il aa;rcases hb with e | e <;> rw [e]
  ·exact⟨_,c1⟩
  ·exact⟨_,c2⟩
 have ae:=run_convert_to_unsafe (P:=P) (w:=w) V hu Y ac;have ao:=events_convert_to_unsafe (P:=P) (w:=w) V hu Y ac;have ag:execOp (⟨T,ds⟩:Act).eval ⟨d,.convert t u x,ty,pp,af,g⟩=(do pure (Next.value (← Go.convert t u (.pointer (some ad))))):=by
  rw [Ks];simp only [execOp,O.ev an]
 rw [BI U,BI U,stepG_value (a:=⟨T,ds⟩) (v:= .pointer (some ad)) (w':=w) am (Cb O hw) (by simpa using K.1) (by rw [ag];simp [ae,Result.andThen]),Kw aa,Ec];have e2:listed P b.fn ⟨T,ds⟩ ⟨d,.convert t u x,ty,pp,af,g⟩ w= #[]:=by
  unfold listed;rw [ag];simp [ae,ao,Result.evThen,seen_none]
 rw [e2]
end
end Pal
namespace Pal
open Go Go.Conc Go.Conc.Lib
open Go.ConcR.Gen
section
variable {P:Program}{F:Fam}{J:Judge P}{Q:GP}{n:Nat}{L L':Env}{ds:Ld_}{k:Li_}{cs:Lf_}{s s':St}{b:Frame}{main:Bool}
variable {ops:Ao_}{i:Nat}{rest:List Nat}{d:Option Tmp}{f:FuncId}{x y z:Operand}{args:Array Operand}{ats:Array TypeId}{ty t u e tw:TypeId}{pp:String}{af:Ae_}{g:On_}{p q:Ph}{vs:Lv_}
def Zb(P:Program)(b:Frame)(n:Nat)(L:Env)(d:Option Tmp)(ds:Ld_)(todo:Li_)(cs:Lf_)(U:Frame):Prop:=
 ∀(K:Judge P) (O:GP) (v:Value) (s':St),JL K O b n (Ax L d v) ds todo cs s'->K.ok O (G (U.finish v) cs) s'
theorem GR{fn:Func}{c:Code}(V:ops[i]? =some ⟨d,.call ⟨.value (.func f),args,ats⟩,ty,pp,af,g⟩)(hw:AT L ops ⟨d,.call ⟨.value (.func f),args,ats⟩,ty,pp,af,g⟩=some true)(O:((b.kind != .early)&&Bh n d)=true)
  (Y:P.funcs[f]? =some fn) (ab:(fn.name== "runtime.NumGoroutine")=false) (hb:fn.body=some c) (ac:evs L args.toList=some vs) (al:vs.length<=fn.ntmps)
  (h:∀Z:Frame,Zb P b n L d ds (.inRegion ops rest::k) cs Z->JL J Q (base f) fn.ntmps (FY 0 vs) [] [.code c] (Z::cs) s):
  JL J Q b n L ds (.inRegion ops (i::rest)::k) cs s:=λT U=>by
 simp only [Bool.and_eq_true] at O
 have ae:args.map (By T)=vs.toArray:=by
  rw [← Gd U.FW ac];apply Array.ext';simp
 refine Judge.oper V (Cb U hw) (by simpa using O.1) (.inr λc ag=>by cases ag) ?_;have ah:DI P f=true:=by unfold DI;rw [Y];simp [ab,hb]
 have hd:lp P (execOp (By T) ⟨d,.call ⟨.value (.func f),args,ats⟩,ty,pp,af,g⟩) s (upon J Q b T ds ops i rest k cs d) (KW J Q b T ds ops i rest k cs):=by
  simp only [execOp,resolve,bind,Sem.bind,Deferred.ofValue,By,pure,invoke];have e: #[]++args.map (By T)++ #[]=vs.toArray:=by rw [ae];simp
  rw [e];refine IF ah ?_;have he:Frame.enter P f vs.toArray .normal=fr (base f) (vs.toArray++Array.replicate (fn.ntmps - vs.length) undef) [] [.code c]:=by
   simp [Frame.enter,fr,Y,hb,base];rfl
  show J.ok Q (G (Frame.enter P f vs.toArray .normal) _) s;rw [he];refine h _ (λam an v s' ai=>?_) _ ⟨by simp;omega,λt v aj=>?_⟩
  ·rw [Gc (o:=⟨d,.call ⟨.value (.func f),args,ats⟩,ty,pp,af,g⟩) _ _ _ _ _ V];exact ai _ (U.put O.2 v)
  ·obtain⟨_,K⟩:=I6 aj;have ak:t<vs.length:=by
    rcases Nat.lt_or_ge t vs.length with aa | aa
    ·exact aa
    ·simp at K;have:=(List.getElem?_eq_some_iff.1 K).1;omega
   rw [Array.getD_eq_getD_getElem?,Array.getElem?_append_left (by simpa using ak)];simp at K;simp [K]
 exact hd
theorem Yl.ext{e:Av_->Sem Value}{v:Value}{ρ:Operand->Value}(he:B7 P f e)(O:args.map ρ=vs.toArray)(h:e vs.toArray= .pure v):Yl P ⟨d,.call ⟨.value (.func f),args,ats⟩,ty,pp,af,g⟩ ρ s v∨ρ (.func f)≠ .func (.func f) #[] #[]:=by
 by_cases K:ρ (.func f)= .func (.func f) #[] #[]
 ·left;obtain⟨fn,U,V,Y,Z,aa⟩:=he.h;unfold Yl;simp only [execOp,resolve,bind,Sem.bind,Deferred.ofValue,K,pure,invoke];have ab: #[]++args.map ρ++ #[]=vs.toArray:=by rw [O];simp
  rw [ab];have ac:fn.body=none:=by simpa using Y
  simp only [callFunc,bind,Sem.bind,program,lp,U,V,ac,Option.isNone_none,Bool.false_eq_true,if_false,if_true,mark,Z,aa,h,pure];exact⟨.inr ⟨f,rfl⟩,trivial,trivial⟩
 ·exact .inr K
theorem JL.ext{e:Av_->Sem Value}{v:Value}(O:ops[i]? =some ⟨d,.call ⟨.value (.func f),args,ats⟩,ty,pp,af,g⟩)(hw:AT L ops ⟨d,.call ⟨.value (.func f),args,ats⟩,ty,pp,af,g⟩=some true)(U:BK b n ⟨d,.call ⟨.value (.func f),args,ats⟩,ty,pp,af,g⟩=true)
  (he:B7 P f e) (V:evs L args.toList=some vs) (Y:e vs.toArray= .pure v) (h:JL J Q b n (Ax L d v) ds (.inRegion ops rest::k) cs s):JL J Q b n L ds (.inRegion ops (i::rest)::k) cs s:=
 Ao O hw U (λρ K=>by
  have Z:args.map ρ=vs.toArray:=by
   rw [← Gd K V]
   apply Array.ext';simp
  rcases Yl.ext (s:=s) (d:=d) (ats:=ats) (ty:=ty) (pp:=pp) (af:=af) (g:=g) he Z Y with q | q
  ·exact q
  ·exact absurd (K (.func f) _ rfl) q) h
end
section
variable {P:Program}{L:WgLink}(H:WgLib P L){F:Fam}{n:Nat}{M:Env}{ds:Ld_}{k:Li_}{cs:Lf_}{s:St}{b:Frame}
variable {ops:Ao_}{i:Nat}{rest:List Nat}{d:Option Tmp}{x y z:Operand}{ats:Array TypeId}{ty:TypeId}{pp:String}{af:Ae_}{g:On_}{p q:Ph}
include H
theorem Vp(K:ops[i]? =some ⟨d,.call ⟨.value (.func L.uAdd),#[x,y],ats⟩,ty,pp,af,g⟩)(hw:AT M ops ⟨d,.call ⟨.value (.func L.uAdd),#[x,y],ats⟩,ty,pp,af,g⟩=some true)(O:((b.kind != .early)&&Bh n d)=true)
  (U:ev M x=some (.pointer (some F.sA))) (V:ev M y=some (.int .u64 18446744069414584320))
  (Y:JL (A1 P false) (Stop P F .GB) b n (Ax M d (.int .u64 (Fam.word 0 1))) ds (.inRegion ops rest::k) cs .quiet)
  (Z:∀v wt:Nat,v<2147483647->wt<=1->¬(v=0/\wt=1)->JL (HP P) (Ix P 1) b n (Ax M d (.int .u64 (Fam.word v wt))) ds (.inRegion ops rest::k) cs .quiet):
  JL (A1 P false) (Stop P F .G2) b n M ds (.inRegion ops (i::rest)::k) cs .quiet:=by
 refine GR (vs:= [.pointer (some F.sA),.int .u64 18446744069414584320]) K hw O H.f_uAdd (nm_uAdd L) rfl (by simp [evs,U,V]) (Nat.le_of_ble_eq_true rfl) λae back=>JL.go 8 rfl (Ao rfl rfl rfl (λρ h=>Yl.fieldAddr H.underlying_tAU rfl (FV H.sizeOf_tU64) (h _ _ rfl)) ?_);refine JL.go 1 rfl (Wi rfl rfl rfl rfl (Q8 H) rfl rfl ?_ λv wt aa ab ac=>?_)
 ·refine Ao rfl rfl rfl (λρ h=>Yl.assign (h _ _ rfl)) (JL.done ?_);exact JL.ret rfl rfl (Bd.one H.f_uAdd rfl rfl) (back _ _ _ _ Y)
 ·refine Ao rfl rfl rfl (λρ h=>Yl.assign (h _ _ rfl)) (JL.done ?_);exact JL.ret rfl rfl (Bd.one H.f_uAdd rfl rfl) (back _ _ _ _ (Z v wt aa ab ac))
theorem Ve{j:Nat}(K:s.q=false)(O:ops[i]? =some ⟨d,.call ⟨.value (.func L.uAdd),#[x,y],ats⟩,ty,pp,af,g⟩)(hw:AT M ops ⟨d,.call ⟨.value (.func L.uAdd),#[x,y],ats⟩,ty,pp,af,g⟩=some true)(U:((b.kind != .early)&&Bh n d)=true)
  (V:ev M x=some (.pointer (some F.sA))) (Y:ev M y=some (.int .u64 4294967296))
  (Z:JL (A1 P true) (Stop P F (.Ic j)) b n (Ax M d (.int .u64 (Fam.word 1 0))) ds (.inRegion ops rest::k) cs s)
  (aa:∀v:Nat,1<=v->v<2147483647->JL (A1 P true) (Stop P F (.GG j)) b n (Ax M d (.int .u64 (Fam.word (v+1) 0))) ds (.inRegion ops rest::k) cs s):
  JL (A1 P true) (Stop P F (.H5 j)) b n M ds (.inRegion ops (i::rest)::k) cs s:=by
 refine GR (vs:= [.pointer (some F.sA),.int .u64 4294967296]) O hw U H.f_uAdd (nm_uAdd L) rfl (by simp [evs,V,Y]) (Nat.le_of_ble_eq_true rfl) λae back=>JL.go 8 rfl (Ao rfl rfl rfl (λρ h=>Yl.fieldAddr H.underlying_tAU rfl (FV H.sizeOf_tU64) (h _ _ rfl)) ?_);refine JL.go 1 rfl (Wc K rfl rfl rfl rfl (Q8 H) rfl rfl ?_ λv ab ac=>?_)
 ·refine Ao rfl rfl rfl (λρ h=>Yl.assign (h _ _ rfl)) (JL.done ?_);exact JL.ret rfl rfl (Bd.one H.f_uAdd rfl rfl) (back _ _ _ _ Z)
 ·refine Ao rfl rfl rfl (λρ h=>Yl.assign (h _ _ rfl)) (JL.done ?_);exact JL.ret rfl rfl (Bd.one H.f_uAdd rfl rfl) (back _ _ _ _ (aa v ab ac))
theorem JL.uLoad(K:KD p=true)(O:if Fam.CP p=true then s= .quiet else s.q=false)(U:p≠ .Fb)(V:Fam.IZ p s=s)(Y:∀v wt sm r,F.act p v wt sm=some r->r.1=(v,wt,sm)/\r.2.1= #[Fam.Ce F.sA])(Z:ops[i]? =some ⟨d,.call ⟨.value (.func L.uLoad),#[x],ats⟩,ty,pp,af,g⟩)(hw:AT M ops ⟨d,.call ⟨.value (.func L.uLoad),#[x],ats⟩,ty,pp,af,g⟩=some true)(aa:((b.kind != .early)&&Bh n d)=true)
  (ab:ev M x=some (.pointer (some F.sA)))
  (h:∀v wt sm r,F.act p v wt sm=some r->∃q,r.2.2= .ph q/\JL (A1 P (Fam.CF p)) (Stop P F q) b n (Ax M d (.int .u64 (Fam.word v wt))) ds (.inRegion ops rest::k) cs s):
  JL (A1 P (Fam.CF p)) (Stop P F p) b n M ds (.inRegion ops (i::rest)::k) cs s:=by
 refine GR (vs:= [.pointer (some F.sA)]) Z hw aa H.f_uLoad (nm_uLoad L) rfl (by simp [evs,ab]) (Nat.le_of_ble_eq_true rfl) λah back=>JL.go 8 rfl (Ao rfl rfl rfl (λρ h=>Yl.fieldAddr H.underlying_tAU rfl (FV H.sizeOf_tU64) (h _ _ rfl)) ?_);refine XS K O U V Y rfl rfl rfl rfl (Vk H) rfl λv wt sm r ac=>?_;obtain⟨q,ae,ag⟩:=h v wt sm r ac;refine⟨q,ae,?_⟩
 ·refine Ao rfl rfl rfl (λρ h=>Yl.assign (h _ _ rfl)) (JL.done ?_);exact JL.ret rfl rfl (Bd.one H.f_uLoad rfl rfl) (back _ _ _ _ ag)
theorem JL.uStore(K:ops[i]? =some ⟨d,.call ⟨.value (.func L.uStore),#[x,y],ats⟩,ty,pp,af,g⟩)(hw:AT M ops ⟨d,.call ⟨.value (.func L.uStore),#[x,y],ats⟩,ty,pp,af,g⟩=some true)(O:((b.kind != .early)&&Bh n d)=true)
  (U:ev M x=some (.pointer (some F.sA))) (V:ev M y=some (.int .u64 0))
  (h:JL (A1 P false) (Stop P F .Fb) b n (Ax M d (.tuple #[])) ds (.inRegion ops rest::k) cs .quiet):
  JL (A1 P false) (Stop P F .GW) b n M ds (.inRegion ops (i::rest)::k) cs .quiet:=by
 refine GR (vs:= [.pointer (some F.sA),.int .u64 0]) K hw O H.f_uStore (nm_uStore L) rfl (by simp [evs,U,V]) (Nat.le_of_ble_eq_true rfl) λY back=>JL.go 3 rfl (Ao rfl rfl rfl (λρ h=>Yl.fieldAddr H.underlying_tAU rfl (FV H.sizeOf_tU64) (h _ _ rfl)) ?_);refine JL.go 1 rfl (X4 rfl rfl rfl rfl (UN H) rfl rfl ?_);exact JL.done (JL.fin rfl rfl (Bd.none H.f_uStore rfl) (back _ _ _ _ h))
theorem JL.uCas{m:Nat}(K:s.q=false)(O:ops[i]? =some ⟨d,.call ⟨.value (.func L.uCas),#[x,y,z],ats⟩,ty,pp,af,g⟩)(hw:AT M ops ⟨d,.call ⟨.value (.func L.uCas),#[x,y,z],ats⟩,ty,pp,af,g⟩=some true)(U:((b.kind != .early)&&Bh n d)=true)
  (V:ev M x=some (.pointer (some F.sA))) (Y:ev M y=some (.int .u64 (Fam.word m 0))) (Z:ev M z=some (.int .u64 (Fam.word m 1)))
  (aa:JL (A1 P true) (Stop P F .H7) b n (Ax M d (.bool true)) ds (.inRegion ops rest::k) cs s)
  (ab:JL (A1 P true) (Stop P F (.FN (m - 1))) b n (Ax M d (.bool false)) ds (.inRegion ops rest::k) cs s):
  JL (A1 P true) (Stop P F (.G1 m)) b n M ds (.inRegion ops (i::rest)::k) cs s:=by
 refine GR (vs:= [.pointer (some F.sA),.int .u64 (Fam.word m 0),.int .u64 (Fam.word m 1)]) O hw U H.f_uCas (nm_uCas L) rfl (by simp [evs,V,Y,Z]) (Nat.le_of_ble_eq_true rfl) λac back=>JL.go 8 rfl (Ao rfl rfl rfl (λρ h=>Yl.fieldAddr H.underlying_tAU rfl (FV H.sizeOf_tU64) (h _ _ rfl)) ?_);refine JL.go 2 rfl (XQ (m:=m) K rfl rfl rfl rfl (Wk H) rfl rfl rfl ?_ ?_)
 ·refine Ao rfl rfl rfl (λρ h=>Yl.assign (h _ _ rfl)) (JL.done ?_);exact JL.ret rfl rfl (Bd.one H.f_uCas rfl rfl) (back _ _ _ _ aa)
 ·refine Ao rfl rfl rfl (λρ h=>Yl.assign (h _ _ rfl)) (JL.done ?_);exact JL.ret rfl rfl (Bd.one H.f_uCas rfl rfl) (back _ _ _ _ ab)
end
end Pal
namespace Pal
open Go Go.Conc Go.Conc.Lib
open Go.ConcR.Gen
theorem KO{v wt:Nat}(K:v<2147483648)(O:wt<=1):IntKind.u64.wrap (BitVec.ofInt IntKind.u64.bits (Fam.word v wt)&&& BitVec.ofInt IntKind.u64.bits 2147483648).toNat=0:=by
 have:=Go.ConcN.st_flag v wt K O;simpa [bits,Fam.word,Fam.KK] using this
theorem KX{v wt:Nat}(K:v<2147483648)(O:wt<=1):IntKind.u64.wrap (BitVec.ofInt IntKind.u64.bits (Fam.word v wt)&&& BitVec.ofInt IntKind.u64.bits 2147483647).toNat=(wt:Int):=by
 have:=Go.ConcN.st_waiters v wt K O;simpa [bits,Fam.word,Fam.KK] using this
theorem KA{v wt:Nat}(K:wt<=1):(Fam.word v wt).fdiv (2 ^ (min (32:Int).toNat IntKind.u64.bits))=(v:Int):=by
 have e:(2:Int) ^ (min (32:Int).toNat IntKind.u64.bits)=4294967296:=by decide
 rw [e,Int.fdiv_eq_ediv_of_nonneg _ (by decide)];simp only [Fam.word,Fam.KK];omega
theorem wrap_i32{v:Nat}(K:v<2147483648):IntKind.i32.wrap (v:Int)=v:=by
 simp only [IntKind.wrap,IntKind.bits,IntKind.signed];simp;split <;> omega
theorem wrap_u32{v:Nat}(K:v<=1):IntKind.u32.wrap (v:Int)=v:=by
 simp only [IntKind.wrap,IntKind.bits,IntKind.signed];simp;omega
theorem U4{F:Fam}:∀v wt sm r,F.act .GB v wt sm=some r->r.1=(v,wt,sm)/\r.2.1= #[Fam.Ce F.sA]:=by
 intro v wt sm r h;simp only [Fam.act] at h;split at h
 ·rename_i K;obtain⟨rfl,rfl⟩:=K;cases h;exact⟨rfl,rfl⟩
 ·cases h
theorem VP{F:Fam}{v wt sm:Nat}{r}(h:F.act .GB v wt sm=some r):v=0/\wt=1/\r.2.2= .ph .GW:=by
 simp only [Fam.act] at h;split at h
 ·rename_i K;cases h;exact⟨K.1,K.2,rfl⟩
 ·cases h
section
variable {P:Program}{L:WgLink}(H:WgLib P L){F:Fam}{n:Nat}{M:Env}{ds:Ld_}{k:Li_}{cs:Lf_}{s:St}{b:Frame}
variable {ops:Ao_}{i:Nat}{rest:List Nat}{d:Option Tmp}{x y z:Operand}{ats:Array TypeId}{ty:TypeId}{pp:String}{af:Ae_}{g:On_}{p q:Ph}
include H
theorem UJ(U:s.q=false)(V:ops[i]? =some ⟨d,.call ⟨.value (.func L.add),#[x,y],ats⟩,ty,pp,af,g⟩)(hw:AT M ops ⟨d,.call ⟨.value (.func L.add),#[x,y],ats⟩,ty,pp,af,g⟩=some true)(Y:((b.kind != .early)&&Bh n d)=true)
  (Z:ev M x=some (.pointer (some F.sA))) (aa:ev M y=some (.int .i64 (-1)))
  (h:JL (HP P) (Ix P 0) b n (Ax M d (.tuple #[])) ds (.inRegion ops rest::k) cs .quiet):
  JL (A1 P false) (Stop P F .HD) b n M ds (.inRegion ops (i::rest)::k) cs s:=by
 refine GR (vs:= [.pointer (some F.sA),.int .i64 (-1)]) V hw Y H.f_add (nm_add L) rfl (by simp [evs,Z,aa]) (Nat.le_of_ble_eq_true rfl) λac back=>JL.go 11 rfl (Lm (p:= .HD) (q:= .Gi) (ad:=F.sA) rfl U (by simp) (λ_ _ _=>rfl) rfl rfl rfl rfl rfl H.underlying_tWgP H.underlying_tUP H.room_tWg rfl (.inl rfl) ?_)
 refine N8 (p:= .Gi) (q:= .Iw) (mk:= .releaseMerge) (ad:=F.sA) (vs:= [.pointer (some F.sA)]) rfl U (by simp) (λ_ _ _=>rfl) rfl rfl rfl rfl (by simp) (PT H) rfl rfl (JL.go 3 rfl ?_);refine Lk (p:= .Iw) (q:= .G2) rfl rfl (by simp) (λ_ _ _=>rfl) rfl rfl rfl rfl rfl (by simp) (L9 H) (JL.go 2 rfl ?_);refine JL.defer (vs:= []) rfl rfl rfl rfl rfl (JL.go 8 rfl ?_);refine JL.ext (vs:= []) rfl rfl rfl (Qc H) rfl rfl (JL.go 7 rfl ?_);refine Ao rfl rfl rfl (λρ h=>Yl.fieldAddr H.underlying_tWg rfl (FV H.sizeOf_tAU) (h _ _ rfl)) (JL.go 1 rfl ?_);refine Ao rfl rfl rfl (λρ h=>EY H.underlying_t3 H.underlying_tU64 (h _ _ rfl)) ?_
 refine Ao (v:= .int .u64 18446744069414584320) rfl rfl rfl (λρ h=>(Yl.shl (h _ _ rfl) (h _ _ rfl) (by decide)).to (congrArg _ (by decide))) (Vp H rfl rfl rfl rfl rfl ?_ λv wt ae K ag=>?_)
 ·refine Ao rfl rfl rfl (λρ h=>Yl.assign (h _ _ rfl)) (JL.go 5 rfl ?_);refine Ao (v:= .int .u64 0) rfl rfl rfl (λρ h=>(Yl.and (h _ _ rfl) (h _ _ rfl)).to (congrArg _ (KO (v:=0) (wt:=1) (by decide) (by decide)))) (Ao rfl rfl rfl (λρ h=>Yl.neq (h _ _ rfl) (h _ _ rfl)) ?_);refine JL.go 10 rfl (Ao (v:= .int .u64 (0:Nat)) rfl rfl rfl (λρ h=>(Yl.shr (h _ _ rfl) (h _ _ rfl) (by decide)).to (congrArg _ (KA (v:=0) (wt:=1) (by decide)))) ?_);refine Ao (v:= .int .i32 (0:Nat)) rfl rfl rfl (λρ h=>(EY H.underlying_tU64 H.underlying_t21 (h _ _ rfl)).to (congrArg _ (wrap_i32 (by decide)))) ?_
  refine JL.go 5 rfl (Ao (v:= .int .u64 (1:Nat)) rfl rfl rfl (λρ h=>(Yl.and (h _ _ rfl) (h _ _ rfl)).to (congrArg _ (KX (v:=0) (wt:=1) (by decide) (by decide)))) ?_);refine Ao (v:= .int .u32 (1:Nat)) rfl rfl rfl (λρ h=>(EY H.underlying_tU64 H.underlying_tU32 (h _ _ rfl)).to (congrArg _ (wrap_u32 (by decide)))) ?_
  refine JL.go 30 rfl (Ao rfl rfl rfl (λρ h=>Yl.neq (h _ _ rfl) (h _ _ rfl)) ?_);refine JL.go 30 rfl (Ao rfl rfl rfl (λρ h=>Yl.fieldAddr H.underlying_tWg rfl (FV H.sizeOf_tAU) (h _ _ rfl)) ?_);refine JL.uLoad H (p:= .GB) rfl rfl (by simp) rfl U4 rfl rfl rfl rfl λv wt sm r ab=>?_;obtain⟨rfl,rfl,e⟩:=VP ab;refine⟨.GW,e,?_⟩;refine JL.go 1 rfl (Ao (v:= .bool false) rfl rfl rfl (λρ h=>(Yl.neq (h _ _ rfl) (h _ _ rfl)).to (by simp)) ?_);refine JL.go 7 rfl (Ao rfl rfl rfl (λρ h=>Yl.fieldAddr H.underlying_tWg rfl (FV H.sizeOf_tAU) (h _ _ rfl)) ?_);refine JL.uStore H rfl rfl rfl rfl rfl (JL.go 9 rfl ?_);refine Ii (JL.go 4 rfl ?_);refine Ao rfl rfl rfl (λρ h=>Yl.neq (h _ _ rfl) (h _ _ rfl)) (JL.go 8 rfl ?_);refine Ao rfl rfl rfl (λρ h=>Yl.fieldAddr H.underlying_tWg rfl (FV H.sizeOf_tU32) (h _ _ rfl)) (VY (vs:= [.pointer (some F.mA),.bool false,.int .i64 0]) rfl rfl rfl rfl (Ut H) rfl rfl ?_);refine JL.go 4 rfl (Ao (v:= .int .u32 ((0:Nat):Int)) rfl rfl rfl (λρ h=>(Yl.sub (h _ _ rfl) (h _ _ rfl)).to (congrArg _ (by decide))) ?_);refine JL.go 2 rfl (JL.again ?_);refine JL.go 4 rfl (Ao rfl rfl rfl (λρ h=>Yl.neq (h _ _ rfl) (h _ _ rfl)) ?_);refine JL.go 3 rfl (JL.out rfl (JO.MA rfl (IG H) (JO.leave rfl (Bd.none H.f_add rfl) (back _ _ _ _ h))))
 ·refine Ao rfl rfl rfl (λρ h=>Yl.assign (h _ _ rfl)) (JL.go 5 rfl ?_);refine Ao (v:= .int .u64 0) rfl rfl rfl (λρ h=>(Yl.and (h _ _ rfl) (h _ _ rfl)).to (congrArg _ (KO (v:=v) (wt:=wt) (by omega) K))) (Ao rfl rfl rfl (λρ h=>Yl.neq (h _ _ rfl) (h _ _ rfl)) ?_);refine JL.go 10 rfl (Ao (v:= .int .u64 (v:Nat)) rfl rfl rfl (λρ h=>(Yl.shr (h _ _ rfl) (h _ _ rfl) (by decide)).to (congrArg _ (KA (v:=v) (wt:=wt) K))) ?_);refine Ao (v:= .int .i32 (v:Nat)) rfl rfl rfl (λρ h=>(EY H.underlying_tU64 H.underlying_t21 (h _ _ rfl)).to (congrArg _ (wrap_i32 (by omega)))) ?_
  refine JL.go 5 rfl (Ao (v:= .int .u64 (wt:Nat)) rfl rfl rfl (λρ h=>(Yl.and (h _ _ rfl) (h _ _ rfl)).to (congrArg _ (KX (v:=v) (wt:=wt) (by omega) K))) ?_);refine Ao (v:= .int .u32 (wt:Nat)) rfl rfl rfl (λρ h=>(EY H.underlying_tU64 H.underlying_tU32 (h _ _ rfl)).to (congrArg _ (wrap_u32 K))) ?_
  refine JL.go 22 rfl (Ao (v:= .bool false) rfl rfl rfl (λρ h=>(Yl.lss (h _ _ rfl) (h _ _ rfl)).to (by simp)) ?_);refine JL.go 6 rfl ?_;by_cases O:wt=0
  ·refine Ao rfl rfl rfl (λρ h=>Yl.move (h _ _ rfl)) (Ao (v:= .bool false) rfl rfl rfl (λρ h=>(Yl.neq (h _ _ rfl) (h _ _ rfl)).to (by simp [O])) ?_);refine JL.go 16 rfl ?_;by_cases ah:0<v
   ·refine Ao rfl rfl rfl (λρ h=>Yl.move (h _ _ rfl)) (Ao (v:= .bool true) rfl rfl rfl (λρ h=>(Yl.gtr (h _ _ rfl) (h _ _ rfl)).to (by simp <;> omega)) ?_);refine JL.go 6 rfl (Gr rfl (JO.MA rfl (IG H) (JO.leave rfl (Bd.none H.f_add rfl) (back _ _ _ _ h))))
   ·refine Ao rfl rfl rfl (λρ h=>Yl.move (h _ _ rfl)) (Ao (v:= .bool false) rfl rfl rfl (λρ h=>(Yl.gtr (h _ _ rfl) (h _ _ rfl)).to (by simp <;> omega)) ?_);refine JL.go 2 rfl (Ao (v:= .bool true) rfl rfl rfl (λρ h=>(Yl.eql (h _ _ rfl) (h _ _ rfl)).to (by simp [O])) ?_);refine JL.go 3 rfl (Gr rfl (JO.MA rfl (IG H) (JO.leave rfl (Bd.none H.f_add rfl) (back _ _ _ _ h))))
  ·refine Ao rfl rfl rfl (λρ h=>Yl.move (h _ _ rfl)) (Ao (v:= .bool true) rfl rfl rfl (λρ h=>(Yl.neq (h _ _ rfl) (h _ _ rfl)).to (by simp [O])) ?_);refine JL.go 17 rfl (Ao (v:= .bool true) rfl rfl rfl (λρ h=>(Yl.gtr (h _ _ rfl) (h _ _ rfl)).to (by simp <;> omega)) ?_);refine JL.go 6 rfl (Gr rfl (JO.MA rfl (IG H) (JO.leave rfl (Bd.none H.f_add rfl) (back _ _ _ _ h))))
theorem U3{j:Nat}(K:s.q=false)(O:ops[i]? =some ⟨d,.call ⟨.value (.func L.add),#[x,y],ats⟩,ty,pp,af,g⟩)(hw:AT M ops ⟨d,.call ⟨.value (.func L.add),#[x,y],ats⟩,ty,pp,af,g⟩=some true)(U:((b.kind != .early)&&Bh n d)=true)
  (V:ev M x=some (.pointer (some F.sA))) (Y:ev M y=some (.int .i64 1))
  (h:JL (A1 P true) (Stop P F (.FE j)) b n (Ax M d (.tuple #[])) ds (.inRegion ops rest::k) cs s):
  JL (A1 P true) (Stop P F (.F1 j)) b n M ds (.inRegion ops (i::rest)::k) cs s:=by
 refine GR (vs:= [.pointer (some F.sA),.int .i64 1]) O hw U H.f_add (nm_add L) rfl (by simp [evs,V,Y]) (Nat.le_of_ble_eq_true rfl) λZ back=>JL.go 12 rfl (Lk (p:= .F1 j) (q:= .H5 j) rfl K (by simp) (λ_ _ _=>rfl) rfl rfl rfl rfl rfl (by simp) (L9 H) ?_);refine JL.go 2 rfl (JL.defer (vs:= []) rfl rfl rfl rfl rfl ?_);refine JL.go 8 rfl (JL.ext (vs:= []) rfl rfl rfl (Qc H) rfl rfl ?_);refine JL.go 7 rfl (Ao rfl rfl rfl (λρ h=>Yl.fieldAddr H.underlying_tWg rfl (FV H.sizeOf_tAU) (h _ _ rfl)) ?_);refine JL.go 1 rfl (Ao rfl rfl rfl (λρ h=>EY H.underlying_t3 H.underlying_tU64 (h _ _ rfl)) ?_)
 refine Ao (v:= .int .u64 4294967296) rfl rfl rfl (λρ h=>(Yl.shl (h _ _ rfl) (h _ _ rfl) (by decide)).to (congrArg _ (by decide))) (Ve H K rfl rfl rfl rfl rfl ?_ λv aa ab=>?_)
 ·refine Ao rfl rfl rfl (λρ h=>Yl.assign (h _ _ rfl)) (JL.go 5 rfl ?_);refine Ao (v:= .int .u64 0) rfl rfl rfl (λρ h=>(Yl.and (h _ _ rfl) (h _ _ rfl)).to (congrArg _ (KO (v:=1) (wt:=0) (by decide) (by decide)))) (Ao rfl rfl rfl (λρ h=>Yl.neq (h _ _ rfl) (h _ _ rfl)) ?_);refine JL.go 10 rfl (Ao (v:= .int .u64 (1:Nat)) rfl rfl rfl (λρ h=>(Yl.shr (h _ _ rfl) (h _ _ rfl) (by decide)).to (congrArg _ (KA (v:=1) (wt:=0) (by decide)))) ?_);refine Ao (v:= .int .i32 (1:Nat)) rfl rfl rfl (λρ h=>(EY H.underlying_tU64 H.underlying_t21 (h _ _ rfl)).to (congrArg _ (wrap_i32 (by decide)))) ?_
  refine JL.go 5 rfl (Ao (v:= .int .u64 (0:Nat)) rfl rfl rfl (λρ h=>(Yl.and (h _ _ rfl) (h _ _ rfl)).to (congrArg _ (KX (v:=1) (wt:=0) (by decide) (by decide)))) ?_);refine Ao (v:= .int .u32 (0:Nat)) rfl rfl rfl (λρ h=>(EY H.underlying_tU64 H.underlying_tU32 (h _ _ rfl)).to (congrArg _ (wrap_u32 (by decide)))) ?_
  refine JL.go 12 rfl (Ao (v:= .int .i32 1) rfl rfl rfl (λρ h=>(EY H.underlying_t3 H.underlying_t21 (h _ _ rfl)).to (congrArg _ (by decide))) ?_)
  refine Ao (v:= .bool true) rfl rfl rfl (λρ h=>(Yl.eql (h _ _ rfl) (h _ _ rfl)).to (by simp)) (JL.go 6 rfl ?_);refine Ao rfl rfl rfl (λρ h=>Yl.fieldAddr H.underlying_tWg rfl (FV H.sizeOf_tU32) (h _ _ rfl)) (Lm (p:= .Ic j) (q:= .Hu j) (ad:=F.mA) rfl K (by simp) (λ_ _ _=>rfl) rfl rfl rfl rfl rfl H.underlying_tPU32 H.underlying_tUP H.room_tU32 rfl (.inr rfl) ?_)
  refine N8 (p:= .Hu j) (q:= .GG j) (mk:= .read) (ad:=F.mA) (vs:= [.pointer (some F.mA)]) rfl K (by simp) (λ_ _ _=>rfl) rfl rfl rfl rfl (by simp) (Vg H) rfl rfl (JL.go 5 rfl ?_);refine Ao (v:= .bool false) rfl rfl rfl (λρ h=>(Yl.lss (h _ _ rfl) (h _ _ rfl)).to (by simp)) (JL.go 7 rfl ?_);refine Ao (v:= .bool false) rfl rfl rfl (λρ h=>(Yl.neq (h _ _ rfl) (h _ _ rfl)).to (by simp)) (JL.go 17 rfl ?_);refine Ao (v:= .bool true) rfl rfl rfl (λρ h=>(Yl.gtr (h _ _ rfl) (h _ _ rfl)).to (by simp)) (JL.go 6 rfl ?_);exact Gr rfl (JO.Rt K rfl (IG H) (JO.leave rfl (Bd.none H.f_add rfl) (back _ _ _ _ h)))
 ·refine Ao rfl rfl rfl (λρ h=>Yl.assign (h _ _ rfl)) (JL.go 5 rfl ?_);refine Ao (v:= .int .u64 0) rfl rfl rfl (λρ h=>(Yl.and (h _ _ rfl) (h _ _ rfl)).to (congrArg _ (KO (v:=(v+1)) (wt:=0) (by omega) (by decide)))) (Ao rfl rfl rfl (λρ h=>Yl.neq (h _ _ rfl) (h _ _ rfl)) ?_);refine JL.go 10 rfl (Ao (v:= .int .u64 ((v+1):Nat)) rfl rfl rfl (λρ h=>(Yl.shr (h _ _ rfl) (h _ _ rfl) (by decide)).to (congrArg _ (KA (v:=(v+1)) (wt:=0) (by decide)))) ?_);refine Ao (v:= .int .i32 ((v+1):Nat)) rfl rfl rfl (λρ h=>(EY H.underlying_tU64 H.underlying_t21 (h _ _ rfl)).to (congrArg _ (wrap_i32 (by omega)))) ?_
  refine JL.go 5 rfl (Ao (v:= .int .u64 (0:Nat)) rfl rfl rfl (λρ h=>(Yl.and (h _ _ rfl) (h _ _ rfl)).to (congrArg _ (KX (v:=(v+1)) (wt:=0) (by omega) (by decide)))) ?_);refine Ao (v:= .int .u32 (0:Nat)) rfl rfl rfl (λρ h=>(EY H.underlying_tU64 H.underlying_tU32 (h _ _ rfl)).to (congrArg _ (wrap_u32 (by decide)))) ?_
  refine JL.go 12 rfl (Ao (v:= .int .i32 1) rfl rfl rfl (λρ h=>(EY H.underlying_t3 H.underlying_t21 (h _ _ rfl)).to (congrArg _ (by decide))) ?_)
  refine Ao (v:= .bool false) rfl rfl rfl (λρ h=>(Yl.eql (h _ _ rfl) (h _ _ rfl)).to (by simp <;> omega)) (JL.go 8 rfl ?_);refine Ao (v:= .bool false) rfl rfl rfl (λρ h=>(Yl.lss (h _ _ rfl) (h _ _ rfl)).to (by simp <;> omega)) (JL.go 7 rfl ?_);refine Ao (v:= .bool false) rfl rfl rfl (λρ h=>(Yl.neq (h _ _ rfl) (h _ _ rfl)).to (by simp)) (JL.go 17 rfl ?_);refine Ao (v:= .bool true) rfl rfl rfl (λρ h=>(Yl.gtr (h _ _ rfl) (h _ _ rfl)).to (by simp <;> omega)) (JL.go 6 rfl ?_);exact Gr rfl (JO.Rt K rfl (IG H) (JO.leave rfl (Bd.none H.f_add rfl) (back _ _ _ _ h)))
omit H in
theorem Um{m:Nat}:∀v wt sm r,F.act (.FN m) v wt sm=some r->r.1=(v,wt,sm)/\r.2.1= #[Fam.Ce F.sA]:=by
 intro v wt sm r h;simp only [Fam.act] at h;split at h
 ·rename_i K;obtain⟨_,rfl⟩:=K;cases h;exact⟨rfl,rfl⟩
 ·cases h
omit H in
theorem Vi{m v wt sm:Nat}{r}(h:F.act (.FN m) v wt sm=some r):v<=m/\wt=0/\r.2.2=if v=0 then .ph .FR else .ph (.G1 v):=by
 simp only [Fam.act] at h;split at h
 ·rename_i K;cases h;exact⟨K.1,K.2,rfl⟩
 ·cases h
omit H in
theorem T1:∀v wt sm r,F.act .GX v wt sm=some r->r.1=(v,wt,sm)/\r.2.1= #[Fam.Ce F.sA]:=by
 intro v wt sm r h;simp only [Fam.act] at h;split at h
 ·rename_i K;obtain⟨rfl,rfl⟩:=K;cases h;exact⟨rfl,rfl⟩
 ·cases h
omit H in
theorem UK{v wt sm:Nat}{r}(h:F.act .GX v wt sm=some r):v=0/\wt=0/\r.2.2= .ph .FR:=by
 simp only [Fam.act] at h;split at h
 ·rename_i K;cases h;exact⟨K.1,K.2,rfl⟩
 ·cases h
omit H in
theorem U5{v:Nat}(K:v<2147483648):IntKind.u64.wrap (Fam.word v 0+1)=Fam.word v 1:=by
 simp only [Fam.word,Fam.KK,IntKind.wrap,IntKind.bits,IntKind.signed];simp;omega
theorem JL.wait(ae:F.n<2147483648)(K:s.q=false)(ag:ops[i]? =some ⟨d,.call ⟨.value (.func L.wait),#[x],ats⟩,ty,pp,af,g⟩)(hw:AT M ops ⟨d,.call ⟨.value (.func L.wait),#[x],ats⟩,ty,pp,af,g⟩=some true)(ah:((b.kind != .early)&&Bh n d)=true)
  (ai:ev M x=some (.pointer (some F.sA)))
  {Q:GP} (ab:∀g s,(Gv P).ok Q g s->F.fin g s)
  (h:∀E' f,Le s.E E'->E' F.fd=none->(∀b,E' b≠none->s.H b=none)->(∀k,k<F.n->F.msg k (f k) E')->JL (Gv P) Q b n (Ax M d (.tuple #[])) ds (.inRegion ops rest::k) cs ⟨E',F.Jf s.H f,false⟩):
  JL (A1 P true) (Stop P F .Dl) b n M ds (.inRegion ops (i::rest)::k) cs s:=by
 refine GR (vs:= [.pointer (some F.sA)]) ag hw ah H.f_wait (nm_wait L) rfl (by simp [evs,ai]) (Nat.le_of_ble_eq_true rfl) λal back=>JL.go 3 rfl (Lk (p:= .Dl) (q:= .FN F.n) rfl K (by simp) (λ_ _ _=>rfl) rfl rfl rfl rfl rfl (by simp) (L9 H) ?_);refine JL.go 2 rfl (Ii ?_);refine C3 (L':= [(0,.pointer (some F.sA))]) ⟨rfl,trivial⟩ ?_;generalize F.n=m at ae ⊢
 induction m using Nat.strongRecOn with
 | _ m aj=>?_
 refine JL.go 5 rfl (Ao rfl rfl rfl (λρ h=>Yl.fieldAddr H.underlying_tWg rfl (FV H.sizeOf_tAU) (h _ _ rfl)) ?_);refine JL.uLoad H (p:= .FN m) rfl K (by simp) rfl Um rfl rfl rfl rfl λv wt sm r U=>?_;obtain⟨am,rfl,e⟩:=Vi U;have O:v<2147483648:=by omega
 by_cases ac:v=0
 ·subst ac;refine⟨.FR,e,?_⟩;refine JL.go 5 rfl (Ao (v:= .int .u64 (0:Nat)) rfl rfl rfl (λρ h=>(Yl.shr (h _ _ rfl) (h _ _ rfl) (by decide)).to (congrArg _ (KA (v:=0) (wt:=0) (by decide)))) ?_);refine Ao (v:= .int .i32 (0:Nat)) rfl rfl rfl (λρ h=>(EY H.underlying_tU64 H.underlying_t21 (h _ _ rfl)).to (congrArg _ (wrap_i32 (by decide)))) ?_
  refine JL.go 5 rfl (Ao (v:= .int .u64 ((0:Nat):Int)) rfl rfl rfl (λρ h=>(Yl.and (h _ _ rfl) (h _ _ rfl)).to (congrArg _ (KX (v:=0) (wt:=0) (by decide) (by decide)))) ?_);refine Ao (v:= .int .u32 ((0:Nat):Int)) rfl rfl rfl (λρ h=>(EY H.underlying_tU64 H.underlying_tU32 (h _ _ rfl)).to (congrArg _ (wrap_u32 (by decide)))) ?_
  refine JL.go 6 rfl (Ao (v:= .bool true) rfl rfl rfl (λρ h=>(Yl.eql (h _ _ rfl) (h _ _ rfl)).to (by simp)) ?_);refine JL.go 6 rfl (Lk (p:= .FR) (q:= .H0) rfl K (by simp) (λ_ _ _=>rfl) rfl rfl rfl rfl rfl (by simp) (IG H) ?_);refine JL.go 3 rfl (Lm (p:= .H0) (q:= .FZ) (ad:=F.sA) rfl K (by simp) (λ_ _ _=>rfl) rfl rfl rfl rfl rfl H.underlying_tWgP H.underlying_tUP H.room_tWg rfl (.inl rfl) ?_)
  refine R0 (vs:= [.pointer (some F.sA)]) K rfl rfl rfl rfl (NY H) rfl rfl λE' V z1 Y Z aa T ak=>ab _ _ ?_;revert T;refine(?_:JL (Gv P) Q _ _ _ _ _ _ _);refine JL.go 5 rfl (Ao (v:= .bool true) rfl rfl rfl (λρ h=>(Yl.eql (h _ _ rfl) (h _ _ rfl)).to (by simp)) ?_);refine JL.go 2 rfl (Ao (v:= .int .u64 0) rfl rfl rfl (λρ h=>(Yl.and (h _ _ rfl) (h _ _ rfl)).to (congrArg _ (KO (v:=0) (wt:=0) (by decide) (by decide)))) ?_);refine Ao (v:= .bool false) rfl rfl rfl (λρ h=>(Yl.neq (h _ _ rfl) (h _ _ rfl)).to (by simp)) (JL.go 8 rfl ?_);exact JL.ret rfl rfl (Bd.none H.f_wait rfl) (back _ _ _ _ (h E' V z1 Y Z aa))
 ·refine⟨.G1 v,by rw [e,if_neg ac],?_⟩;refine JL.go 5 rfl (Ao (v:= .int .u64 (v:Nat)) rfl rfl rfl (λρ h=>(Yl.shr (h _ _ rfl) (h _ _ rfl) (by decide)).to (congrArg _ (KA (v:=v) (wt:=0) (by decide)))) ?_);refine Ao (v:= .int .i32 (v:Nat)) rfl rfl rfl (λρ h=>(EY H.underlying_tU64 H.underlying_t21 (h _ _ rfl)).to (congrArg _ (wrap_i32 O))) ?_
  refine JL.go 5 rfl (Ao (v:= .int .u64 ((0:Nat):Int)) rfl rfl rfl (λρ h=>(Yl.and (h _ _ rfl) (h _ _ rfl)).to (congrArg _ (KX (v:=v) (wt:=0) O (by decide)))) ?_);refine Ao (v:= .int .u32 ((0:Nat):Int)) rfl rfl rfl (λρ h=>(EY H.underlying_tU64 H.underlying_tU32 (h _ _ rfl)).to (congrArg _ (wrap_u32 (by decide)))) ?_
  refine JL.go 6 rfl (Ao (v:= .bool false) rfl rfl rfl (λρ h=>(Yl.eql (h _ _ rfl) (h _ _ rfl)).to (by simp <;> omega)) ?_);refine JL.go 7 rfl (Ao rfl rfl rfl (λρ h=>Yl.fieldAddr H.underlying_tWg rfl (FV H.sizeOf_tAU) (h _ _ rfl)) ?_);refine JL.go 2 rfl (Ao (v:= .int .u64 (Fam.word v 1)) rfl rfl rfl (λρ h=>(Yl.add (h _ _ rfl) (h _ _ rfl)).to (congrArg _ (U5 O))) ?_);refine JL.uCas H (m:=v) K rfl rfl rfl rfl rfl rfl ?_ ?_
  ·refine JL.done (JL.go 6 rfl ?_);refine Ao (v:= .bool true) rfl rfl rfl (λρ h=>(Yl.eql (h _ _ rfl) (h _ _ rfl)).to (by simp)) (JL.go 6 rfl ?_);refine Ao rfl rfl rfl (λρ h=>Yl.fieldAddr H.underlying_tWg rfl (FV H.sizeOf_tU32) (h _ _ rfl)) (Lm (p:= .H7) (q:= .HB) (ad:=F.mA) rfl K (by simp) (λ_ _ _=>rfl) rfl rfl rfl rfl rfl H.underlying_tPU32 H.underlying_tUP H.room_tU32 rfl (.inr rfl) ?_)
   refine N8 (p:= .HB) (q:= .Fl) (mk:= .write) (ad:=F.mA) (vs:= [.pointer (some F.mA)]) rfl K (by simp) (λ_ _ _=>rfl) rfl rfl rfl rfl (by simp) (Uo H) rfl rfl (JL.go 9 rfl ?_);refine Ao (v:= .int .u64 0) rfl rfl rfl (λρ h=>(Yl.and (h _ _ rfl) (h _ _ rfl)).to (congrArg _ (KO (v:=v) (wt:=0) O (by decide)))) (Ao (v:= .bool false) rfl rfl rfl (λρ h=>(Yl.neq (h _ _ rfl) (h _ _ rfl)).to (by simp)) ?_);refine JL.go 10 rfl (Ao rfl rfl rfl (λρ h=>Yl.fieldAddr H.underlying_tWg rfl (FV H.sizeOf_tU32) (h _ _ rfl)) ?_);refine JL.go 1 rfl (Ug (vs:= [.pointer (some F.mA),.bool false]) K rfl rfl rfl rfl (TQ H) rfl rfl ?_);refine JL.go 5 rfl (Ao rfl rfl rfl (λρ h=>Yl.fieldAddr H.underlying_tWg rfl (FV H.sizeOf_tAU) (h _ _ rfl)) ?_);refine JL.uLoad H (p:= .GX) rfl K (by simp) rfl T1 rfl rfl rfl rfl λv wt sm r U=>?_;obtain⟨rfl,rfl,e⟩:=UK U;refine⟨.FR,e,?_⟩;refine Ao (v:= .bool false) rfl rfl rfl (λρ h=>(Yl.neq (h _ _ rfl) (h _ _ rfl)).to (by simp [Fam.word])) (JL.go 6 rfl ?_);refine Lk (p:= .FR) (q:= .H0) rfl K (by simp) (λ_ _ _=>rfl) rfl rfl rfl rfl rfl (by simp) (IG H) (JL.go 3 rfl ?_);refine Lm (p:= .H0) (q:= .FZ) (ad:=F.sA) rfl K (by simp) (λ_ _ _=>rfl) rfl rfl rfl rfl rfl H.underlying_tWgP H.underlying_tUP H.room_tWg rfl (.inl rfl) ?_
   refine R0 (vs:= [.pointer (some F.sA)]) K rfl rfl rfl rfl (NY H) rfl rfl λE' V z1 Y Z aa T ak=>ab _ _ ?_;revert T;refine(?_:JL (Gv P) Q _ _ _ _ _ _ _);exact JL.go 8 rfl (JL.ret rfl rfl (Bd.none H.f_wait rfl) (back _ _ _ _ (h E' V z1 Y Z aa)))
  ·refine JL.done (JL.go 3 rfl ?_);refine JL.again (C3 (L':= [(0,.pointer (some F.sA))]) ⟨rfl,trivial⟩ ?_);exact aj (v - 1) (by omega) (by omega)
theorem JO.YE(K:b.roundOf=none)(O:s.q=false)(h:JO (HP P) (Ix P 0) b n M ds cs .quiet):
  JO (A1 P false) (Stop P F .HD) b n M (dcall L.done #[.pointer (some F.sA)]::ds) cs s:=by
 refine JO.enter (vs:= [.pointer (some F.sA)]) K H.f_done (nm_done L) rfl (Nat.le_of_ble_eq_true rfl) λT U todo=>JL.go 2 rfl (UJ H O rfl rfl rfl rfl rfl ?_);exact JL.done (JL.out rfl (JO.leaveD rfl H.f_done rfl (.inl rfl) (h T U todo)))
end
end Pal
namespace Pal
open Go Go.Conc
section
variable {P:Program}{J:Judge P}{Q:Gs_}{g:Goroutine}{cs:Lf_}{c:Frame}{E H:LH}{S S':List Seg}
theorem ME(K:S.flatten.Perm S'.flatten)(O:An E H S)(h:An E H S'->J.ok Q g (Ak E H S')):J.ok Q g (Ak E H S):=by
 have U:Ak E H S=Ak E H S':=EZ O K;rw [U];exact h (Nd.perm O K)
theorem OA(K:S'.flatten=S.flatten)(O:An E H S)(h:An E H S'->J.ok Q g (Ak E H S')):J.ok Q g (Ak E H S):=ME (by rw [K]) O h
theorem Vv{f:FuncId}{vs:Lv_}{seg:Seg}{R:Value->LH->Seg->Prop}(j:Nat)(ab:AP J f vs E seg R)(K:An E H S)(O:S[j]? =some seg)
  (ac:∀v E' seg',Le E E'->R v E' seg'->An E' H (S.set j seg')->J.ok Q (G (c.finish v) cs) (Ak E' H (S.set j seg'))):
  J.ok Q (G (Frame.enter P f vs.toArray .normal) (c::cs)) (Ak E H S):=by
 have U:S.flatten.Perm (seg++(S.set j []).flatten):=(Ei (seg':=seg) O).1.trans List.perm_append_comm;have V:Nd E H (seg++(S.set j []).flatten):=Nd.perm K U;have ae:Ak E H S=mk E (Bi (S.set j []).flatten H) seg:=by
  rw [show Ak E H S=mk E H S.flatten from rfl,EZ K U];unfold mk;rw [FM]
 have Y:=EH.K1 (ab (Bi (S.set j []).flatten H) (Nd.front V)) (by rintro v s' ⟨E',B',_,_,_,rfl⟩;rfl);rw [← ae] at Y;refine Y Q c cs ?_;rintro v ap ⟨⟨E',B',hle,ag,ah,rfl⟩,w,ai⟩;have e2:mk E' (Bi (S.set j []).flatten H) B'=mk E' H (B'++(S.set j []).flatten):=by unfold mk;rw [FM]
 have aj:Nd E H (S.set j []).flatten:=by
  have:=V;rw [Nd.iff] at this ⊢;rw [List.map_append,List.nodup_append] at this;exact⟨this.1.2.1,λq ak=>this.2 q (List.mem_append_right _ ak)⟩
 have al:Nd E' H (S.set j []).flatten:=aj.grow λx am=>by
  have an:=ai.d x am;have ao:Bi B' (Bi (S.set j []).flatten H) x=none:=an;exact(HI ao).1
 have Z:Nd E' H (B'++(S.set j []).flatten):=Nd.glue ah al;rw [e2];have aa:(B'++(S.set j []).flatten).Perm (S.set j B').flatten:=List.perm_append_comm.trans (Ei O).2.symm;rw [EZ Z aa];exact ac v E' B' hle ag (Nd.perm Z aa)
end
section
variable {P:Program}{J:Judge P}{Q:Gs_}{b:Frame}{n:Nat}{L:Env}{ds:Ld_}{k:Li_}{cs:Lf_}{E H:LH}{S:List Seg}{ops:Ao_}{i:Nat}{rest:List Nat}{d:Option Tmp}{t ty e:TypeId}{p:String}{af:Ae_}{g:On_}
end
theorem T4{E H:LH}{a b c:Nat}{K O U:Obj}(Z:An E H [[(a,K)],[(b,O)],[(c,U)]]):(⟨E,Jc (Ak E H [[(a,K)],[(b,O)],[(c,U)]]).H b a c,false⟩:St)=Ak E H []:=by
 have h:=Nd.iff.1 Z;have aa:H a=none:=(h.2 (a,K) (by simp)).2;have ab:H b=none:=(h.2 (b,O) (by simp)).2;have ac:H c=none:=(h.2 (c,U) (by simp)).2;unfold Ak mk;congr 1;funext x;simp only [Jc,Ak,mk,List.flatten_cons,List.flatten_nil,List.append_nil,List.cons_append,List.nil_append,Bi];by_cases V:x=a
 ·subst V;simp [aa]
 ·by_cases e2:x=b
  ·subst e2;simp [ab]
  ·by_cases Y:x=c
   ·subst Y;simp [ac]
   ·simp [V,e2,Y]
end Pal
namespace Pal
open Go Go.Conc
theorem Gs{P:Program}{J:Judge P}{Q:Gs_}{b:Frame}{n:Nat}{L:Env}{ds:Ld_}{cs:Lf_}{E H:LH}{S:List Seg}{todo:Li_}{A B:Seg}(j K:Nat)(O:S[j]? =some A)(Y:(S.set j [])[K]? =some B)(Z:An E H S)
  (h:An E H (((S.set j []).set K []).set j (A++B))->JL J Q b n L ds todo cs (Ak E H (((S.set j []).set K []).set j (A++B)))):JL J Q b n L ds todo cs (Ak E H S):=by
 refine JS.perm ?_ Z h;have U:j<S.length:=(List.getElem?_eq_some_iff.1 O).1;have aa:=(Ei (seg':=A) O).1;have ab:=(Ei (seg':=B) Y).1;have ac:((S.set j []).set K [])[j]? =some []:=by
  by_cases e:K=j
  ·subst e;rw [List.getElem?_set_self (by simpa using U)]
  ·rw [List.getElem?_set_ne e,List.getElem?_set_self U]
 have V:=(Ei (seg':=A++B) ac).2;have ae:(((S.set j []).set K []).set j [])=(S.set j []).set K []:=by
  by_cases e:K=j
  ·subst e;simp
  ·rw [List.set_comm _ _ e];simp
 rw [ae] at V;refine aa.trans (List.Perm.trans ?_ V.symm);refine(List.Perm.append_right A ab).trans ?_;rw [List.append_assoc];exact List.Perm.append_left _ List.perm_append_comm
end Pal
namespace Pal
open Go Go.Conc
def WL{α:Type}(e:TypeId)(pp:Rp α)(E:LH)(bk c n:Nat)(f:Av_)(xs:List α):Prop:=
 OL e pp E (some ⟨bk,0,none⟩) c [(bk,.cells f e (0,0))] xs/\xs.length=n
theorem WL.Ag{α:Type}{e:TypeId}{pp:Rp α}{E E':LH}{bk c n:Nat}{f:Av_}{xs:List α}(h:WL e pp E bk c n f xs)(hle:Le E E'):WL e pp E' bk c n f xs:=⟨h.1.Ag hle,h.2⟩
theorem WL.at{α:Type}{e:TypeId}{pp:Rp α}{E:LH}{bk c n:Nat}{f:Av_}{xs:List α}{m:Int}{x:α}(h:WL e pp E bk c n f xs)(hm:ix xs m=some x):
  ∃ws,pp.r E ws x/\(∀j w,ws[j]? =some w->f[m.toNat*pp.n+j]? =some w):=by
 obtain⟨ws,K,O,_,_⟩:=OL.again h.1 hm rfl;exact⟨ws,K,O⟩
theorem WL.put{α:Type}{e:TypeId}{pp:Rp α}{E:LH}{bk c n:Nat}{f:Av_}{xs O:List α}{m:Int}{x0 x':α}{ws':Lv_}(h:WL e pp E bk c n f xs)(U:O.length=n)(hm:ix O m=some x0)(V:pp.r E ws' x'):
  WL e pp E bk c n (Bb f (m.toNat*pp.n) ws') (xs.set m.toNat x')/\m.toNat*pp.n+pp.n<=f.size:=by
 obtain⟨K,rfl,Y⟩:=Ge hm;have Z:K<xs.length:=by rw [h.2,← U];exact(List.getElem?_eq_some_iff.1 Y).1
 have aa:ix xs (K:Int)=some xs[K]:=by simp [ix,Z]
 obtain⟨ws,ae,ag,ab,ac⟩:=OL.again h.1 aa rfl;exact⟨⟨ac x' ws' V,by rw [List.length_set];exact h.2⟩,ab⟩
theorem OL.cases{α:Type}{e:TypeId}{pp:Rp α}{E:LH}{a:Option Addr}{c:Nat}{seg:Seg}{xs:List α}(h:OL e pp E a c seg xs):
  (a=none/\c=0/\seg= []/\xs= [])∨∃bk f,a=some ⟨bk,0,none⟩/\seg= [(bk,.cells f e (0,0))]/\WL e pp E bk c xs.length f xs:=by
 have V:=h;obtain⟨wss,Y,aa,ab⟩:=h;rcases Y with⟨K,O,U,Z,ac⟩ | ⟨bk,f,K,O,U⟩
 ·exact .inl ⟨K,U,Z,List.length_eq_zero_iff.1 O⟩
 ·subst K O;exact .inr ⟨bk,f,rfl,rfl,V,rfl⟩
theorem EA{P:Program}{s:St}{ρ:Operand->Value}{x y:Operand}{d:Option Tmp}{t ty e:TypeId}{p:String}{af:Ae_}{g:On_}{kd:IntKind}{α:Type}{xs:List α}{xv:α}{m:Int}{bk c K n:Nat}(O:xs.length=n)(hm:ix xs m=some xv)(U:P.underlying t=some (.slice e))(V:Bm P e=some K)(Y:ρ x= .slice (some ⟨bk,0,none⟩) n c)(Z:ρ y= .int kd m):
  Yl P ⟨d,.indexAddr t x y,ty,p,af,g⟩ ρ s (.pointer (some ⟨bk,m.toNat*K,none⟩)):=by
 subst O;exact Vj hm U V Y Z
theorem RA{P:Program}{s:St}{ρ:Operand->Value}{x:Operand}{d:Option Tmp}{t ty e:TypeId}{p:String}{af:Ae_}{g:On_}{α:Type}{xs:List α}{a:Option Addr}{n c:Nat}{ats:Array TypeId}(K:xs.length=n)(O:ats[0]? =some t)(U:P.underlying t=some (.slice e))(V:ρ x= .slice a n c):
  Yl P ⟨d,.call ⟨.builtin .len,#[x],ats⟩,ty,p,af,g⟩ ρ s (.int .i64 (xs.length:Int)):=by
 subst K;exact Yl.len O U V
section
variable {P:Program}{J:Judge P}{Q:Gs_}{b:Frame}{n:Nat}{ds:Ld_}{ops:Ao_}{k:Li_}{cs:Lf_}{m fuel:Nat}{D:Nat->Bool}{listed:Array Bool}{L:Env}{s:St}{E E' H:LH}{S:List Seg}
variable {d:Option Tmp}{x y:Operand}{t u ty e:TypeId}{p:String}{af:Ae_}{g:On_}{v:Value}{i:Nat}{kd:IntKind}
theorem UY{f:FuncId}{args:Array Operand}{ats:Array TypeId}{vs:Lv_}{R:Value->St->Prop}(U:s.q=false)(V:Region.ready .any ops listed= [i])
  (Y:ops[i]? =some ⟨d,.call ⟨.value x,args,ats⟩,ty,p,af,g⟩) (Z:ev L x=some (.func (.func f) #[] #[])) (aa:Bh n d=true) (hw:AT L ops ⟨d,.call ⟨.value x,args,ats⟩,ty,p,af,g⟩=some true) (hb:DI P f=true) (ab:evs L args.toList=some vs)
  (ac:EH J f vs.toArray s R) (h:∀v K,R v K->K.q=false/\(∀x o,(Bx D s).E x=some o->(Bx D K).E x=some o)/\AL J Q b n ds ops k cs m D fuel (Ba listed i) (Ax L d v) K):
  AL J Q b n ds ops k cs m D (fuel+1) listed L s:=by
 refine AL.one U V Y (by simp [DK,aa]) hw λρ O=>?_;have ae:args.map ρ=vs.toArray:=by
  rw [← Gd O ab];apply Array.ext';simp
 have ag:ρ x= .func (.func f) #[] #[]:=O _ _ Z;simp only [execOp,resolve,bind,Sem.bind,Deferred.ofValue,ag,pure,invoke];have e: #[]++args.map ρ++ #[]=vs.toArray:=by rw [ae];simp
 rw [e];refine IF hb ?_;rw [Kq];exact⟨R,ac,h⟩
theorem He{bks:List Nat}{f:FuncId}{args:Array Operand}{ats:Array TypeId}{vs:Lv_}{R:Value->LH->Seg->Prop}(ac:Hs S bks)(ae:AP J f vs E [] R)(ag:Region.ready .any ops listed= [i])
  (ah:ops[i]? =some ⟨d,.call ⟨.value x,args,ats⟩,ty,p,af,g⟩) (K:ev L x=some (.func (.func f) #[] #[])) (ai:Bh n d=true) (hw:AT L ops ⟨d,.call ⟨.value x,args,ats⟩,ty,p,af,g⟩=some true) (hb:DI P f=true) (aj:evs L args.toList=some vs) (Y:An E H S)
  (ak:∀v E' seg',Le E E'->R v E' seg'->An E' H (S++ [seg'])->AL J Q b n ds ops k cs m (AY bks) fuel (Ba listed i) (Ax L d v) (Ak E' H (S++ [seg']))):
  AL J Q b n ds ops k cs m (AY bks) (fuel+1) listed L (Ak E H S):=by
 have al:=EH.K1 (ae (Bi S.flatten H) trivial) (by rintro v s' ⟨E',B',_,_,_,rfl⟩;rfl);refine UY rfl ag ah K ai hw hb aj al ?_;rintro v av ⟨⟨E',B',hle,am,an,rfl⟩,w,ao⟩;have e2:mk E' (Bi S.flatten H) B'=mk E' H (B'++S.flatten):=by unfold mk;rw [FM]
 have ap:Nd E' H S.flatten:=Nd.grow Y λx K=>by
  have aq:=ao.d x K;have U:Bi B' (Bi S.flatten H) x=none:=aq;exact(HI U).1
 have Z:Nd E' H (B'++S.flatten):=Nd.glue an ap;have aa:(B'++S.flatten).Perm (S++ [B']).flatten:=by rw [GO];exact List.perm_append_comm
 have ab:An E' H (S++ [B']):=Nd.perm Z aa;rw [e2,EZ Z aa];refine⟨rfl,λx o K=>?_,ak v E' B' hle am ab⟩;by_cases hd:AY bks x=true
 ·obtain⟨j,o',V⟩:=ac.mem x (by simpa [AY] using hd);have U:(Ak E H S).get x=some o':=DW (i:=0) Y V rfl;have ar:j<S.length:=(List.getElem?_eq_some_iff.1 V).1;have au:(Ak E' H (S++ [B'])).get x=some o':=DW (i:=0) ab (by rw [List.getElem?_append_left ar];exact V) rfl;have O:(if AY bks x then(Ak E H S).get x else E x)=some o:=K
  show(if AY bks x then(Ak E' H (S++ [B'])).get x else E' x)=some o
  rw [if_pos hd] at O ⊢;rw [au,← U];exact O
 ·have O:(if AY bks x then(Ak E H S).get x else E x)=some o:=K
  show(if AY bks x then(Ak E' H (S++ [B'])).get x else E' x)=some o
  rw [if_neg hd] at O ⊢;exact hle _ _ O
end
section
variable {P:Program}{J:Judge P}{Q:Gs_}{b:Frame}{n:Nat}{ds:Ld_}{ops:Ao_}{k:Li_}{cs:Lf_}{L:Env}{s:St}{E E' H:LH}{S:List Seg}
variable {d:Option Tmp}{x y:Operand}{t u ty e:TypeId}{p:String}{af:Ae_}{g:On_}{v:Value}{i:Nat}{rest:List Nat}{kd:IntKind}
theorem Kt{f:FuncId}{args:Array Operand}{ats:Array TypeId}{vs:Lv_}{R:Value->LH->Seg->Prop}
  (O:AP J f vs E [] R) (U:ops[i]? =some ⟨d,.call ⟨.value x,args,ats⟩,ty,p,af,g⟩) (V:ev L x=some (.func (.func f) #[] ([]:Lv_).toArray)) (hw:AT L ops ⟨d,.call ⟨.value x,args,ats⟩,ty,p,af,g⟩=some true) (Y:((b.kind != .early)&&Bh n d)=true) (hb:DI P f=true)
  (Z:evs L args.toList=some vs) (aa:An E H S) (ab:∀v E' seg',Le E E'->R v E' seg'->An E' H (S++ [seg'])->JL J Q b n (Ax L d v) ds (.inRegion ops rest::k) cs (Ak E' H (S++ [seg']))):
  JL J Q b n L ds (.inRegion ops (i::rest)::k) cs (Ak E H S):=by
 have ac:FT J (.func (.func f) #[] ([]:Lv_).toArray) vs E [] R:=FT.ofFn hb (by rw [List.append_nil];exact O);have ae:An E H (S++ [[]]):=by unfold An at*;rw [GO,List.append_nil];exact aa
 have ag:Ak E H S=Ak E H (S++ [[]]):=by unfold Ak;rw [GO,List.append_nil]
 rw [ag];refine Ku (seg:= []) S.length ac U hw Y V Z ae (by simp) λv E' seg' hle ah K=>?_;have ai:(S++ [([]:Seg)]).set S.length seg'=S++ [seg']:=Im _ _ _ _;rw [ai] at K ⊢;exact ab v E' seg' hle ah K
end
def Jt(a b:Int):Option Int:=if b=0 then none else Au (a.tdiv b)
def PE(l:List Nat)(i:Int):Option Nat:=if 0<=i then l[i.toNat]? else none
section
variable {P:Program}{s:St}{ρ:Operand->Value}{x y z:Operand}{d:Option Tmp}{t u ty e:TypeId}{p:String}{af:Ae_}{g:On_}{v:Value}{kd kd':IntKind}{m m':Int}{a b:Nat}
theorem KG{r:Int}(K:ρ x=iV m)(O:ρ y=iV m')(h:Jt m m'=some r):Yl P ⟨d,.binOp .quo t x y u,ty,p,af,g⟩ ρ s (iV r):=by
 unfold Jt at h;split at h
 ·cases h
 ·rename_i U;obtain⟨rfl,hb⟩:=Kr h;have:=Yl.quo (P:=P) (s:=s) (d:=d) (t:=t) (u:=u) (ty:=ty) (p:=p) (af:=af) (g:=g) K O U
  rwa [I8 hb] at this
theorem Zi{a:Nat}:IntKind.u8.wrap (a:Int)=((a % 256:Nat):Int):=by
 simp only [IntKind.wrap,IntKind.bits,IntKind.signed];simp
theorem Wd(K:P.underlying t=some (.int .u64))(hu:P.underlying u=some (.int .u8))(O:ρ x= .int .u64 (a:Int)):Yl P ⟨d,.convert t u x,ty,p,af,g⟩ ρ s (.int .u8 ((a % 256:Nat):Int)):=by
 have h:=EY (P:=P) (s:=s) (d:=d) (ty:=ty) (p:=p) (af:=af) (g:=g) K hu O
 rw [Zi] at h;exact h
theorem Wb{r:Int}(K:P.underlying t=some (.int .u8))(hu:P.underlying u=some (.int .i64))(O:ρ x= .int .u8 (a:Int))(h:Au ((a:Nat):Int)=some r):Yl P ⟨d,.convert t u x,ty,p,af,g⟩ ρ s (iV r):=by
 obtain⟨rfl,hb⟩:=Kr h;have h:=EY (P:=P) (s:=s) (d:=d) (ty:=ty) (p:=p) (af:=af) (g:=g) K hu O
 rwa [I8 hb] at h
theorem UR{l:List Nat}{bs:ByteArray}{r:Nat}(O:(bs.data.toList.map UInt8.toNat==l)=true)(U:P.underlying t=some .string)(V:ρ y= .int kd m)(Y:ρ (.const (.string bs))= .string bs)(h:PE l m=some r):Yl P ⟨d,.index t (.const (.string bs)) y,ty,p,af,g⟩ ρ s (.int .u8 (r:Int)):=by
 unfold PE at h;split at h
 ·rename_i Z;have aa:=eq_of_beq O;rw [← aa,List.getElem?_map] at h;obtain⟨K,hb,rfl⟩:=Option.map_eq_some_iff.1 h;have ab:bs[m.toNat]? =some K:=by
   have ac:bs.data[m.toNat]? =some K:=by rw [← Array.getElem?_toList];exact hb
   obtain⟨ae,ag⟩:=Array.getElem?_eq_some_iff.1 ac;rw [getElem?_pos bs m.toNat ae];exact congrArg some ag
  simp [Yl,execOp,lp,pure,bind,Sem.bind,Y,V,Instr.index,underlying,program,U,Z,ab,asIntOf]
 ·cases h
end
end Pal
namespace Pal
open Go Go.Conc
section
variable {P:Program}(J:Judge P)(Q:Gs_)(b:Frame)(ds:Ld_)(ops:Ao_)(k:Li_)(cs:Lf_)(X D:Nat->Bool)
def JB:Nat->Array Bool->Av_->St->Prop
 | 0,listed,T,s=>Region.ready .any ops listed= []/\J.ok Q (G (fr b T ds (.inRegion ops []::k)) cs) s
 | fuel+1,listed,T,s=>
  Region.ready .any ops listed≠ []/\s.q=false/\∀i∈Region.ready .any ops listed,∀o,ops[i]? =some o->(∀c,o.op≠ .defer c)/\
   (Region.wanted o (yielded ops T)=false->JB fuel (Ba listed i) (CM T o.dst undef) s)/\
   (Region.wanted o (yielded ops T)=true->X i=true->lp P (execOp (By T) o) s (λK s'=>match K with
    | .value v=>JB fuel (Ba listed i) (CM T o.dst v) s'
    | .skip=>JB fuel (Ba listed i) (CM T o.dst undef) s'
    | _=>False) (λ_ _=>False))/\
   (Region.wanted o (yielded ops T)=true->X i=false->lp P (execOp (By T) o) (Bx D s) (λK s'=>match K with
    | .value v=>JB fuel (Ba listed i) (CM T o.dst v) (Cy D s s')
    | .skip=>JB fuel (Ba listed i) (CM T o.dst undef) (Cy D s s')
    | _=>False) (λ_ _=>False))
variable {J Q b ds ops k cs X D}
theorem VW(Y:b.kind≠ .early):∀(fuel t:Nat) (listed:Array Bool) (T:Av_) (s:St),JB J Q b ds ops k cs X D fuel listed T s->
  J.ok Q (G (fr b T ds (.inRegion ops (Region.linearise.go .any ops fuel t listed [])::k)) cs) s:=by
 intro fuel
 induction fuel with
 | zero=>intro t listed T s h;simpa [Region.linearise.go] using h.2
 | succ fuel O=>
  intro t listed T s h;obtain⟨ab,ac,h⟩:=h;obtain⟨i,hi⟩:∃i,(Region.ready .any ops listed)[t % (Region.ready .any ops listed).length]? =some i:=by
   have:0<(Region.ready .any ops listed).length:=List.length_pos_iff.2 ab;exact⟨_,List.getElem?_eq_getElem (Nat.mod_lt _ this)⟩
  have Z:=List.mem_of_getElem? hi;have hgo:Region.linearise.go .any ops (fuel+1) t listed []=i::Region.linearise.go .any ops fuel (t / (Region.ready .any ops listed).length) (Ba listed i) []:=by
   simp only [Region.linearise.go];change (match(Region.ready .any ops listed)[t % (Region.ready .any ops listed).length]? with
    | some i=>Region.linearise.go .any ops fuel (t / (Region.ready .any ops listed).length) (listed.setIfInBounds i true) [i]
    | none=> [].reverse)=_
   rw [hi];simp only;rw [linearise_go_acc];rfl
  rw [hgo];obtain⟨_,o,U,_⟩:=mem_ready.1 Z;obtain⟨hd,ae,ag,ah⟩:=h i Z o U;cases hw:Region.wanted o (yielded ops T) with
  | false=>exact Judge.unwanted U hw (O _ _ _ _ (ae hw))
  | true=>
   cases aa:X i with
   | true=>
    refine Judge.oper U hw Y (.inr hd) (Ej _ (ag hw aa) ?_ (λ_ _ h=>h.elim));intro V s' K;cases V with
    | value v=>exact O _ _ _ _ K
    | skip=>exact O _ _ _ _ K
    | _=>exact K.elim
   | false=>
    refine Judge.RE D U hw Y hd ac (Ej _ (ah hw aa) ?_ (λ_ _ h=>h));intro V s' K;cases V with
    | value v=>exact O _ _ _ _ K
    | skip=>exact O _ _ _ _ K
    | _=>exact K.elim
def waitAll(ops:Ao_)(X:Nat->Bool)(i:Nat):Bool:=(List.range ops.size).all λj=> !X j || waits ops ops.size j i
theorem Ri{D:Nat->Bool}{s s':St}(K:s'.E=(Bx D s).E){x:Nat}{o:Obj}(h:s.E x=some o):(Cy D s s').E x=some o:=by
 by_cases hd:D x
 ·simp [Cy,hd,h]
 ·have:=congrFun K x;simp [Bx,hd] at this;simp [Cy,hd,this,h]
theorem VL{i:Nat}{oi:Oper}{w pure:Bool}{v:Value}(hi:ops[i]? =some oi)(aX:X i=false)(aN:(pure || waitAll ops X i)=true)(aY:Region.noSelect ops=true)(aZ:∀c,oi.op≠ .defer c):
  ∀(fuel:Nat) (listed:Array Bool) (T:Av_) (s:St),Ip ops listed i oi=true->Hp ops listed=true->listed.size=ops.size->i∈Region.ready .any ops listed->s.q=false->Region.wanted oi (yielded ops T)=w->
   (w=true->∀s',s'.q=false->(∀x o,s.E x=some o->s'.E x=some o)->(pure=false->∀x o,(Bx D s).E x=some o->s'.E x=some o)->Yl P oi (By T) s' v)->
   JB J Q b ds ops k cs X D fuel (Ba listed i) (CM T oi.dst (if w then v else undef)) s->JB J Q b ds ops k cs X D (fuel+1) listed T s:=by
 have ah:∀(j:Nat) (ac:Oper),ops[j]? =some ac->∀cs b,ac.op≠Op.select cs b:=λj ac h cs b=>Region.noSelect_spec aY j ac cs b h;intro fuel
 induction fuel with
 | zero=>?_
 | succ fuel am=>?_
 all_goals
  intro listed T s aO aP an aC ao hw ai h;refine⟨λe=>(by rw [e] at aC;cases aC),ao,λj aQ ac U=>?_⟩;by_cases ap:j=i
  ·subst ap;obtain rfl:ac=oi:=by rw [hi] at U;exact(Option.some.inj U).symm
   refine⟨aZ,λO=>?_,λaj K=>?_,λaj K=>?_⟩
   ·rw [O] at hw;subst hw;exact h
   ·rw [aX] at K;cases K
   ·rw [aj] at hw;subst hw;refine Ej _ (ai rfl (Bx D s) ao (λx o h=>by unfold Bx;simp only;split;(· unfold St.get;rw [h]);exact h) λ_ _ _ h=>h).out ?_ (λ_ _ h=>h);rintro aD s' ⟨rfl,rfl⟩;rw [Kq];exact h
  ·
   have aR:j∈Region.ready .any ops (Ba listed i):=ready_mono aQ ap;obtain⟨ak,V,aS,aF⟩:=mem_ready.1 aQ;obtain rfl:V=ac:=by rw [U] at aS;exact(Option.some.inj aS).symm
   have aG:=(mem_ready.1 aC).1;have a0:(V.after.any λe=>Region.binds .any e&&e.on==i)=false:=by
    rw [Array.any_eq_false];intro e he K;simp only [Bool.and_eq_true,beq_iff_eq] at K;have:=aF _ (Array.getElem_mem he) K.1;rw [K.2] at this;have al:listed.getD i true=listed.getD i false∨listed.size<=i:=by
     rcases Nat.lt_or_ge i listed.size with q | q
     ·left;simp [Array.getD_eq_getD_getElem?,q]
     ·exact .inr q
    rcases al with al | al
    ·rw [aG,this] at al;cases al
    ·rw [Array.getD_eq_getD_getElem?,Array.getElem?_eq_none al] at this;simp at this
   have a2:oi.apart ops V=true:=by
    have aH:j<ops.size:=(Array.getElem?_eq_some_iff.1 U).1;have:=List.all_eq_true.1 aO j (List.mem_range.2 aH);simp only [Bool.or_eq_true,beq_iff_eq] at this;rcases this with(q | q) | q
    ·exact absurd q ap
    ·rw [ak] at q;cases q
    ·rw [U] at q;simp only [Bool.or_eq_true] at q;rw [a0] at q;exact q.resolve_left (by simp)
   obtain⟨a1,aq,ar⟩:=Oper.apart_spec a2;obtain⟨aT,p2⟩:=HL (ops:=ops) (T:=T) (v:=if w then v else undef) (ah j V U) a1
   first
    | exact absurd aR (by rw [h.1];simp)
    | (
     obtain⟨bd,_,h⟩:=h
     obtain⟨hd,O,a3,a4⟩:=h j aR V U
     have au:Ba (Ba listed i) j=Ba (Ba listed j) i:=by
      unfold Ba;exact Array.setIfInBounds_comm _ _ (Ne.symm ap)
     have av:i∈Region.ready .any ops (Ba listed j):=ready_mono aC (Ne.symm ap)
     have aw:Ip ops (Ba listed j) i oi=true:=by
      refine List.all_eq_true.2 λx K=>?_
      have:=List.all_eq_true.1 aO x K
      simp only [Bool.or_eq_true,beq_iff_eq] at this ⊢
      rcases this with(q | q) | q
      ·exact .inl (.inl q)
      ·left;right
       by_cases e:j=x
       ·subst e;rw [ak] at q;cases q
       ·rw [Ba,getD_set_ne true e];exact q
      ·exact .inr q
     have ay:(Ba listed j).size=ops.size:=by unfold Ba;simpa using an
     have az:Hp ops (Ba listed j)=true:=by
      refine List.all_eq_true.2 λx K=>?_
      cases aI:ops[x]? with
      | none=>simp
      | some a5=>
       simp only [Bool.or_eq_true,Bool.not_eq_true']
       by_cases e:j=x
       ·subst e
        obtain rfl:a5=V:=by rw [U] at aI;exact(Option.some.inj aI).symm
        right
        refine Array.all_eq_true'.2 λe he=>?_
        cases hb:Region.binds .any e with
        | false=>simp
        | true=>
         have:=aF e he hb
         by_cases e2:j=e.on
         ·rw [← e2] at this
          have aJ:j<listed.size:=by rw [an];exact(Array.getElem?_eq_some_iff.1 U).1
          simp [Array.getD_eq_getD_getElem?,aJ] at this ak
          rw [ak] at this;cases this
         ·rw [Ba,getD_set_ne false e2];simpa using this
       ·cases aU:(Ba listed j).getD x false with
        | false=>exact .inl rfl
        | true=>
         right
         have a6:listed.getD x false=true:=by rw [Ba,getD_set_ne false e] at aU;exact aU
         refine Array.all_eq_true'.2 λaK he=>?_
         cases hb:Region.binds .any aK with
         | false=>simp
         | true=>
          have:=NT aP aI a6 aK he hb
          by_cases e2:j=aK.on
          ·rw [← e2] at this
           have aJ:j<listed.size:=by rw [an];exact(Array.getElem?_eq_some_iff.1 U).1
           simp [Array.getD_eq_getD_getElem?,aJ] at this ak
           rw [ak] at this;cases this
          ·rw [Ba,getD_set_ne false e2];simpa using this
     refine⟨hd,λa7=>?_,λaL aE=>?_,λaL aE=>?_⟩
     ·have:=O (by rw [p2];exact a7)
      rw [au,IH aq] at this
      obtain⟨Y,Z⟩:=HL (ops:=ops) (T:=T) (d:=V.dst) (v:=undef) (o:=oi) (ah i oi hi) ar
      exact am _ _ _ aw az ay av ao (by rw [Z];exact hw) (λaa s' a8 O ab=>by unfold Yl;rw [Y];exact(ai aa s' a8 O ab).out) this
     ·
      have a9:pure=true:=by
       cases ba:pure with
       | true=>rfl
       | false=>
        exfalso
        rw [ba,Bool.false_or] at aN
        have aH:j<ops.size:=(Array.getElem?_eq_some_iff.1 U).1
        have aj:=List.all_eq_true.1 aN j (List.mem_range.2 aH)
        rw [aE] at aj
        simp only [Bool.not_true,Bool.false_or] at aj
        rcases PO aP _ j V U (λe he hb=>aF e he hb) aj with q | ⟨x,Y,Z⟩
        ·have bb:i<listed.size:=by rw [an];exact(Array.getElem?_eq_some_iff.1 hi).1
         simp [Array.getD_eq_getD_getElem?,bb] at q aG
         rw [aG] at q;cases q
        ·have:¬x<listed.size:=by rw [an];intro K;simp [K] at Y
         simp [Array.getD_eq_getD_getElem?,this] at Z
      have aA:=Nr _ (a3 (by rw [p2];exact aL) aE)
      rw [aT] at aA
      refine Ej _ aA ?_ (λ_ _ h=>h)
      rintro aD s' ⟨K,ab,aM⟩
      have aB:s'.q=false:=aM.trans ao
      have aV:pure=false->∀{α:Prop},α:=λe=>by rw [a9] at e;cases e
      cases aD with
      | value u=>
       simp only at K ⊢
       rw [au,IH aq] at K
       obtain⟨Y,Z⟩:=HL (ops:=ops) (T:=T) (d:=V.dst) (v:=u) (o:=oi) (ah i oi hi) ar
       exact am _ _ _ aw az ay av aB (by rw [Z];exact hw) (λaa s2 ae O ag=>by unfold Yl;rw [Y];exact(ai aa s2 ae (λx o h=>O x o (by rw [ab];exact h)) (λe=>aV e)).out) K
      | skip=>
       simp only at K ⊢
       rw [au,IH aq] at K
       obtain⟨Y,Z⟩:=HL (ops:=ops) (T:=T) (d:=V.dst) (v:=undef) (o:=oi) (ah i oi hi) ar
       exact am _ _ _ aw az ay av aB (by rw [Z];exact hw) (λaa s2 ae O ag=>by unfold Yl;rw [Y];exact(ai aa s2 ae (λx o h=>O x o (by rw [ab];exact h)) (λe=>aV e)).out) K
      | _=>exact K.elim
     ·have aA:=Nr _ (a4 (by rw [p2];exact aL) aE)
      rw [aT] at aA
      refine Ej _ aA ?_ (λ_ _ h=>h)
      rintro aD s' ⟨K,ab,aM⟩
      have aW:=PZ (D:=D) ab
      have aB:(Cy D s s').q=false:=by show s'.q=false;rw [aM];exact ao
      cases aD with
      | value u=>
       simp only at K ⊢
       rw [au,IH aq] at K
       obtain⟨Y,Z⟩:=HL (ops:=ops) (T:=T) (d:=V.dst) (v:=u) (o:=oi) (ah i oi hi) ar
       exact am _ _ _ aw az ay av aB (by rw [Z];exact hw) (λaa s2 ae O ag=>by unfold Yl;rw [Y];exact(ai aa s2 ae (λx o h=>O x o (Ri ab h)) (λe=>by rw [aW] at ag;exact ag e)).out) K
      | skip=>
       simp only at K ⊢
       rw [au,IH aq] at K
       obtain⟨Y,Z⟩:=HL (ops:=ops) (T:=T) (d:=V.dst) (v:=undef) (o:=oi) (ah i oi hi) ar
       exact am _ _ _ aw az ay av aB (by rw [Z];exact hw) (λaa s2 ae O ag=>by unfold Yl;rw [Y];exact(ai aa s2 ae (λx o h=>O x o (Ri ab h)) (λe=>by rw [aW] at ag;exact ag e)).out) K
      | _=>exact K.elim)
end
section
variable {P:Program}(J:Judge P)(Q:Gs_)(b:Frame)(n:Nat)(ds:Ld_)(ops:Ao_)(k:Li_)(cs:Lf_)(X D:Nat->Bool)
def F4(fuel:Nat)(listed:Array Bool)(L:Env)(s:St):Prop:=∀T,Has n L T->JB J Q b ds ops k cs X D fuel listed T s
end
theorem JB.take{i:Nat}{oi:Oper}{w pure:Bool}{v:Value}{P:Program}{J:Judge P}{Q:Gs_}{b:Frame}{ds:Ld_}{ops:Ao_}{k:Li_}{cs:Lf_}{X D:Nat->Bool}(hi:ops[i]? =some oi)(K:X i=false)(O:(pure || waitAll ops X i)=true)(U:Region.noSelect ops=true)(V:∀c,oi.op≠ .defer c)
  (fuel:Nat) (listed:Array Bool) (T:Av_) (s:St) (Y:Ip ops listed i oi=true) (Z:Hp ops listed=true) (aa:listed.size=ops.size) (ab:i∈Region.ready .any ops listed) (ac:s.q=false) (ae:Region.wanted oi (yielded ops T)=w)
  (ag:w=true->∀s',s'.q=false->(pure=false->∀x o,(Bx D s).E x=some o->s'.E x=some o)->Yl P oi (By T) s' v)
  (h:JB J Q b ds ops k cs X D fuel (Ba listed i) (CM T oi.dst (if w then v else undef)) s):JB J Q b ds ops k cs X D (fuel+1) listed T s:=
 VL hi K O U V fuel listed T s Y Z aa ab ac ae (λe s' ah _ ai=>ag e s' ah ai) h
def K0(ops:Ao_)(listed:Array Bool)(xs:List Nat)(pure:Bool)(i:Nat):Bool:=match ops[i]? with
 | some oi=> !AY xs i&&(pure || waitAll ops (AY xs) i)&&Region.noSelect ops&& !DK oi.op&&Ip ops listed i oi&&Hp ops listed&&listed.size==ops.size&&(Region.ready .any ops listed).contains i
 | none=>false
section
variable {P:Program}{J:Judge P}{Q:Gs_}{b:Frame}{n:Nat}{ds:Ld_}{ops:Ao_}{k:Li_}{cs:Lf_}{fuel:Nat}{X D:Nat->Bool}{listed:Array Bool}{L:Env}{s:St}{E H:LH}{S:List Seg}{xl bks:List Nat}
variable {d:Option Tmp}{x y:Operand}{t u ty e:TypeId}{p:String}{af:Ae_}{g:On_}{v:Value}{i:Nat}{kd:IntKind}
theorem GV(xl bks:List Nat){id:Nat}(hm:P.follows .mixedOrders=true)(K:(b.kind != .early)=true)
  (h:F4 J Q b n ds ops k cs (AY xl) (AY bks) ops.size (Array.replicate ops.size false) L (Ak E H S)):JL J Q b n L ds (.code (.region id ops true)::k) cs (Ak E H S):=
 Ry rfl hm λt T O=>VW (by simpa using K) ops.size t _ T _ (h T O)
theorem JB.val{oi:Oper}(i:Nat)(pure:Bool)(hi:ops[i]? =some oi)(K:K0 ops listed xl pure i=true)(V:s.q=false)
  (hw:AT L ops oi=some true) (Y:Bh n oi.dst=true) (Z:∀ρ,EP L ρ->∀s':St,(pure=false->∀x o,(Bx D s).E x=some o->s'.E x=some o)->Yl P oi ρ s' v)
  (h:F4 J Q b n ds ops k cs (AY xl) D fuel (Ba listed i) (Ax L oi.dst v) s):F4 J Q b n ds ops k cs (AY xl) D (fuel+1) listed L s:=λT O=>by
 simp only [K0,hi,Bool.and_eq_true] at K
 obtain⟨⟨⟨⟨⟨⟨⟨aa,ab⟩,ac⟩,U⟩,ae⟩,ag⟩,ah⟩,ai⟩:=K
 refine JB.take (w:=true) (v:=v) (pure:=pure) hi (by simpa using aa) ab ac (λc K=>by rw [K] at U;simp [DK] at U) fuel listed T s ae ag (by simpa using ah) (by simpa using ai) V (Cb O hw) (λ_ s' ak aj=>Z _ O.FW s' aj) ?_
 exact h _ (O.put Y v)
theorem JB.fin(K:Region.ready .any ops listed= [])(h:JL J Q b n L ds k cs s):F4 J Q b n ds ops k cs X D 0 listed L s:=λT O=>⟨K,JL.done h T O⟩
theorem JB.store{bk off:Nat}{c:Av_}(i j:Nat)(U:Region.ready .any ops listed= [i])(aa:AY xl i=true)(ab:ops[i]? =some ⟨d,.store t x y,ty,p,af,g⟩)(hw:AT L ops ⟨d,.store t x y,ty,p,af,g⟩=some true)(ac:Bh n d=true)(ae:An E H S)
  (ag:ev L x=some (.pointer (some ⟨bk,off,none⟩))) (ah:ev L y=some v) (ai:Bm P t=some v.cells.size) (aj:∀u∈v.cells.toList,BT u=true) (V:S[j]? =some [(bk,.cells c e (0,0))]) (hle:off+v.cells.size<=c.size)
  (h:An E H (S.set j [(bk,.cells (Bb c off v.cells.toList) e (0,0))])->F4 J Q b n ds ops k cs (AY xl) D fuel (Ba listed i) (Ax L d undef) (Ak E H (S.set j [(bk,.cells (Bb c off v.cells.toList) e (0,0))]))):
  F4 J Q b n ds ops k cs (AY xl) D (fuel+1) listed L (Ak E H S):=λT K=>by
 refine⟨by rw [U];simp,rfl,λar O o' Y=>?_⟩
 rw [U] at O
 simp at O
 subst O
 obtain rfl:o'=⟨d,.store t x y,ty,p,af,g⟩:=by rw [ab] at Y;exact(Option.some.inj Y).symm
 have ak:=Cb K hw;refine⟨λc al=>(by cases al),λe=>?_,λ_ _=>?_,λ_ e=>?_⟩
 ·rw [ak] at e;cases e
 ·obtain⟨am,an⟩:=Gx ae V;rw [am];show lp P (do Instr.storeAt t (By T x) (By T y);pure Next.skip) _ _ _
  rw [K.ev ag,K.ev ah];refine Av _ _ ?_;unfold Instr.storeAt;simp only [Instr.sureAddr,bind,Sem.bind,pure];refine NW (pl:=(S.set j []).flatten.length) ai aj an (c:=c) (e:=e) (by simp) hle λZ=>?_;have ao:((S.set j []).flatten++ [(bk,Obj.cells c e (0,0))]).set (S.set j []).flatten.length (bk,.cells (Bb c off v.cells.toList) e (0,0))=(S.set j []).flatten++ [(bk,.cells (Bb c off v.cells.toList) e (0,0))]:=Im _ _ _ _;rw [ao] at Z ⊢;obtain⟨ap,aq⟩:=Io V Z;rw [ap];exact h aq _ (K.put ac undef)
 ·rw [aa] at e;cases e
end
end Pal
namespace Pal
open Go Go.Conc
theorem Mj{E H:LH}{S:List Seg}{bks:List Nat}{bk o:Nat}{l ws:Lv_}{e:TypeId}{f:Nat×Nat}{s':St}{w:Value}(j:Nat)(K:An E H S)(O:S[j]? =some [(bk,.cells (l++ws).toArray e f)])(U:AY bks bk=true)(V:∀x o,(Bx (AY bks) (Ak E H S)).E x=some o->s'.E x=some o)(Y:ws[o]? =some w):s'.cell? ⟨bk,l.length+o,none⟩=some w:=by
 have:=Vo j K O U V o w Y
 rwa [DR rfl] at this
section
variable {P:Program}{E H:LH}{B:List (Nat×Obj)}{t e ty:TypeId}
theorem PN{ats:Array TypeId}{a:Option Addr}{l K O m cx:Nat}{ax:Option Addr}{xs ys:Lv_}{z:Value}{Q:Value->St->Prop}{X:Halt->St->Prop}
  (al:ats[0]? =some t) {t1 am:TypeId} (an:ats[1]? =some t1) (ao:P.underlying t1=some (.slice am)) (ap:P.underlying t=some (.slice e)) (aq:Bm P e=some K) (hb:Fp P e=some O) (ar:zeroOf P e=some z) (au:z.cells.size=K)
  (av:Nd E H B) (ab:Hq (mk E H B) (.slice a l l) K xs)
  (Y:Hq (mk E H B) (.slice ax m cx) K ys) (aF:∀w∈ys,BT w=true) (aG:0<O) (aH:l+m<=2 ^ 40) (aw:O<=64)
  (aj:m=0->Q (.slice a (l+m) l) (mk E H B))
  (ay:∀r Z ac,l+m<=ac->Z.size=ac*K->Z.toList.take ((l+m)*K)=xs++ys->Nd E H (B++ [(r,.cells Z e (0,0))])->Q (.slice (some ⟨r,0,none⟩) (l+m) ac) (mk E H (B++ [(r,.cells Z e (0,0))]))):
  lp P (Builtin.append_ ats ty #[.slice a l l,.slice ax m cx]) (mk E H B) Q X:=by
 unfold Builtin.append_;simp only [al,an,List.getElem?_toArray,List.getElem?_cons_zero,List.getElem?_cons_succ];refine Av _ _ (Cp ap ?_);refine Av _ _ (Ex aq ?_);refine Av _ _ (Cp ao ?_);simp only [HJ,Bool.false_eq_true,if_false,Builtin.lenOf,Bool.not_false,if_true];have aa:ys.length=m*K:=by
  cases ax with
  | none=>obtain⟨U,V⟩:=Y;subst U V;simp
  | some ad=>exact Y.2.1
 have ae:xs.length=l*K:=by
  cases a with
  | none=>obtain⟨U,V⟩:=ab;subst U V;simp
  | some ad=>exact ab.2.1
 obtain⟨c,aI⟩:∃c,c=l:=⟨_,rfl⟩;split
 ·rename_i aJ;have hm:m=0:=by omega
  have az:ys= []:=List.eq_nil_of_length_eq_zero (by rw [aa,hm];simp);refine Av _ _ (JI ⟨ax,cx,rfl⟩ Y ?_);subst az;cases a with
  | none=>exact aj hm
  | some ad=>exact aj hm
 ·rename_i aK;have U:¬(((l+m:Nat):Int)>IntKind.i64.max/\(False∨O=0)):=by rintro⟨_,h | h⟩ <;> omega
  have V:¬(Builtin.nextslicecap (l+m) l*O>2 ^ 48):=by
   have:=P3 (need:=l+m) (old:=l) (by omega);have aL:Builtin.nextslicecap (l+m) l*O<=(2*(l+m)+768)*64:=Nat.mul_le_mul this aw;omega
  obtain⟨inf,ag,ah⟩:=Oi hb;refine Av _ _ (JJ ag ?_);rw [ah,if_neg U];refine Av _ _ (JJ ag ?_);rw [ah,if_neg V];refine Av _ _ ?_;simp only [choose,lp,Question.forced,Bool.false_eq_true,if_false];refine⟨rfl,λaA=>?_⟩;generalize aB:(Question.appendCap (l+m) l e).cut aA=ai;have aC:l+m<=ai:=by rw [← aB];simp [Question.cut]
  refine Av _ _ (JJ ag ?_);rw [ah];have aD:∀{α:Type} {f:Unit->Sem α} {Q:α->St->Prop},lp P (f ()) (mk E H B) Q X->lp P (askRoom (ai*O)>>=f) (mk E H B) Q X:=by
   intro α f Q ak;refine Av _ _ ?_;unfold askRoom;split
   ·exact⟨.inl ⟨rfl,rfl⟩,ak⟩
   ·exact ak
  refine aD (Av _ _ (JI ⟨a,l,rfl⟩ ab ?_));refine Av _ _ (JI ⟨ax,cx,rfl⟩ Y ?_);refine Av _ _ (Hd ar ?_);refine Av _ _ (Ih av λr aE=>?_);refine ay r _ ai aC ?_ ?_ aE
  ·simp only [Array.size_append,List.size_toArray,PL,au,ae,aa];rw [← Nat.add_mul,← Nat.add_mul];congr 1;omega
  ·simp only [Array.toList_append];rw [List.take_append_of_le_length (by simp [ae,aa,Nat.add_mul])];rw [List.take_of_length_le (by simp [ae,aa,Nat.add_mul])]
end
theorem Am.spot{α:Type}{pp:Rp α}{E:LH}{a:Option Addr}{c:Nat}{xs:List α}(h:Am pp E a c xs):∀ad,a=some ad->ad.spot=none∨c=0:=λad K=>by
 rcases h.2 with⟨_,h⟩ | ⟨bk,off,h,_⟩
 ·exact h ad K
 ·rw [h] at K;cases K;exact .inl rfl
theorem Am.full{α:Type}{pp:Rp α}{E:LH}{a:Option Addr}{c:Nat}{xs:List α}(h:Am pp E a c xs):Am pp E a xs.length xs:=⟨Nat.le_refl _,h.2.imp (λ⟨h,_⟩=>⟨h,λ_ _=> .inr (by rw [h];rfl)⟩) id⟩
theorem Am.KF{α:Type}{pp:Rp α}{E H:LH}{B:List (Nat×Obj)}{a:Option Addr}{c:Nat}{ys:List α}(Z:Am pp E a c ys):
  ∃K:List (Lv_),K.length=ys.length/\(∀(i:Nat) x ws,ys[i]? =some x->K[i]? =some ws->pp.r E ws x)/\Hq (mk E H B) (.slice a ys.length c) pp.n K.flatten/\∀w∈K.flatten,BT w=true:=by
 obtain⟨K,U,Y,V⟩:=Z.rows;have aa:=HN U Y;refine⟨K,U,Y,?_,λw hw=>?_⟩
 ·rcases V with⟨V,ai⟩ | ⟨bk,off,rfl,V⟩
  ·subst V;have:K= []:=List.eq_nil_of_length_eq_zero U;subst this;cases a with
   | none=>exact⟨rfl,rfl⟩
   | some ad=>exact⟨.inr rfl,by simp,Nat.zero_le _,λq w O=>by simp at O⟩
  ·refine⟨.inl rfl,by rw [Lb aa,U],Z.1,λq w O=>?_⟩;obtain⟨ab,m,ws,ac,e2,ae⟩:=NX aa O;have:=(V ab ws ac).cell (H:=H) (B:=B) e2;subst ae;rw [← Nat.add_assoc];exact this
 ·obtain⟨us,ag,hw⟩:=List.mem_flatten.1 hw;obtain⟨q,O⟩:=List.mem_iff_getElem?.1 ag;have ah:q<ys.length:=by rw [← U];exact(List.getElem?_eq_some_iff.1 O).1
  exact pp.one (Y q _ us (List.getElem?_eq_getElem ah) O) w hw
section
variable {P:Program}{J:Judge P}{Q:Gs_}{b:Frame}{n:Nat}{ds:Ld_}{ops:Ao_}{k:Li_}{cs:Lf_}{L:Env}{s:St}{E E' H:LH}{S:List Seg}
variable {d:Option Tmp}{x y z1:Operand}{t u ty e:TypeId}{p:String}{af:Ae_}{g:On_}{v:Value}{i:Nat}{rest:List Nat}{kd:IntKind}{ρ:Operand->Value}
theorem NZ{a:Option Addr}{l c K:Nat}(O:∀ad,a=some ad->ad.spot=none∨c=0)(U:l<=c)(V:P.underlying t=some (.slice e))(Y:Bm P e=some K)(Z:ρ x= .slice a l c)(aa:ρ y=iV (l:Int))(ab:ρ z1=iV (l:Int)):
  Yl P ⟨d,.slice t x none (some y) (some z1),ty,p,af,g⟩ ρ s (.slice a l l):=by
 have h:=Yl.slice (P:=P) (s:=s) (d:=d) (ty:=ty) (p:=p) (af:=af) (g:=g) (olo:=none) (ohi:=some y) (omx:=some z1) (lo:=0) (hi:=l) (mx:=l) V Y Z ab aa rfl U (Nat.le_refl _) (Nat.zero_le _);have ac:(if l=0 then a else a.map (·.add (0*K)))=a:=by
  split
  ·rfl
  ·cases a with
   | none=>rfl
   | some ad=>
    have:=(O ad rfl).resolve_right (by omega);simp only [Option.map_some,Nat.zero_mul];rw [DR this];obtain⟨b,o,sp⟩:=ad;simp only at this;subst this;simp
 rw [ac] at h;simpa using h
theorem P8{α:Type}{pp:Rp α}{t1:TypeId}{V c cx:Nat}{a ax:Option Addr}{xs ys Y:List α}{ats:Array TypeId}{z:Value}(U:Cr xs ys=some Y)
  (ai:ops[i]? =some ⟨d,.call ⟨.builtin .append,#[x,y],ats⟩,ty,p,af,g⟩) (hw:AT L ops ⟨d,.call ⟨.builtin .append,#[x,y],ats⟩,ty,p,af,g⟩=some true) (aj:BK b n ⟨d,.call ⟨.builtin .append,#[x,y],ats⟩,ty,p,af,g⟩=true)
  (ak:ev L x=some (.slice a xs.length xs.length)) (al:ev L y=some (.slice ax ys.length cx)) (am:ats[0]? =some t) (an:ats[1]? =some t1) (ao:P.underlying t=some (.slice e)) (ap:P.underlying t1=some (.slice e)) (aq:Bm P e=some pp.n) (hb:Fp P e=some V) (ar:zeroOf P e=some z) (au:z.cells.size=pp.n)
  (av:0<V) (aw:V<=64) (Z:Am pp E a c xs) (ay:Am pp E ax cx ys) (aa:An E H S)
  (h:∀E' ab K,Le E E'->Am pp E' ab K Y->An E' H (S++ [[]])->JL J Q b n (Ax L d (.slice ab Y.length K)) ds (.inRegion ops rest::k) cs (Ak E' H (S++ [[]]))):
  JL J Q b n L ds (.inRegion ops (i::rest)::k) cs (Ak E H S):=by
 unfold Cr at U;split at U
 rotate_left
 ·cases U
 rename_i az;cases U;obtain⟨wss,ac,aA,aB,aR⟩:=Am.KF (H:=H) (B:=S.flatten) Z.full;obtain⟨aC,aD,aE,aF,aG⟩:=Am.KF (H:=H) (B:=S.flatten) ay;have hlen:(xs++ys).length=xs.length+ys.length:=by simp
 show JL J Q b n L ds (.inRegion ops (i::rest)::k) cs (mk E H S.flatten);refine JL.op ai hw aj λρ ae=>?_;rw [K9,ae x _ ak,ae y _ al];refine Av _ _ (PN am an ap ao aq hb ar au aa aB aF aG av az aw ?_ ?_)
 ·intro hm;have aH:ys= []:=List.eq_nil_of_length_eq_zero hm;subst aH;have aI:An E H (S++ [[]]):=by unfold An at*;rw [GO,List.append_nil];exact aa
  have aJ:mk E H S.flatten=Ak E H (S++ [[]]):=by unfold Ak;rw [GO,List.append_nil]
  rw [aJ];have:=h E a xs.length (Le.refl _) (by rw [List.append_nil];exact Z.full) aI;rw [hlen] at this;exact this
 ·intro r O K aK aL aM aN;have aO:OL e pp E (some ⟨r,0,none⟩) K [(r,.cells O e (0,0))] (xs++ys):=
   ⟨wss++aC,.inr ⟨r,O,rfl,rfl,aL,by rw [hlen];exact aK,by rw [hlen,List.flatten_append];exact aM.symm⟩,by simp [ac,aD],Mb ac aA aE⟩
  have ag:=EX (S:=S) (seg:= [(r,.cells O e (0,0))]) aN;show JL J Q b n _ ds _ cs (mk E H (S.flatten++ [(r,.cells O e (0,0))]));rw [ag.1];refine BC S.length aO ag.2 (by simp) λE' hle aP ah=>?_;have aQ:(S++ [[(r,Obj.cells O e (0,0))]]).set S.length []=S++ [[]]:=Im _ _ _ _;rw [aQ] at ah ⊢;have:=h E' (some ⟨r,0,none⟩) K hle aP ah;rw [hlen] at this;exact this
end
end Pal
