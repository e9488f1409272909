/- DebtPennies is true for every input: if all coins are one pound: a part (2 of 9) of the proof of its row. -/
import Derived.Test.YtkcbafbhngehjaaGreatPna
import Derived.Conc.WgLib
import Derived.Conc.WgArith
import Derived.Conc.WgGenW
set_option linter.all false
set_option maxRecDepth 100000
namespace Pal
open Go Go.Conc
open Go.ConcN (upd upd_same upd_ne sumTo sumTo_upd sumTo_upd_out sumTo_congr le_sumTo sumTo_le)
def cU:Nx->Nat
 | .ph (.HQ _) | .ph .Iu | .ph .Hc | .ph .Jz | .ph .HS | .ph (.lk _ _)=>1
 | _=>0
def cL:Nx->Nat
 | .ph .Hs | .ph .HL=>1
 | _=>0
def cS:Nx->Nat
 | .ph .FJ=>1
 | _=>0
def pend:Nx->Nat
 | .ph (.Je _) | .ph (.Im _) | .ph (.Hy _) | .ph (.Ge _)=>1
 | _=>0
def got:Nx->List Nat
 | .ph (.Gb K _)=>K
 | _=>[]
def P3:Nx->Prop
 | .gone _=>True
 | _=>False
def Ig(n j:Nat)(c:Bool):Ph->Prop
 | .GW K | .I7 K | .Je K | .Im K | .Hy K | .Ge K=>K=j/\j<n/\c=false
 | .Hv=>j=n/\c=false
 | .Gb _ _=>j=n/\c=true
 | _=>False
def Hr(F:Fam)(k:Nat):Nx->Prop
 | .gone _=>True
 | .ph (.HQ k')=>k'=k/\F.has k=true
 | .ph (.lk k' _)=>k'=k
 | .ph .Iu | .ph .Hc | .ph .Jz | .ph .HS | .ph .Hs | .ph .HL | .ph .FJ=>True
 | _=>False
def Kl:Nx->Prop
 | .gone _=>True
 | .ph .DF | .ph (.Gu _) | .ph (.HV _) | .ph .Jc | .ph .Ix | .ph .FV | .ph .HM | .ph .GA | .ph .I9 | .ph .GV | .ph .Ij=>True
 | _=>False
def DY(x:Nx)(v wt sm L S:Nat)(cl:Bool):Prop:=
 match x with
 | .ph .DF=>L=0/\S=0/\sm=0/\wt=0/\cl=false
 | .ph (.Gu m)=>L=0/\S=0/\sm=0/\wt=0/\cl=false/\v<=m
 | .ph (.HV m)=>L=0/\S=0/\sm=0/\wt=0/\cl=false/\v<=m/\1<=m
 | .ph .Jc | .ph .Ix | .ph .FV=>L+S+sm+min v 1=1/\wt=L+min v 1/\cl=false
 | .ph .HM | .ph .GA | .ph .I9 | .ph .GV | .ph .Ij=>L=0/\S=0/\sm=0/\wt=0/\v=0/\cl=false
 | .gone _=>L=0/\S=0/\sm=0/\wt=0/\v=0/\cl=true
 | _=>False
structure CQ (F:Fam) (N0 N j:Nat) (c:Bool) (φ:Nat->Nx) (v wt sm:Nat) (cl:Bool):Prop where
 pos:0<N0
 n1:1<=F.n
 Iy:F.n<2147483647
 size:N=N0+j+c.toNat
 jn:j<=F.n
 cj:c=true->j=F.n
 main:∃p,φ 0=.ph p/\Ig F.n j c p
 old:∀i,0<i->i<N0->P3 (φ i)
 work:∀k,k<j->Hr F k (φ (N0+k))
 cls:c=true->Kl (φ (N0+F.n))
 cnt:v=sumTo N (λi=>cU (φ i))+pend (φ 0)
 K7:v<=j+pend (φ 0)
 mode:DY (if c=true then φ (N0+F.n) else .ph .DF) v wt sm (sumTo N λi=>cL (φ i)) (sumTo N λi=>cS (φ i)) cl
 L5:∀k,k<j->F.has k=true->(φ (N0+k)=.ph (.HQ k)↔k ∉ got (φ 0))
 nd:(got (φ 0)).Nodup
 sub:∀k∈got (φ 0),k<j/\F.has k=true
variable{i:Nat}{x:Nx}{p:Ph}{es:Array Event}
section
variable {F:Fam}{N0 N j:Nat}{c:Bool}{φ:Nat->Nx}{v wt sm v' wt' sm':Nat}{cl cl':Bool}
theorem CQ.Fa(h:CQ F N0 N j c φ v wt sm cl)(hi:i<N):i=0∨(0<i/\i<N0)∨(∃k,k<j/\i=N0+k)∨(c=true/\i=N0+F.n):=by
 have:=h.size;rcases qo i with K | K;exact .inl K
 rcases mt i N0 with U | U;exact .inr (.inl ⟨K,U⟩)
 rcases mt i (N0+j) with Y | Y;exact .inr (.inr (.inl ⟨i - N0,by omega,by omega⟩))
 .cases O:c with
  | false=>rw[O] at this;simp at this;omega
  | true=>have e:=h.cj O;rw[O] at this;simp at this;exact .inr (.inr (.inr ⟨rfl,by omega⟩))
theorem CQ.S6(h:CQ F N0 N j c φ v wt sm cl):v<=F.n:=by
 have K:=h.K7;obtain⟨p,O,hm⟩:=h.main;have:=h.jn;rw[O] at K;cases p<;>simp[Ig] at hm<;>simp[pend] at K<;>omega
theorem CQ.I6(h:CQ F N0 N j c φ v wt sm cl){k:Nat}(ag:k<j)(ai:Hr F k x)(al:∀k',φ (N0+k)≠ .ph (.HQ k'))(am:∀k',x≠ .ph (.HQ k'))
  (a2:v'+cU (φ (N0+k))=v+cU x)
  (hm:∀L S,L+cL (φ (N0+k))=(sumTo N λi=>cL (φ i))+cL x->S+cS (φ (N0+k))=(sumTo N λi=>cS (φ i))+cS x->DY (if c=true then φ (N0+F.n) else .ph .DF) v' wt' sm' L S cl'):
  CQ F N0 N j c (upd φ (N0+k) x) v' wt' sm' cl':=by
 have a3:=h.size;have a4:=h.jn;have a5:=h.pos;have Y:N0+k<N:=by omega
 have K:upd φ (N0+k) x 0=φ 0:=upd_ne _ _ (by omega);have ap:(if c=true then upd φ (N0+k) x (N0+F.n) else .ph .DF)=(if c=true then φ (N0+F.n) else .ph .DF):=by
  cases O:c with
  | false=>rfl
  | true=>have:=h.cj O;simp only[qs];exact upd_ne _ _ (by omega)
 have s1:=sumTo_upd φ x cU Y;have s2:=sumTo_upd φ x cL Y;have aq:=sumTo_upd φ x cS Y;have a6:=h.cnt;have a7:=h.K7;refine⟨h.pos,h.n1,h.Iy,h.size,h.jn,h.cj,by rw[K];exact h.main,λi av aw=>by rw[upd_ne _ _ (by omega)];exact h.old i av aw,λk' U=>?_,λO=>?_,by rw[K];omega,?_,?_,λk' U hh=>?_,by rw[K];exact h.nd,by rw[K];exact h.sub⟩;by_cases e:k'=k;subst e;rw[upd_same];exact ai;rw[upd_ne _ _ (by omega)];exact h.work k' U;have:=h.cj O;rw[upd_ne _ _ (by omega)];exact h.cls O
 .rw [K];have:cU x<=1:=by cases x with
   | gone d=>simp[cU]
   | ph p=>cases p<;>simp[cU]
  have hw:=h.work k ag;have key:cU x<=cU (φ (N0+k))∨cU (φ (N0+k))<cU x:=by omega
  rcases key with hle | a8;omega
  ·
   have:(sumTo N λa=>cU (upd φ (N0+k) x a))<=j:=by
    have hb:∀M,M<=N->(sumTo M λa=>cU (upd φ (N0+k) x a))<=min (M - N0) j:=by
     intro M
     induction M with
     | zero=>intro _;simp[sumTo]
     | succ M ay=>
      intro a9;have:=ay (by omega);simp only[sumTo];have bb:cU (upd φ (N0+k) x M)<=1:=by
       generalize upd φ (N0+k) x M=y;cases y with
       | gone d=>simp[cU]
       | ph p=>cases p<;>simp[cU]
      have ac:(M<N0∨N0+j<=M)->cU (upd φ (N0+k) x M)=0:=by
       intro be;rw[upd_ne _ _ (by omega)];rcases h.Fa (i:=M) (by omega) with rfl | ⟨a,b⟩ | ⟨k',a,rfl⟩ | ⟨a,rfl⟩;obtain⟨p,az,hm⟩:=h.main;rw[az];cases p<;>simp[Ig] at hm<;>rfl
       .have:=h.old M a b;cases Z:φ M with
        | gone d=>rfl
        | ph p=>rw[Z] at this;exact this.elim
       .omega
       .have:=h.cls a;cases Z:φ (N0+F.n) with
        | gone d=>rfl
        | ph p=>rw[Z] at this;cases p<;>simp[Kl] at this<;>rfl
      rcases mt M N0 with q | q;rw[ac (.inl q)];omega;rcases mt M (N0+j) with q' | q';omega;rw[ac (.inr q')];omega
    have:=hb N (no _);omega
   omega
 rw[ap];exact hm _ _ s2 aq;rw[K];by_cases e:k'=k;subst e;rw[upd_same];have:=h.L5 k' U hh;constructor;intro a0;exact absurd a0 (am k');intro a1;exact absurd (this.2 a1) (al k');rw[upd_ne _ _ (by omega)];exact h.L5 k' U hh
theorem CQ.Iq(h:CQ F N0 N j c φ v wt sm cl)(O:c=true)(Z:Kl x)
  (hm:DY x v wt' sm' (sumTo N λi=>cL (φ i)) (sumTo N λi=>cS (φ i)) cl'):
  CQ F N0 N j c (upd φ (N0+F.n) x) v wt' sm' cl':=by
 have ac:=h.size;have ap:=h.pos;have aq:=h.cj O;have U:N0+F.n<N:=by rw[O] at ac;simp at ac;omega
 have K:upd φ (N0+F.n) x 0=φ 0:=upd_ne _ _ (by omega);have z:∀y,Kl y->cU y=0/\cL y=0/\cS y=0:=by
  intro y ag;cases y with
  | gone d=>exact⟨rfl,rfl,rfl⟩
  | ph p=>cases p<;>simp[Kl] at ag<;>exact⟨rfl,rfl,rfl⟩
 have z1:=z _ (h.cls O);have av:=z x Z;have s1:=sumTo_upd φ x cU U;have s2:=sumTo_upd φ x cL U;have aw:=sumTo_upd φ x cS U;have ay:=h.cnt;refine⟨h.pos,h.n1,h.Iy,h.size,h.jn,h.cj,by rw[K];exact h.main,λi ai al=>by rw[upd_ne _ _ (by omega)];exact h.old i ai al,λk' Y=>?_,λO=>?_,by rw[K];omega,by rw[K];exact h.K7,?_,λk' Y hh=>?_,by rw[K];exact h.nd,by rw[K];exact h.sub⟩;rw[upd_ne _ _ (by omega)];exact h.work k' Y;rw[upd_same];exact Z
 .rw [eS O,upd_same];have e2:(sumTo N λi=>cL (upd φ (N0+F.n) x i))=sumTo N λi=>cL (φ i):=by omega
  have am:(sumTo N λi=>cS (upd φ (N0+F.n) x i))=sumTo N λi=>cS (φ i):=by omega
  rw[e2,am];exact hm
 .rw [K,upd_ne _ _ (by omega)];exact h.L5 k' Y hh
theorem Uq{n j:Nat}{c:Bool}(h:Ig n j c p):cU (.ph p)=0/\cL (.ph p)=0/\cS (.ph p)=0:=by
 cases p<;>simp[Ig] at h<;>exact⟨rfl,rfl,rfl⟩
theorem CQ.MZ(h:CQ F N0 N j c φ v wt sm cl)(Y:Ig F.n j c p)(K:got (.ph p)=got (φ 0))(av:v'+pend (φ 0)=v+pend (.ph p))(Z:v'<=j+pend (.ph p))
  (hm:DY (if c=true then φ (N0+F.n) else .ph .DF) v' wt' sm' (sumTo N λi=>cL (φ i)) (sumTo N λi=>cS (φ i)) cl'):
  CQ F N0 N j c (upd φ 0 (.ph p)) v' wt' sm' cl':=by
 have aw:=h.size;have ay:=h.pos;have O:0<N:=by omega
 obtain⟨az,ac,ag⟩:=h.main;have z1:=Uq ag;have a0:=Uq Y;rw[← ac] at z1;have s1:=sumTo_upd φ (.ph p) cU O;have s2:=sumTo_upd φ (.ph p) cL O;have a1:=sumTo_upd φ (.ph p) cS O;have a2:=h.cnt;have ai:(if c=true then upd φ 0 (.ph p) (N0+F.n) else .ph .DF)=(if c=true then φ (N0+F.n) else .ph .DF):=by rw[upd_ne _ _ (by omega)]
 refine⟨h.pos,h.n1,h.Iy,h.size,h.jn,h.cj,⟨p,upd_same _ _ _,Y⟩,λi al am=>by rw[upd_ne _ _ (by omega)];exact h.old i al am,λk' U=>by rw[upd_ne _ _ (by omega)];exact h.work k' U,λap=>by rw[upd_ne _ _ (by omega)];exact h.cls ap,by rw[upd_same];omega,by rw[upd_same];exact Z,?_,λk' U hh=>?_,by rw[upd_same,K];exact h.nd,by rw[upd_same,K];exact h.sub⟩
 .rw [ai];have e2:(sumTo N λi=>cL (upd φ 0 (.ph p) i))=sumTo N λi=>cL (φ i):=by omega
  have aq:(sumTo N λi=>cS (upd φ 0 (.ph p) i))=sumTo N λi=>cS (φ i):=by omega
  rw[e2,aq];exact hm
 .rw [upd_same,K,upd_ne _ _ (by omega)];exact h.L5 k' U hh
theorem CQ.act(h:CQ F N0 N j c φ v wt sm cl)(hi:i<N)(K:φ i=.ph p){a2:Nx}(O:F.act p v wt sm=some ((v',wt',sm'),es,a2)):
  CQ F N0 N j c (upd φ i a2) v' wt' sm' cl:=by
 have U:=h.mode;have a4:=h.S6;rcases h.Fa hi with rfl | ⟨a,b⟩ | ⟨k,ap,rfl⟩ | ⟨ac,rfl⟩
 ·
  obtain⟨ay,a3,aq⟩:=h.main;have:ay=p:=by rw[a3] at K;exact Nx.ph.inj K
  subst this;have a6:∀q,Ig F.n j c q->(∀a5 vs,q≠ .Gb a5 vs)->c=false:=by
   intro q az a0;cases q<;>simp[Ig] at az<;>first | exact az.2.2 | exact az.2 | exact absurd rfl (a0 _ _)
  have al:=h.K7;cases ay<;>simp only[Ig] at aq<;>(try exact aq.elim)<;>simp only[Fam.act] at O<;>(try (cases O;done));cases O;obtain⟨rfl,am,rfl⟩:=aq;exact h.MZ (p:=.I7 _) ⟨V,am,V⟩ (by rw[K];rfl) (by rw[K];rfl) (by rw[K] at al;exact al) (by simpa [DY] using U);split at O;rename_i ag;cases O;obtain⟨rfl,am,rfl⟩:=aq;rw[K] at al;simp only[pend,qq] at al;simp only[px,qp,DY] at U;split;exact h.MZ (p:=.Je _) ⟨V,am,V⟩ (by rw[K];rfl) (by rw[K];simp[pend]) (by simp[pend];omega) ⟨U.1,U.2.1,U.2.2.1,V,U.2.2.2.2⟩;exact h.MZ (p:=.Hy _) ⟨V,am,V⟩ (by rw[K];rfl) (by rw[K];simp[pend]) (by simp[pend];omega) ⟨U.1,U.2.1,U.2.2.1,V,U.2.2.2.2⟩;cases O;cases O;obtain⟨rfl,am,rfl⟩:=aq;exact h.MZ (p:=.Hy _) ⟨V,am,V⟩ (by rw[K];rfl) (by rw[K];rfl) (by rw[K] at al;exact al) (by simpa [DY] using U);cases O;obtain⟨rfl,am,rfl⟩:=aq;exact h.MZ (p:=.Ge _) ⟨V,am,V⟩ (by rw[K];rfl) (by rw[K];rfl) (by rw[K] at al;exact al) (by simpa [DY] using U);cases O;obtain⟨rfl,am,rfl⟩:=aq;exact h.MZ (p:=.Im _) ⟨V,am,V⟩ (by rw[K];rfl) (by rw[K];rfl) (by rw[K] at al;exact al) (by simpa [DY] using U)
 .have:=h.old i a b;rw[K] at this;exact this.elim
 ·
  have hw:=h.work k ap;rw[K] at hw;have a7:∀q k',q=Nx.ph p->(∀k',p≠ .HQ k')->q≠ .ph (.HQ k'):=by
   rintro q k' rfl a0 e;exact a0 k' (Nx.ph.inj e)
  cases p<;>simp only[Hr] at hw<;>(try exact hw.elim)<;>simp only[Fam.act] at O<;>(try (cases O;done));cases O;refine h.I6 ap (x:=.ph .Jz) trivial (λk'=>by rw[K];simp) (by simp) (by rw[K];rfl) λL S Y Z=>?_;rw[K] at Y Z;simp only[cL,cS,qq] at Y Z;subst Y Z;exact U;cases O;refine h.I6 ap (x:=.ph .HS) trivial (λk'=>by rw[K];simp) (by simp) (by rw[K];rfl) λL S Y Z=>?_;rw[K] at Y Z;simp only[cL,cS,qq] at Y Z;subst Y Z;exact U
  .split at O
   .rename_i ag;cases O;have aw:∀y ai S0 L S,y=(if c=true then φ (N0+F.n) else .ph .DF)->DY y v wt sm ai S0 cl->(if v=1/\wt=1 then L=ai+1 else L=ai)->S=S0->DY y (v - 1) wt sm L S cl:=by
     intro y ai S0 L S a8 hm Y Z;cases y with
     | gone d=>simp only[DY] at hm ⊢;split at Y<;>omega
     | ph q=>
      cases q<;>simp only[DY] at hm ⊢<;>(try exact hm)<;>(try (split at Y<;>omega));split at Y;exfalso;omega;exact⟨by omega,by omega,by omega,by omega,hm.2.2.2.2⟩;split at Y;exfalso;omega;exact⟨by omega,by omega,by omega,by omega,hm.2.2.2.2.1,by omega⟩;split at Y;exfalso;omega;exact⟨by omega,by omega,by omega,by omega,hm.2.2.2.2.1,by omega,by omega⟩;split at Y;exact⟨by omega,by omega,hm.2.2⟩;exact⟨by omega,by omega,hm.2.2⟩;split at Y;exact⟨by omega,by omega,hm.2.2⟩;exact⟨by omega,by omega,hm.2.2⟩;split at Y;exact⟨by omega,by omega,hm.2.2⟩;exact⟨by omega,by omega,hm.2.2⟩
    split;rename_i av;refine h.I6 ap (x:=.ph .Hs) trivial (λk'=>by rw[K];simp) (by simp) (by rw[K];simp[cU];omega) λL S Y Z=>?_;rw[K] at Y Z;simp only[cL,cS,qq] at Y Z;exact aw _ _ _ L S V U (by rw[eS av];exact Y) Z;rename_i av;refine h.I6 ap (x:=.gone 1) trivial (λk'=>by rw[K];simp) (by simp) (by rw[K];simp[cU];omega) λL S Y Z=>?_;rw[K] at Y Z;simp only[cL,cS,qq] at Y Z;exact aw _ _ _ L S V U (by rw[d9 av];exact Y) Z
   .cases O
  .split at O
   .rename_i ag;cases O;refine h.I6 ap (x:=.ph .HL) trivial (λk'=>by rw[K];simp) (by simp) (by rw[K];simp[cU];omega) λL S Y Z=>?_;rw[K] at Y Z;simp only[cL,cS,qq] at Y Z;have e:L=sumTo N λi=>cL (φ i):=by
     have a9:L+1=(sumTo N λi=>cL (φ i))+1:=Y;omega
    obtain⟨av,a1⟩:=ag;subst e Z av a1;exact U
   .cases O
  .split at O
   .rename_i ag;cases O;obtain⟨av,a1⟩:=ag;subst av a1;refine h.I6 ap (x:=.ph .FJ) trivial (λk'=>by rw[K];simp) (by simp) (by rw[K];simp[cU]) λL S Y Z=>?_;rw[K] at Y Z;simp only[cL,cS,qq] at Y Z;have aw:∀y ai S0,DY y 0 1 sm ai S0 cl->L+1=ai->S=S0+1->DY y 0 0 sm L S cl:=by
     intro y ai S0 hm Y Z;cases y with
     | gone d=>simp only[DY] at hm ⊢;omega
     | ph q=>
      cases q<;>simp only[DY] at hm ⊢<;>(try exact hm)<;>(try (exfalso;omega));exact⟨by omega,by omega,hm.2.2⟩;exact⟨by omega,by omega,hm.2.2⟩;exact⟨by omega,by omega,hm.2.2⟩
    exact aw _ _ _ U Y Z
   .cases O
  .split at O
   .rename_i ag;cases O;subst ag;refine h.I6 ap (x:=.gone 1) trivial (λk'=>by rw[K];simp) (by simp) (by rw[K];simp[cU]) λL S Y Z=>?_;rw[K] at Y Z;simp only[cL,cS,qq] at Y Z;have aw:∀y ai S0,DY y v wt 0 ai S0 cl->L=ai->S+1=S0->DY y v wt 1 L S cl:=by
     intro y ai S0 hm Y Z;cases y with
     | gone d=>simp only[DY] at hm ⊢;omega
     | ph q=>
      cases q<;>simp only[DY] at hm ⊢<;>(try exact hm)<;>(try (exfalso;omega));exact⟨by omega,by omega,hm.2.2⟩;exact⟨by omega,by omega,hm.2.2⟩;exact⟨by omega,by omega,hm.2.2⟩
    exact aw _ _ _ U Y Z
   .cases O
  .cases O;refine h.I6 ap (x:=.ph .Hc) trivial (λk'=>by rw[K];simp) (by simp) (by rw[K];rfl) λL S Y Z=>?_;rw[K] at Y Z;simp only[cL,cS,qq] at Y Z;subst Y Z;exact U
 ·
  have hw:=h.cls ac;rw[eS ac,K] at U;rw[K] at hw;obtain⟨ay,a3,aq⟩:=h.main;cases p<;>simp only[Kl] at hw<;>(try exact hw.elim)<;>simp only[Fam.act] at O<;>(try (cases O;done))<;>simp only[DY] at U;cases O;exact h.Iq ac (x:=.ph (.Gu F.n)) trivial ⟨U.1,U.2.1,U.2.2.1,U.2.2.2.1,U.2.2.2.2,a4⟩;split at O;rename_i m ag;cases O;split;exact h.Iq ac (x:=.ph .GA) trivial ⟨U.1,U.2.1,U.2.2.1,V,by assumption,U.2.2.2.2.1⟩;exact h.Iq ac (x:=.ph (.HV _)) trivial ⟨U.1,U.2.1,U.2.2.1,V,U.2.2.2.2.1,no _,by omega⟩;cases O;split at O;rename_i m ag;split at O;cases O;exact h.Iq ac (x:=.ph .Jc) trivial ⟨by omega,by omega,U.2.2.2.2.1⟩;cases O;exact h.Iq ac (x:=.ph (.Gu _)) trivial ⟨U.1,U.2.1,U.2.2.1,V,U.2.2.2.2.1,by omega⟩;cases O;cases O;exact h.Iq ac (x:=.ph .FV) trivial U;split at O;rename_i ag;cases O;exact h.Iq ac (x:=.ph .HM) trivial ⟨by omega,by omega,V,by omega,by omega,U.2.2⟩;cases O;split at O;rename_i ag;obtain⟨rfl,rfl⟩:=ag;cases O;exact h.Iq ac (x:=.ph .GA) trivial U;cases O;cases O;exact h.Iq ac (x:=.ph .I9) trivial U;cases O;exact h.Iq ac (x:=.ph .Ix) trivial U;cases O;exact h.Iq ac (x:=.ph .GV) trivial U
end
open Go.ConcN (fork_knows)
section
variable {F:Fam}{N0 N j:Nat}{c:Bool}{φ:Nat->Nx}{v wt sm:Nat}{cl:Bool}
theorem CQ.spawn(h:CQ F N0 N j c φ v wt sm cl)(U:φ 0=.ph (.Ge j)):
  CQ F N0 (N+1) (j+1) c (upd (upd φ N (.ph (F.start j))) 0 (.ph (F.FQ j))) v wt sm cl:=by
 obtain⟨aq,av,aw⟩:=h.main;obtain rfl:aq=.Ge j:=by rw[av] at U;exact Nx.ph.inj U
 obtain⟨_,a2,rfl⟩:=aw;have ay:=h.size;have a3:=h.pos;simp only[pu,qq] at ay;have Y:cU (.ph (F.start j))=1/\cL (.ph (F.start j))=0/\cS (.ph (F.start j))=0:=by
  exact⟨V,V,V⟩
 have K:cU (.ph (F.FQ j))=0/\cL (.ph (F.FQ j))=0/\cS (.ph (F.FQ j))=0/\pend (.ph (F.FQ j))=0/\got (.ph (F.FQ j))=[]:=by
  unfold Fam.FQ;split<;>exact⟨rfl,rfl,rfl,rfl,rfl⟩
 have Z:cU (φ 0)=0/\cL (φ 0)=0/\cS (φ 0)=0:=by rw[U];exact⟨V,V,V⟩
 let φ':Nat->Nx:=upd (upd φ N (.ph (F.start j))) 0 (.ph (F.FQ j));have O:φ' 0=.ph (F.FQ j):=upd_same _ _ _;have ap:φ' N=.ph (F.start j):=by show upd _ _ _ _=_;rw[upd_ne _ _ (by omega),upd_same]
 have ac:∀i,0<i->i≠N->φ' i=φ i:=λi ag ai=>by show upd _ _ _ _=_;rw[upd_ne _ _ (by omega),upd_ne _ _ ai]
 have sum:∀f:Nx->Nat,f (φ 0)=0->f (.ph (F.FQ j))=0->(sumTo (N+1) λi=>f (φ' i))=(sumTo N λi=>f (φ i))+f (.ph (F.start j)):=by
  intro f f0 f1;simp only[sumTo,ap];congr 1;have az:0<N:=by omega
  have:=sumTo_upd (upd φ N (.ph (F.start j))) (.ph (F.FQ j)) f az;have e2:upd φ N (.ph (F.start j)) 0=φ 0:=upd_ne _ _ (by omega);rw[e2,f0,f1] at this;have a4:=sumTo_upd_out φ (.ph (F.start j)) f (i:=N) (j:=N) (no _);show sumTo N (λi=>f (upd (upd φ N (.ph (F.start j))) 0 (.ph (F.FQ j)) i))=_;omega
 have al:=h.cnt;have am:=h.K7;rw[U] at al am;simp only[pend] at al am;show CQ F N0 (N+1) (j+1) false φ' v wt sm cl;have a0:got (φ 0)=[]:=by rw[U];rfl
 refine⟨h.pos,h.n1,h.Iy,by simp;omega,by omega,by simp,⟨F.FQ j,O,?_⟩,λi ag ai=>by rw[ac i ag (by omega)];exact h.old i ag ai,λk a1=>?_,by simp,?_,?_,?_,λk a1 hh=>?_,by rw[O,K.2.2.2.2];exact .nil,by rw[O,K.2.2.2.2];simp⟩;unfold Fam.FQ;split;exact⟨by assumption,V⟩;exact⟨V,by omega,V⟩;by_cases e:k=j;subst e;rw[show N0+k=N by omega,ap];exact V;rw[ac _ (by omega) (by omega)];exact h.work k (by omega);rw[O,K.2.2.2.1,sum cU Z.1 K.1,Y.1];exact al;rw[O,K.2.2.2.1];exact am;have hm:=h.mode;simp only[px,qp] at hm ⊢;rw[sum cL Z.2.1 K.2.1,sum cS Z.2.2 K.2.2.1,Y.2.1,Y.2.2];exact hm
 .rw [O,K.2.2.2.2];by_cases e:k=j;exact absurd hh q2
  .rw [ac _ (by omega) (by omega)];have:=h.L5 k (by omega) hh
   rwa[a0] at this
theorem CQ.fH(h:CQ F N0 N j c φ v wt sm cl)(O:φ 0=.ph .Hv):
  CQ F N0 (N+1) j true (upd (upd φ N (.ph .DF)) 0 (.ph (.Gb [] []))) v wt sm cl:=by
 obtain⟨aq,av,aw⟩:=h.main;obtain rfl:aq=.Hv:=by rw[av] at O;exact Nx.ph.inj O
 obtain⟨ap,rfl⟩:=aw;have ay:=h.size;have a1:=h.pos;simp only[pu,qq] at ay;have U:cU (φ 0)=0/\cL (φ 0)=0/\cS (φ 0)=0:=by rw[O];exact⟨V,V,V⟩
 let φ':Nat->Nx:=upd (upd φ N (.ph .DF)) 0 (.ph (.Gb [] []));have K:φ' 0=.ph (.Gb [] []):=upd_same _ _ _;have Y:φ' N=.ph .DF:=by show upd _ _ _ _=_;rw[upd_ne _ _ (by omega),upd_same]
 have Z:∀i,0<i->i≠N->φ' i=φ i:=λi ac ag=>by show upd _ _ _ _=_;rw[upd_ne _ _ (by omega),upd_ne _ _ ag]
 have sum:∀f:Nx->Nat,f (φ 0)=0->f (.ph (.Gb [] []))=0->f (.ph .DF)=0->(sumTo (N+1) λi=>f (φ' i))=(sumTo N λi=>f (φ i)):=by
  intro f f0 f1 f2;simp only[sumTo,Y,f2];have az:0<N:=by omega
  have:=sumTo_upd (upd φ N (.ph .DF)) (.ph (.Gb [] [])) f az;have e2:upd φ N (.ph .DF) 0=φ 0:=upd_ne _ _ (by omega);rw[e2,f0,f1] at this;have a2:=sumTo_upd_out φ (.ph .DF) f (i:=N) (j:=N) (no _);show sumTo N (λi=>f (upd (upd φ N (.ph .DF)) 0 (.ph (.Gb [] [])) i))+0=_;omega
 have ai:=h.cnt;have al:=h.K7;rw[O] at ai al;simp only[pend] at ai al;show CQ F N0 (N+1) j true φ' v wt sm cl;have a0:got (φ 0)=[]:=by rw[O];rfl
 refine⟨h.pos,h.n1,h.Iy,by simp;omega,h.jn,λ_=>ap,⟨.Gb [] [],K,ap,V⟩,λi ac ag=>by rw[Z i ac (by omega)];exact h.old i ac ag,λk am=>?_,λ_=>by rw[show N0+F.n=N by omega,Y];trivial,?_,?_,?_,λk am hh=>?_,by rw[K];exact .nil,by rw[K];simp[got]⟩;rw[Z _ (by omega) (by omega)];exact h.work k am;rw[K,sum cU U.1 rfl rfl];exact ai;rw[K];exact al;have hm:=h.mode;simp only[px,qp,qs] at hm ⊢;rw[show N0+F.n=N by omega,Y,sum cL U.2.1 rfl rfl,sum cS U.2.2 rfl rfl];exact hm
 .rw [K];rw[Z _ (by omega) (by omega)];have:=h.L5 k am hh
  rwa[a0] at this
theorem CQ.leave(h:CQ F N0 N j c φ v wt sm cl){d d':Nat}(hi:i<N)(K:φ i=.gone d):CQ F N0 N j c (upd φ i (.gone d')) v wt sm cl:=by
 rcases h.Fa hi with rfl | ⟨a,b⟩ | ⟨k,U,rfl⟩ | ⟨Y,rfl⟩;obtain⟨p,Z,_⟩:=h.main;rw[K] at Z;cases Z
 .have al:=hi;have z:∀f:Nx->Nat,f (.gone d)=0->f (.gone d')=0->(sumTo N λa=>f (upd φ i (.gone d') a))=sumTo N λa=>f (φ a):=by
   intro f f0 f1;have:=sumTo_upd φ (.gone d') f al;rw[K] at this;omega
  have av:=h.size;have O:upd φ i (.gone d') 0=φ 0:=upd_ne _ _ (by omega);refine⟨h.pos,h.n1,h.Iy,h.size,h.jn,h.cj,by rw[O];exact h.main,λac am ap=>?_,λk U=>by rw[upd_ne _ _ (by omega)];exact h.work k U,λY=>by rw[upd_ne _ _ (by omega)];exact h.cls Y,by rw[O,z cU rfl rfl];exact h.cnt,by rw[O];exact h.K7,?_,λk U hh=>by rw[O,upd_ne _ _ (by omega)];exact h.L5 k U hh,by rw[O];exact h.nd,by rw[O];exact h.sub⟩;by_cases e:ac=i;subst e;rw[upd_same];trivial;rw[upd_ne _ _ e];exact h.old ac am ap;rw[z cL rfl rfl,z cS rfl rfl,upd_ne _ _ (by omega)];exact h.mode
 refine h.I6 U (x:=.gone d') trivial (by rw[K];simp) (by simp) (by rw[K];rfl) λL S ag ai=>?_;rw[K] at ag ai;have aq:L=sumTo N λi=>cL (φ i):=ag;have e2:S=sumTo N λi=>cS (φ i):=ai;subst aq e2;exact h.mode;have hm:=h.mode;rw[eS Y,K] at hm;exact h.Iq Y (x:=.gone d') trivial hm
theorem CQ.cb(h:CQ F N0 N j c φ v wt sm cl)(O:c=true)(U:φ (N0+F.n)=.ph .HM∨φ (N0+F.n)=.ph .GA∨φ (N0+F.n)=.ph .GV∨φ (N0+F.n)=.ph .Ij∨P3 (φ (N0+F.n))):∀k,k<j->P3 (φ (N0+k)):=by
 intro k Y;have hm:=h.mode;rw[eS O] at hm;have Z:=h.size;have ac:=h.cnt;have ag:cU (φ (N0+k))<=sumTo N λi=>cU (φ i):=le_sumTo (f:=λi=>cU (φ i)) (show N0+k<N by omega);have ai:cL (φ (N0+k))<=sumTo N λi=>cL (φ i):=le_sumTo (f:=λi=>cL (φ i)) (show N0+k<N by omega);have al:cS (φ (N0+k))<=sumTo N λi=>cS (φ i):=le_sumTo (f:=λi=>cS (φ i)) (show N0+k<N by omega);have am:v=0/\(sumTo N λi=>cL (φ i))=0/\(sumTo N λi=>cS (φ i))=0:=by
  rcases U with e | e | e | e | e;rw[e] at hm;exact⟨hm.2.2.2.2.1,hm.1,hm.2.1⟩;rw[e] at hm;exact⟨hm.2.2.2.2.1,hm.1,hm.2.1⟩;rw[e] at hm;exact⟨hm.2.2.2.2.1,hm.1,hm.2.1⟩;rw[e] at hm;exact⟨hm.2.2.2.2.1,hm.1,hm.2.1⟩
  .cases K:φ (N0+F.n) with
   | gone d=>rw[K] at hm;exact⟨hm.2.2.2.2.1,hm.1,hm.2.1⟩
   | ph p=>rw[K] at e;exact e.elim
 have hw:=h.work k Y;cases K:φ (N0+k) with
 | gone d=>trivial
 | ph p=>
  have ap:1<=cU (φ (N0+k))+cL (φ (N0+k))+cS (φ (N0+k)):=by
   rw[K] at hw ⊢;cases p<;>simp only[Hr] at hw<;>simp[cU,cL,cS]
  exfalso;omega
end
open Go.ConcN (RelBy)
def dl:LP->Nat
 | .HN | .EC _ _ _ | .Cw _ _ _ _ | .IZ _ | .CI _ | .Gs | .EW _ | .EA _ | .len=>1
 | .Ir | .Ff _ | .HU | .FE _ | .FG=>1
 | _=>0
def Gd:Nx->Nat
 | .gone d=>d
 | .ph .HS | .ph .Hs | .ph .HL | .ph .FJ=>1
 | .ph (.Gu _) | .ph (.HV _) | .ph .Jc | .ph .Ix | .ph .FV | .ph .HM | .ph .GA=>1
 | .ph (.I7 _) | .ph (.Je _) | .ph (.Im _) | .ph (.Hy _)=>1
 | .ph (.lk _ p)=>dl p
 | _=>0
def late:Nx->Prop
 | .ph (.HQ _) | .ph .Iu | .ph .Hc | .ph (.lk _ _)=>False
 | _=>True
def KE(t:Trace)(E:LH)(ρ:Nat):Prop:=∀b,E b≠none->∀x a,touchAt t x=some a->C4 a.loc=some b->a.write=true->Before t x ρ
structure FB (F:Fam) (N0 t0 N j:Nat) (φ:Nat->Nx) (S:Nat->St) (t:Trace):Prop where
 deaf:∀i,i<N->Deaf t i=Gd (φ i)
 above:∀i,N<=i->Deaf t i=0
 plain:∀x a b,touchAt t x=some a->C4 a.loc=some b->(b=F.wg∨b=F.mu)->a.kind=.plain->∀i,i<N->(i=0∨N0<=i)->Knows t i x
 said:∀x a b,touchAt t x=some a->C4 a.loc=some b->(b=F.wg∨b=F.mu)->a.kind=.said->Knows t 0 x
 G1:∀x a,touchAt t x=some a->C4 a.loc=some F.fd->(∀i,i<N->(i=0∨N0<=i)->Knows t i x)∨∃k,k<j/\t.g? x=some (N0+k)/\t.counts x/\a.loc=.cell ⟨F.fd,k,none⟩
 over:∀x g,t.g? x=some g->g≠0->t.counts x->(∃y,t.g? y=some 0/\HappensBefore t x y)∨(N0<=g/\g<N)
 norel:∀x,t0<=x->t.act? x≠some (.mark (.release F.sA))
 N8:t0<=t.size
 rel:∀k,k<j->late (φ (N0+k))->∃ρ,t0<=ρ/\RelBy F.sA t (N0+k) ρ/\KE t (S (N0+k)).E ρ
variable{fn:FuncId}{pos:String}
section
variable {F:Fam}{N0 t0 N j:Nat}{φ:Nat->Nx}{S:Nat->St}{t u:Trace}
def EvS(F:Fam)(N0 j i:Nat)(e:Event):Prop:=
 (∀a,(MemAct.ofEvent e).touch?=some a->∃b,C4 a.loc=some b/\(((b=F.wg∨b=F.mu)/\a.kind≠ .plain/\(a.kind=.said->i=0))∨(b=F.fd/\∃k,k<j/\i=N0+k/\a.loc=.cell ⟨F.fd,k,none⟩/\a.kind=.plain)))/\e.loc≠ .mark (.release F.sA)
theorem FB.noRace(h:FB F N0 t0 N j φ S t)(al:∀said,¬Race said t)(hi:i<N)(Z:i=0∨N0<=i)
  (am:∀e∈es,EvS F N0 j i e):∀said,¬Race said (t++MemOp.ofEvents i fn pos es):=by
 intro said;refine noRace_append (g:=i) (al said) (λop O=>by obtain⟨e,_,rfl⟩:=mem_ofEvents O;rfl) λx a U op O d hd ap=>?_;obtain⟨e,he,rfl⟩:=mem_ofEvents O;let⟨b,hb,K⟩:=(am e he).1 d hd;obtain⟨ac,hm,a2,aq⟩:=ap;have Y:C4 a.loc=some b:=by rw[ac];exact hb
 rcases K with⟨K,ag,av⟩ | ⟨rfl,k,ag,aw,ay,_⟩
 .rcases aq with q | q | ⟨_,q,q'⟩;exact h.plain x a b U Y K q i hi Z;exact absurd q ag
  .have:=h.said x a b U Y K q
   rwa[← av q'] at this
 .rcases h.G1 x a U Y with q | ⟨k',_,az,_,ai⟩;exact q i hi Z
  .rw [ac,ay] at ai;have:k=k':=by simpa using ai
   subst this;let⟨z,a0,a1⟩:=p7.1 az;have:=knows_own a0;rw[a1,← aw] at this;exact this
theorem Ru(h:∀x g,t.g? x=some g->g≠0->t.counts x->(∃y,t.g? y=some 0/\HappensBefore t x y)∨(N0<=g/\g<N))(hu:∀op∈u,op.g=0∨(N0<=op.g/\op.g<N)∨op.act.touch?=none):
  ∀x g,(t++u).g? x=some g->g≠0->(t++u).counts x->(∃y,(t++u).g? y=some 0/\HappensBefore (t++u) x y)∨(N0<=g/\g<N):=by
 intro x g O U Y;rcases mt x t.size with q | q
 .rcases h x g (by rw[← g?_old (u:=u) q];exact O) U ((counts_old q).1 Y) with⟨y,K,hb⟩ | hh
  .have ai:y<t.size:=by
    unfold Trace.g? at K;let⟨z,al,_⟩:=p7.1 K;exact lt_size_of_getElem? al
   exact .inl ⟨y,by rw[g?_old ai];exact K,hb_app u hb⟩
  .exact .inr hh
 .obtain⟨a,am,_⟩:=Y;let⟨op,Z,ac⟩:=touch_of am;have ag:op.g=g:=by simpa [Trace.g?,Z] using O
  rcases getElem?_append_cases Z with⟨aq,_⟩ | ⟨_,ap⟩;omega;rcases hu op ap with z | z | z;exact absurd (ag▸z) U;exact .inr (ag▸z);rw[z] at ac;cases ac
theorem Rf(h:∀x,t0<=x->t.act? x≠some (.mark (.release F.sA)))(hu:∀op∈u,op.act≠ .mark (.release F.sA)):∀x,t0<=x->(t++u).act? x≠some (.mark (.release F.sA)):=by
 intro x O e;let⟨op,U,K⟩:=p7.1 e;rcases getElem?_append_cases U with⟨_,Y⟩ | ⟨_,Z⟩;exact h x O (by rw[act?_of Y,K]);exact hu op Z K
theorem XK{g:Nat}(hu:∀op∈u,op.g=g->op.act.touch?=none):∀x,t.size<=x->(t++u).g? x=some g->¬(t++u).counts x:=by
 intro x ag U Y;obtain⟨a,Z,_⟩:=Y;let⟨op,K,O⟩:=touch_of Z;rcases getElem?_append_cases K with⟨ai,_⟩ | ⟨_,ac⟩;omega;rw[hu op ac (by simpa [Trace.g?,K] using U)] at O;cases O
theorem KE.app{E:LH}{ρ:Nat}(h:KE t E ρ)(hu:∀op∈u,∀a b,op.act.touch?=some a->C4 a.loc=some b->a.write=true->E b=none):KE (t++u) E ρ:=by
 intro b hb x a U K hw;let⟨op,Y,O⟩:=touch_of U;rcases getElem?_append_cases Y with⟨ag,Z⟩ | ⟨_,ac⟩;exact(h b hb x a (by rw[touchAt_of Z];exact O) K hw).app u;exact absurd (hu op ac a b O K hw) hb
theorem FB.app(h:FB F N0 t0 N j φ S t)(hi:i<N){s':St}
  (hd:deafBehind (Gd (φ i)) es=Gd x)
  (ap:∀e∈es,(∀a b,(MemAct.ofEvent e).touch?=some a->C4 a.loc=some b->(b=F.wg∨b=F.mu)->a.kind≠ .plain/\(a.kind=.said->i=0))/\
   (∀a,(MemAct.ofEvent e).touch?=some a->C4 a.loc=some F.fd->∃k,k<j/\i=N0+k/\a.loc=.cell ⟨F.fd,k,none⟩/\a.kind=.plain)/\e.loc≠ .mark (.release F.sA))
  (a6:(i=0∨N0<=i)∨∀e∈es,(MemAct.ofEvent e).touch?=none)
  (a7:∀k,k<j->late (φ (N0+k))->∀e∈es,∀a b,(MemAct.ofEvent e).touch?=some a->C4 a.loc=some b->a.write=true->(S (N0+k)).E b=none)
  (av:∀k,k<j->i=N0+k->late x->(late (φ i)/\s'.E=(S i).E/\∀ρ,RelBy F.sA t i ρ->RelBy F.sA (t++MemOp.ofEvents i fn pos es) i ρ)∨∃ρ,t0<=ρ/\RelBy F.sA (t++MemOp.ofEvents i fn pos es) i ρ/\KE (t++MemOp.ofEvents i fn pos es) s'.E ρ):
  FB F N0 t0 N j (upd φ i x) (upd S i s') (t++MemOp.ofEvents i fn pos es):=by
 generalize hu:MemOp.ofEvents i fn pos es=u at*;have ag:∀op∈u,op.g=i:=λop O=>by rw[← hu] at O;obtain⟨e,_,rfl⟩:=mem_ofEvents O;rfl
 have aq:∀op∈u,∃e∈es,op.act=MemAct.ofEvent e:=λop O=>by rw[← hu] at O;obtain⟨e,he,rfl⟩:=mem_ofEvents O;exact⟨e,he,V⟩
 have hold:∀{y a},touchAt (t++u) y=some a->(touchAt t y=some a/\y<t.size)∨(Knows (t++u) i y/\(t++u).g? y=some i/\∃e∈es,(MemAct.ofEvent e).touch?=some a):=by
  intro y a a8;let⟨op,O,a0⟩:=touch_of a8;rcases getElem?_append_cases O with⟨av,a9⟩ | ⟨_,aw⟩;left;exact⟨by rw[touchAt_of a9];exact a0,av⟩;right;let⟨e,he,Z⟩:=aq op aw;exact⟨by have:=knows_own O;rwa[ag op aw] at this,by simp[Trace.g?,O,ag op aw],e,he,by rw[← Z];exact a0⟩
 have a1:∀k,k<j->late (φ (N0+k))->∀ρ,KE t (S (N0+k)).E ρ->KE (t++u) (S (N0+k)).E ρ:=λk K U ρ bb=>bb.app λop be a b a2 hb hw=>by
  let⟨e,he,Z⟩:=aq op be;rw[Z] at a2;exact a7 k K U e he a b a2 hb hw
 refine⟨λY ac=>?_,λY ac=>?_,λy a b ai hb al K Y ac ay=>?_,λy a b ai hb al K=>?_,λy a ai hb=>?_,Ru h.over λop O=>?_,Rf h.norel λop O e=>?_,by simp;have:=h.N8;omega,λk K U=>?_⟩;by_cases e:Y=i;subst e;rw[upd_same,← hu,Deaf_own,h.deaf Y hi,hd];rw[upd_ne _ _ e,Deaf_other t (p6 e) u ag];exact h.deaf Y ac;rw[Deaf_other t (by omega) u ag];exact h.above Y ac;rcases hold ai with⟨q,_⟩ | ⟨_,_,e,he,am⟩;exact(h.plain y a b q hb al K Y ac ay).app _;exact absurd K ((ap e he).1 a b am hb al).1;rcases hold ai with⟨q,_⟩ | ⟨a3,_,e,he,am⟩;exact(h.said y a b q hb al K).app _;rw[← ((ap e he).1 a b am hb al).2 K];exact a3;rcases hold ai with⟨q,a4⟩ | ⟨a3,az,e,he,am⟩;rcases h.G1 y a q hb with z | ⟨k,K,az,bi,U⟩;exact .inl λY ac ay=>(z Y ac ay).app _;exact .inr ⟨k,K,by rw[g?_old a4];exact az,(counts_old a4).2 bi,U⟩;let⟨k,K,bn,U,bo⟩:=(ap e he).2.1 a am hb;exact .inr ⟨k,K,by rw[az,bn],⟨a,ai,by rw[U];rfl,.inl (by rw[bo];simp)⟩,U⟩;rw[ag op O];rcases a6 with(q | q) | q;exact .inl q;exact .inr (.inl ⟨q,hi⟩);let⟨e,he,Z⟩:=aq op O;rw[Z];exact .inr (.inr (q e he))
 .let⟨ev,bv,Z⟩:=aq op O;rw[Z] at e;exact(ap ev bv).2.2 (by
   obtain⟨loc,wr,bw⟩:=ev
   cases loc with
   | mark m=>simp only[MemAct.ofEvent,MemAct.mark.injEq] at e;rw[e]
   | obj r=>cases wr<;>cases bw<;>simp[MemAct.ofEvent] at e
   | _=>simp[MemAct.ofEvent] at e)
 .by_cases e:i=N0+k;subst e;rw[upd_same] at U;rw[upd_same];rcases av k K rfl U with⟨a5,bx,bz⟩ | hh;let⟨ρ,a,b,c⟩:=h.rel k K a5;exact⟨ρ,a,bz ρ b,by rw[bx];exact a1 k K a5 ρ c⟩;exact hh;rw[upd_ne _ _ (p6 e)] at U;rw[upd_ne _ _ (p6 e)];let⟨ρ,a,b,c⟩:=h.rel k K U;exact⟨ρ,a,b.appOther ag e,a1 k K U ρ c⟩
theorem FB.Dv(h:FB F N0 t0 N j φ S t)(hu:∀op∈u,op.act.touch?=none/\∀m,op.act≠ .mark m):FB F N0 t0 N j φ S (t++u):=by
 have am:∀g,Deaf (t++u) g=Deaf t g:=by
  intro g;obtain⟨l⟩:=u;rw[Deaf_append];have key:∀(l:List MemOp) (d:Nat),(∀op∈l,∀m,op.act≠ .mark m)->l.foldl (deafStep g) d=d:=by
   intro l
   induction l with
   | nil=>intro d _;rfl
   | cons z l av=>
    intro d U;have aw:=U z (by simp);have e2:deafStep g d z=d:=by
     unfold deafStep;split<;>first | (rename_i e;exact absurd e (aw _)) | rfl
    rw[rq,e2];exact av d λop K=>U op (by simp[K])
  exact key l _ λop K=>(hu op (by simpa using K)).2
 have hold:∀{y a},touchAt (t++u) y=some a->touchAt t y=some a/\y<t.size:=by
  intro y a Z;let⟨op,K,ac⟩:=touch_of Z;rcases getElem?_append_cases K with⟨ay,az⟩ | ⟨_,a0⟩;exact⟨by rw[touchAt_of az];exact ac,ay⟩;rw[(hu op a0).1] at ac;cases ac
 have a1:∀g x,t.size<=x->(t++u).g? x=some g->¬(t++u).counts x:=λg=>XK λop K _=>(hu op K).1;refine⟨λi hi=>by rw[am];exact h.deaf i hi,λi hi=>by rw[am];exact h.above i hi,λy a b Y hb ag O i hi ai=>(h.plain y a b (hold Y).1 hb ag O i hi ai).app _,λy a b Y hb ag O=>(h.said y a b (hold Y).1 hb ag O).app _,λy a Y hb=>?_,
  Ru h.over λop K=>.inr (.inr (hu op K).1),Rf h.norel λop K=>(hu op K).2 _,by simp;have:=h.N8;omega,λk O U=>let ⟨ρ,a,b,c⟩:=h.rel k O U;⟨ρ,a,b.app λx Z al=>a1 _ x Z al,c.app λop K a b ap=>by rw[(hu op K).1] at ap;cases ap⟩⟩
 let⟨q,aq⟩:=hold Y;rcases h.G1 y a q hb with z | ⟨k,O,al,a2,U⟩;exact .inl λa3 a4 ai=>(z a3 a4 ai).app _;exact .inr ⟨k,O,by rw[g?_old aq];exact al,(counts_old aq).2 a2,U⟩
theorem FB.spawn(h:FB F N0 t0 N j φ S t){φ':Nat->Nx}{S':Nat->St}(ac:0<N)(a9:N=N0+j)(hd:∀i,i<N->Gd (φ' i)=Gd (φ i))(a1:Gd (φ' N)=0)(a2:Gd (φ 0)=0)
  (a3:∀k,k<j+1->late (φ' (N0+k))->k<j/\late (φ (N0+k))/\(S' (N0+k)).E=(S (N0+k)).E)
  {x y:MemOp}(Z:x.g=0/\x.act=.go N) (ap:y.g=N/\y.act=.start):FB F N0 t0 (N+1) (j+1) φ' S' (t++ #[x,y]):=by
 have hu:∀op∈(#[x,y]:Array MemOp),op.act.touch?=none/\∀m,op.act≠ .mark m:=by
  intro op aq;simp only[qK,iO,pn,qu] at aq;rcases aq with rfl | rfl;rw[Z.2];exact⟨V,by simp⟩;rw[ap.2];exact⟨V,by simp⟩
 have K:=h.Dv hu;have av:∀z,Knows t 0 z->Knows (t++ #[x,y]) N z:=λz O=>fork_knows Z ap (by rw[h.deaf 0 ac];exact a2) (h.above N (no _)) O;have hold:∀{z a},touchAt (t++ #[x,y]) z=some a->touchAt t z=some a:=by
  intro z a O;let⟨op,ag,U⟩:=touch_of O;rcases getElem?_append_cases ag with⟨aw,a4⟩ | ⟨_,ai⟩;rw[touchAt_of a4];exact U;rw[(hu op ai).1] at U;cases U
 refine⟨λi hi=>?_,λi hi=>K.above i (by omega),λz a b O hb ay Y i hi al=>?_,K.said,λz a O hb=>?_,λz g am a5 a6=>?_,K.norel,K.N8,λk Y Z=>?_⟩
 .rcases mt i N with q | q;rw[hd i q];exact K.deaf i q
  .obtain rfl:i=N:=by omega
   rw[a1];exact K.above i (no _)
 .rcases mt i N with q | q;exact K.plain z a b O hb ay Y i q al
  .obtain rfl:i=N:=by omega
   exact av z (h.plain z a b (hold O) hb ay Y 0 ac (.inl V))
 .have az:z<t.size:=by
   let⟨op,ag,U⟩:=touch_of O;rcases getElem?_append_cases ag with⟨aw,_⟩ | ⟨_,ai⟩;exact aw;rw[(hu op ai).1] at U;cases U
  rcases h.G1 z a (hold O) hb with a0 | ⟨k,Y,am,a7,a8⟩
  .refine .inl λi hi al=>?_;rcases mt i N with q | q;exact(a0 i q al).app _
   .obtain rfl:i=N:=by omega
    exact av z (a0 0 ac (.inl V))
  .exact .inr ⟨k,by omega,by rw[g?_old az];exact am,(counts_old az).2 a7,a8⟩
 rcases K.over z g am a5 a6 with q | q;exact .inl q;exact .inr ⟨q.1,by omega⟩;let⟨a,b,c⟩:=a3 k Y Z;rw[c];exact K.rel k a b
end
end Pal
namespace Pal
open Go Go.Conc
open Go.ConcN (upd upd_same upd_ne sumTo sumTo_upd sumTo_upd_out sumTo_congr le_sumTo sumTo_le)
def pH:LP->Nat
 | .len | .Mf | .K1 | .F0 | .Hf | .K5 | .K6 | .K0 | .Ir=>1
 | _=>0
def pN:LP->Nat
 | .FE false=>1
 | _=>0
def pZ:LP->Nat
 | .FE true=>1
 | _=>0
def pV:LP->Nat
 | .Gs | .EW _=>1
 | _=>0
def pT:LP->Nat
 | .EC _ true _ | .Cw _ true _ _=>1
 | _=>0
def pQ:LP->Nat
 | .IZ _ | .CI _=>1
 | _=>0
def pD:LP->Nat
 | .EA _=>1
 | _=>0
def pX:LP->Nat
 | .Ff _ | .HU=>1
 | _=>0
def oC(f:LP->Nat):Option LP->Nat
 | some p=>f p
 | none=>0
def LN(m:M4)(q h rn rs v t s d x:Nat):Prop:=
 h=m.l.toNat/\
 (m.s=false->rs=0/\d=0/\m.k.toNat=rn+q+v+t/\s=m.w+rn+q/\(m.l=false->m.k=false->1<=m.w->1<=x))/\
 (m.s=true->m.k=false/\rn=0/\t=0/\m.l.toNat+rs+q+v+d=1/\m.w=s+v+d/\1<=m.w)
def MW:LP->M4->Prop
 | .Cw sv aw it old,_=>(aw=true->old.k=true)/\(sv=true->aw=true)/\it<=4/\Dk old
 | .EC sv aw it,_=>(sv=true->aw=true)/\it<=4
 | .EA ex,m=>ex=false->2<=m.w
 | .Ff old,_=>old.l=false/\old.k=false/\old.s=false/\old.w≠0/\Dk old
 | _,_=>True
section
variable {F:Fam}{p:LP}{m m':M4}{q q' h rn rs v t s d x:Nat}{es:Array Event}{o:Option LP}
theorem gr(am:LN m q (pH p+h) (pN p+rn) (pZ p+rs) (pV p+v) (pT p+t) (pQ p+s) (pD p+d) (pX p+x))(K:MW p m)(Y:Dk m)(ap:∀sv,p=.CI sv->q≠0):Ec p m q:=by
 obtain⟨l,k,st,w⟩:=m;obtain⟨Z,O,U⟩:=am;cases p<;>simp only[Ec,MW] at K ⊢<;>(try exact Y)
 .exact⟨K.1,K.2,Y,λe=>by
   subst e
   simp only[pH,pN,pZ,pV,pT,pQ,pD,pX] at Z O U
   cases st
   .have:=(O V).2.2.1
    cases k;simp at this;omega;rfl
   .have:=(U V).2.2.1;omega⟩
 .exact⟨K.1,K.2.1,K.2.2.1,K.2.2.2,Y,λe=>by
   subst e
   simp only[pH,pN,pZ,pV,pT,pQ,pD,pX] at Z O U
   cases st
   .have:=(O V).2.2.1
    cases k;simp at this;omega;rfl
   .have:=(U V).2.2.1;omega⟩
 exact ap _ V;simp only[pH,pN,pZ,pV,pT,pQ,pD,pX] at Z O U;refine⟨λe=>?_,λe=>?_,Y⟩;subst e;let⟨a1,ai,ag,ac,aq,al⟩:=U V;cases l;exact⟨V,a1,by omega⟩;simp at ac;omega;subst e;let⟨a1,ai,ag,ac⟩:=O V;cases k;simp at ag;omega;rfl;simp only[pH,pN,pZ,pV,pT,pQ,pD,pX] at Z O U;cases st;have:=(O V).2.1;omega;let⟨a1,ai,ag,ac,aq,al⟩:=U V;cases l;exact⟨V,V,a1,al,K,Y⟩;simp at ac;omega;simp only[pH,pN,pZ,pV,pT,pQ,pD,pX] at Z;cases l;simp at Z;exact⟨V,Y⟩;exact⟨K.1,K.2.1,K.2.2.1,K.2.2.2.1,K.2.2.2.2,Y⟩;refine⟨?_,Y⟩;have av:k.toNat<=1:=rF k;cases st;have:=(O V).2.2.1;simp only at this;omega;have:=(U V).2.2.2.1;simp only at this;omega
set_option maxHeartbeats 1000000 in
theorem LN.step(K:(m',q',es,o)∈F.B9 p m q)(U:Ec p m q)(O:LN m q (pH p+h) (pN p+rn) (pZ p+rs) (pV p+v) (pT p+t) (pQ p+s) (pD p+d) (pX p+x)):
  LN m' q' (oC pH o+h) (oC pN o+rn) (oC pZ o+rs) (oC pV o+v) (oC pT o+t) (oC pQ o+s) (oC pD o+d) (oC pX o+x):=by
 obtain⟨l,k,st,w⟩:=m;cases p<;>simp only[Fam.B9,d7,f4,pn] at K
 case Gv=>obtain⟨rfl,rfl,-,rfl⟩:=K;exact O
 case HN=>
  split at K;rename_i e;simp only[M4.zero,M4.mk.injEq] at e;obtain⟨rfl,rfl,rfl,rfl⟩:=e;simp only[d7,f4] at K;obtain⟨rfl,rfl,-,rfl⟩:=K;simp[LN,pH,pN,pZ,pV,pT,pQ,pD,pX,oC] at O ⊢;omega;simp only[d7,f4] at K;obtain⟨rfl,rfl,-,rfl⟩:=K;exact O
 case EC sv aw it=>obtain⟨rfl,rfl,-,rfl⟩:=K;cases aw<;>exact O
 case Cw sv aw it old=>
  simp only[Fam.FX,pg] at K;simp only[Ec] at U;obtain⟨k1,Y,Z,ac,al,-⟩:=U;rcases K with K | K;split at K;rename_i c;split at K;rename_i c2;simp only[d7] at K;obtain⟨rfl,c3,c4⟩:=c2;split at K;rename_i e;subst e;simp only[f4] at K;obtain⟨rfl,rfl,-,rfl⟩:=K;simp only at c c3 c4;obtain⟨rfl,rfl,-⟩:=c;subst c3;simp[LN,pH,pN,pZ,pV,pT,pQ,pD,pX,oC] at O ⊢;omega;simp only[f4] at K;obtain⟨rfl,rfl,-,rfl⟩:=K;exact O;simp only[d7,f4] at K;obtain⟨rfl,rfl,-,rfl⟩:=K;cases aw<;>exact O;simp at K
  .split at K
   .rename_i e;subst e;split at K;rename_i c;simp only[d7,f4] at K;obtain⟨rfl,rfl,-,rfl⟩:=K;simp only at c;obtain⟨rfl,rfl⟩:=c;cases aw<;>cases k<;>simp[LN,pH,pN,pZ,pV,pT,pQ,pD,pX,oC] at O k1 ⊢<;>omega
    .rename_i c;have key:∀o',(o'=some (LP.IZ sv)∨o'=some (LP.CI sv))->LN ⟨l,!aw&&k,st || (sv&&l),w+1⟩ q (oC pH o'+h) (oC pN o'+rn) (oC pZ o'+rs) (oC pV o'+v) (oC pT o'+t) (oC pQ o'+s) (oC pD o'+d) (oC pX o'+x):=by
      intro o' am;have ag:oC pH o'=0/\oC pN o'=0/\oC pZ o'=0/\oC pV o'=0/\oC pT o'=0/\oC pQ o'=1/\oC pD o'=0/\oC pX o'=0:=by
       rcases am with rfl | rfl<;>exact⟨rfl,rfl,rfl,rfl,rfl,rfl,rfl,rfl⟩
      obtain⟨ag,e2,ap,aq,av,ay,az,a0⟩:=ag;rw[ag,e2,ap,aq,av,ay,az,a0];cases l<;>cases st<;>cases k<;>cases aw<;>cases sv<;>simp[LN,pH,pN,pZ,pV,pT,pQ,pD,pX] at O k1 Y c ⊢<;>omega
     simp only[iO,pn,qu,f4] at K;rcases K with⟨rfl,rfl,-,rfl⟩ | ⟨rfl,rfl,-,rfl⟩;exact key _ (.inl V);exact key _ (.inr V)
   .simp only [d7,f4] at K;obtain⟨rfl,rfl,-,rfl⟩:=K;cases aw<;>exact O
 case IZ sv=>obtain⟨rfl,rfl,-,rfl⟩:=K;exact O
 case CI sv=>
  obtain⟨rfl,rfl,-,rfl⟩:=K;simp only[Ec] at U;cases st<;>cases k<;>cases l<;>cases sv<;>simp[LN,pH,pN,pZ,pV,pT,pQ,pD,pX,oC] at O ⊢<;>omega
 case Gs=>
  simp only[iO,pn,qu,f4] at K;rcases K with⟨rfl,rfl,-,rfl⟩ | ⟨rfl,rfl,-,rfl⟩<;>exact O
 case EW sv=>
  simp only[Ec] at U;split at K;rename_i c;simp only[d7,f4] at K;obtain⟨rfl,rfl,-,rfl⟩:=K;have c:st=true:=c;subst c;cases k<;>cases l<;>simp[LN,pH,pN,pZ,pV,pT,pQ,pD,pX,oC] at O ⊢<;>omega;rename_i c;simp only[d7,f4] at K;obtain⟨rfl,rfl,-,rfl⟩:=K;cases st;cases k<;>cases l<;>simp[LN,pH,pN,pZ,pV,pT,pQ,pD,pX,oC] at O ⊢<;>omega;exact absurd V c
 case EA ex=>
  obtain⟨rfl,rfl,-,rfl⟩:=K;simp only[Ec] at U;obtain⟨rfl,rfl,rfl,ac,al,-⟩:=U;cases ex<;>simp[LN,pH,pN,pZ,pV,pT,pQ,pD,pX,oC] at O al ⊢<;>omega
 case len=>obtain⟨rfl,rfl,-,rfl⟩:=K;exact O
 case Mf=>obtain⟨rfl,rfl,-,rfl⟩:=K;exact O
 case K1=>obtain⟨rfl,rfl,-,rfl⟩:=K;exact O
 case Hf=>obtain⟨rfl,rfl,-,rfl⟩:=K;exact O
 case K5=>obtain⟨rfl,rfl,-,rfl⟩:=K;exact O
 case K6=>obtain⟨rfl,rfl,-,rfl⟩:=K;exact O
 case K0=>obtain⟨rfl,rfl,-,rfl⟩:=K;exact O
 case Ir=>
  obtain⟨rfl,rfl,-,rfl⟩:=K;simp only[Ec] at U;obtain⟨rfl,-⟩:=U;rcases qo w with rfl | hw;cases st<;>cases k<;>simp[LN,pH,pN,pZ,pV,pT,pQ,pD,pX,oC] at O ⊢<;>omega
  .have ai:¬w=0:=by omega
   cases st<;>cases k<;>simp[LN,pH,pN,pZ,pV,pT,pQ,pD,pX,oC,ai] at O ⊢<;>omega
 case Ff old=>
  simp only[Ec] at U;obtain⟨k1,Y,Z,ac,-⟩:=U;split at K;rename_i e;subst e;simp only at k1 Y Z ac;subst k1 Y Z;simp only[d7,f4] at K;obtain⟨rfl,rfl,-,rfl⟩:=K;simp[LN,pH,pN,pZ,pV,pT,pQ,pD,pX,oC] at O ⊢;omega;simp only[d7,f4] at K;obtain⟨rfl,rfl,-,rfl⟩:=K;exact O
 case HU=>
  obtain⟨rfl,rfl,-,rfl⟩:=K;rcases qo w with rfl | hw;cases st<;>cases k<;>cases l<;>simp[LN,pH,pN,pZ,pV,pT,pQ,pD,pX,oC] at O ⊢<;>omega
  .have ai:¬w=0:=by omega
   cases st<;>cases k<;>cases l<;>simp[LN,pH,pN,pZ,pV,pT,pQ,pD,pX,oC,ai] at O ⊢<;>omega
 case FE b=>
  obtain⟨rfl,rfl,-,rfl⟩:=K;cases b<;>cases st<;>cases k<;>cases l<;>simp[LN,pH,pN,pZ,pV,pT,pQ,pD,pX,oC] at O ⊢<;>omega
 case FG=>obtain⟨rfl,rfl,-,rfl⟩:=K;exact O
theorem LN.awake(O:LN m q (pH p+h) (pN p+rn) (pZ p+rs) (pV p+v) (pT p+t) (pQ p+s) (pD p+d) (pX p+x))(ag:pT p=1):m.k=true:=by
 obtain⟨l,k,st,w⟩:=m;obtain⟨ai,U,Y⟩:=O;cases st;let⟨a1,Z,K,ac⟩:=U V;cases k;simp at K;omega;rfl;let⟨a1,Z,K,ac⟩:=Y V;omega
theorem LN.jh(K:(m',q',es,o)∈F.B9 p m q)(O:Ec p m q)(Z:MW p m)(U:Dk m)(ai:LN m q (pH p+h) (pN p+rn) (pZ p+rs) (pV p+v) (pT p+t) (pQ p+s) (pD p+d) (pX p+x)):∀ac,o=some ac->MW ac m':=by
 have ag:=λal=>ai.awake al;cases p<;>simp only[Fam.B9,d7,f4,pn] at K
 case HN=>
  split at K<;>simp only[d7,f4] at K<;>obtain⟨rfl,rfl,-,rfl⟩:=K<;>rintro _ ⟨⟩<;>simp[MW]
 case EC sv aw it=>
  obtain⟨rfl,rfl,-,rfl⟩:=K;rintro _ ⟨⟩;exact⟨λe=>by subst e;exact ag rfl,Z.1,Z.2,U⟩
 case Cw sv aw it old=>
  simp only[Fam.FX,pg] at K;simp only[Ec] at O;obtain⟨k1,Y,am,ap,aq,-⟩:=O;rcases K with K | K;split at K;rename_i c;split at K;simp only[d7] at K;split at K<;>simp only[f4] at K<;>obtain⟨rfl,rfl,-,rfl⟩:=K<;>rintro _ ⟨⟩;exact⟨λ_=>V,by omega⟩;exact⟨Y,by omega⟩;simp only[d7,f4] at K;obtain⟨rfl,rfl,-,rfl⟩:=K;rintro _ ⟨⟩;exact⟨λe=>by subst e;exact ag rfl,Y,by omega,U⟩;simp at K;split at K;split at K;simp only[d7,f4] at K;obtain⟨rfl,rfl,-,rfl⟩:=K;rintro _ ⟨⟩;trivial;simp only[iO,pn,qu,f4] at K;rcases K with⟨rfl,rfl,-,rfl⟩ | ⟨rfl,rfl,-,rfl⟩<;>rintro _ ⟨⟩<;>trivial;simp only[d7,f4] at K;obtain⟨rfl,rfl,-,rfl⟩:=K;rintro _ ⟨⟩;exact⟨Y,am⟩
 case CI sv=>
  obtain⟨rfl,rfl,-,rfl⟩:=K;rintro _ h;cases sv<;>cases h<;>trivial
 case Gs=>
  simp only[iO,pn,qu,f4] at K;rcases K with⟨rfl,rfl,-,rfl⟩ | ⟨rfl,rfl,-,rfl⟩<;>rintro _ ⟨⟩<;>trivial
 case EW sv=>
  simp only[Ec] at O;split at K;rename_i c;simp only[d7,f4] at K;obtain⟨rfl,rfl,-,rfl⟩:=K;rintro _ ⟨⟩;intro e;have:=(O.1 c).2.2;simp at e;omega;rename_i c;simp only[d7,f4] at K;obtain⟨rfl,rfl,-,rfl⟩:=K;rintro _ ⟨⟩;exact⟨λ_=>O.2.1 (by simpa using c),λ_=>V,by omega,U⟩
 case Ir=>
  obtain⟨rfl,rfl,-,rfl⟩:=K;rintro _ h;split at h;cases h;trivial;rename_i c;split at h;rename_i c2;cases h;exact⟨V,c2.1,by simpa using c,c2.2,U⟩;cases h;trivial
 case Ff old=>
  split at K<;>simp only[d7,f4] at K<;>obtain⟨rfl,rfl,-,rfl⟩:=K<;>rintro _ ⟨⟩<;>trivial
 case HU=>
  obtain⟨rfl,rfl,-,rfl⟩:=K;rintro _ h;split at h;rename_i c;cases h;exact⟨c.1,c.2.1,c.2.2.1,c.2.2.2,U⟩;cases h;trivial
 all_goals
  obtain⟨rfl,rfl,-,rfl⟩:=K;rintro _ ⟨⟩
 all_goals trivial
theorem LN.keepW(K:(m',q',es,o)∈F.B9 p m q)(O:Ec p m q)(U:LN m q (pH p+h) (pN p+rn) (pZ p+rs) (pV p+v) (pT p+t) (pQ p+s) (pD p+d) (pX p+x))(hd:1<=d):m.w<=m'.w:=by
 obtain⟨l,k,st,w⟩:=m;obtain⟨ai,Y,Z⟩:=U;have ac:st=true:=by
  cases st;have:=(Y V).2.1;omega;rfl
 subst ac;let⟨a1,al,am,ag,ap,aq⟩:=Z V;cases p<;>simp only[Fam.B9,d7,f4,pn] at K
 case HN=>split at K<;>simp only[d7,f4] at K<;>obtain⟨rfl,rfl,-,rfl⟩:=K<;>simp_all [M4.zero]
 case Cw sv aw it old=>
  simp only[Fam.FX,pg] at K;rcases K with K | K;split at K;split at K;simp only[d7] at K;split at K<;>simp only[f4] at K<;>obtain⟨rfl,rfl,-,rfl⟩:=K<;>exact no _;simp only[d7,f4] at K;obtain⟨rfl,rfl,-,rfl⟩:=K;exact no _;simp at K;split at K;split at K;simp only[d7,f4] at K;obtain⟨rfl,rfl,-,rfl⟩:=K;exact no _;simp only[iO,pn,qu,f4] at K;rcases K with⟨rfl,rfl,-,rfl⟩ | ⟨rfl,rfl,-,rfl⟩<;>simp;simp only[d7,f4] at K;obtain⟨rfl,rfl,-,rfl⟩:=K;exact no _
 case Gs=>
  simp only[iO,pn,qu,f4] at K;rcases K with⟨rfl,rfl,-,rfl⟩ | ⟨rfl,rfl,-,rfl⟩<;>exact no _
 case EW sv=>split at K<;>simp only[d7,f4] at K<;>obtain⟨rfl,rfl,-,rfl⟩:=K<;>exact no _
 case EA ex=>simp only[pD] at ag;omega
 case Ff old=>
  simp only[Ec] at O;split at K;rename_i e;subst e;exact absurd O.2.2.1 (by simp);simp only[d7,f4] at K;obtain⟨rfl,rfl,-,rfl⟩:=K;exact no _
 all_goals
  obtain⟨rfl,rfl,-,rfl⟩:=K;exact no _
end
def Dr(f:LP->Nat):Nx->Nat
 | .ph (.lk _ p)=>f p
 | _=>0
def Qw:Nx->M4->Prop
 | .ph (.lk _ p),m=>MW p m
 | _,_=>True
def Sg(f:LP->Nat)(N:Nat)(φ:Nat->Nx):Nat:=sumTo N λi=>Dr f (φ i)
structure LI (N:Nat) (φ:Nat->Nx) (m:M4) (q:Nat):Prop where
 ln:LN m q (Sg pH N φ) (Sg pN N φ) (Sg pZ N φ) (Sg pV N φ) (Sg pT N φ) (Sg pQ N φ) (Sg pD N φ) (Sg pX N φ)
 loc:∀i,i<N->Qw (φ i) m
section
variable {F:Fam}{N i k:Nat}{φ:Nat->Nx}{p:LP}{m m':M4}{q q':Nat}{es:Array Event}{o:Option LP}{y:Nx}
theorem Su(f:LP->Nat)(hi:i<N):Sg f N (upd φ i y)+Dr f (φ i)=Sg f N φ+Dr f y:=sumTo_upd φ y (Dr f) hi
theorem F6(f:LP->Nat)(hi:i<N)(K:φ i=.ph (.lk k p)):∃r,Sg f N φ=f p+r/\∀o,Sg f N (upd φ i (.ph (Fam.Dm k o)))=oC f o+r:=by
 have O:Dr f (φ i)<=Sg f N φ:=le_sumTo (f:=λi=>Dr f (φ i)) hi;have e:Dr f (φ i)=f p:=by rw[K];rfl
 refine⟨Sg f N φ - f p,by omega,λo=>?_⟩;have U:=Su (φ:=φ) (y:=.ph (Fam.Dm k o)) f hi;have Y:Dr f (.ph (Fam.Dm k o))=oC f o:=by cases o<;>rfl
 omega
theorem Pp(f:LP->Nat)(hi:i<N)(K:Dr f (φ i)=Dr f y):Sg f N (upd φ i y)=Sg f N φ:=by
 have:=Su (φ:=φ) (y:=y) f hi;omega
theorem LI.other(h:LI N φ m q)(hi:i<N)(U:∀k p,φ i≠ .ph (.lk k p))(K:∀k p,y≠ .ph (.lk k p)):LI N (upd φ i y) m q:=by
 have z:∀(f:LP->Nat) x,(∀k p,x≠Nx.ph (.lk k p))->Dr f x=0:=by
  intro f x Y;cases x with
  | gone d=>rfl
  | ph p=>cases p<;>first | rfl | exact absurd rfl (Y _ _)
 have e:∀f,Sg f N (upd φ i y)=Sg f N φ:=λf=>Pp f hi (by rw[z f _ U,z f _ K]);refine⟨by simp only[e];exact h.ln,λa Z=>?_⟩;by_cases O:a=i
 .subst O;rw[upd_same];cases y with
  | gone d=>trivial
  | ph p=>cases p<;>first | trivial | exact absurd rfl (K _ _)
 .rw [upd_ne _ _ O];exact h.loc a Z
theorem LI.ok(h:LI N φ m q)(hi:i<N)(K:φ i=.ph (.lk k p))(Y:Dk m)(Z:∀sv,p=.CI sv->q≠0):Ec p m q:=by
 obtain⟨a,ac,-⟩:=F6 pH hi K;obtain⟨b,ag,-⟩:=F6 pN hi K;obtain⟨c,ai,-⟩:=F6 pZ hi K;obtain⟨d,al,-⟩:=F6 pV hi K;obtain⟨e,am,-⟩:=F6 pT hi K;obtain⟨f,ap,-⟩:=F6 pQ hi K;obtain⟨g,aq,-⟩:=F6 pD hi K;obtain⟨j,av,-⟩:=F6 pX hi K;have O:=h.ln;rw[ac,ag,ai,al,am,ap,aq,av] at O;have U:=h.loc i hi;rw[K] at U;exact gr O U Y Z
theorem LI.step(h:LI N φ m q)(hi:i<N)(K:φ i=.ph (.lk k p))(ap:Dk m)(U:Ec p m q)(Y:(m',q',es,o)∈F.B9 p m q):LI N (upd φ i (.ph (Fam.Dm k o))) m' q':=by
 let⟨a,aq,av⟩:=F6 pH hi K;let⟨b,aw,ay⟩:=F6 pN hi K;let⟨c,az,a0⟩:=F6 pZ hi K;let⟨d,a1,a2⟩:=F6 pV hi K;let⟨e,a3,a4⟩:=F6 pT hi K;let⟨f,a5,a6⟩:=F6 pQ hi K;let⟨g,a7,a8⟩:=F6 pD hi K;let⟨j,a9,bb⟩:=F6 pX hi K;have O:=h.ln;rw[aq,aw,az,a1,a3,a5,a7,a9] at O;have ag:=h.loc i hi;rw[K] at ag;refine⟨by rw[av,ay,a0,a2,a4,a6,a8,bb];exact O.step Y U,λy ai=>?_⟩;by_cases Z:y=i
 .subst Z;rw[upd_same];cases o with
  | none=>trivial
  | some be=>exact O.jh Y U ag ap be rfl
 .rw [upd_ne _ _ Z];have ac:=h.loc y ai;cases al:φ y with
  | gone d=>trivial
  | ph p0=>
   cases p0 with
   | lk bi p0=>
    rw[al] at ac;cases p0<;>try exact ac
    rename_i ex;intro bn;have hd:1<=g:=by
     have bo:=Su (N:=N) (φ:=φ) (i:=i) (y:=.gone 0) pD hi;have am:Dr pD (upd φ i (.gone 0) y)<=Sg pD N (upd φ i (.gone 0)):=le_sumTo (f:=λa=>Dr pD (upd φ i (.gone 0) a)) ai;rw[upd_ne _ _ Z,al] at am;have bv:Dr pD (φ i)=pD p:=by rw[K];rfl
     have e2:Dr pD (.gone 0)=0:=V;have bw:Dr pD (.ph (.lk bi (.EA ex)))=1:=V;omega
    have:=O.keepW Y U hd;have am:2<=m.w:=ac bn;omega
   | _=>trivial
end
def HZ:LP->Nat
 | .len=>22 | .Mf=>21 | .K1=>20 | .F0=>19 | .Hf=>18 | .K5=>17 | .K6=>16 | .K0=>15 | .Ir=>14
 | .Ff _=>13 | .HU=>13 | .FE _=>12 | .FG=>11
 | _=>23
def kw:LP->Nat
 | .Gv | .HN=>2
 | .EC _ aw _=>if aw then 1 else 2
 | .Cw _ aw _ _=>if aw then 1 else 2
 | .Gs | .EW _ | .EA _=>1
 | _=>0
def lc(m:M4):LP->Nat
 | .Gv=>27 | .HN=>26 | .EC _ _ it=>2*(5 - it)+1
 | .Cw _ _ it old=>2*(5 - it)+if m=old then 0 else 2
 | .IZ _=>24 | .CI _=>23 | .Gs=>22 | .EW _=>21
 | .Ff old=>if m=old then 1 else 3
 | .HU=>2
 | _=>0
def wO:Option LP->Nat
 | some p=>HZ p
 | none=>9
def wt(n:Nat):Nx->Nat
 | .gone _=>0
 | .ph p=>match p with
  | .HQ _=>10 | .Iu=>9 | .Hc=>8 | .Jz=>7 | .HS=>6 | .Hs=>5 | .HL=>4 | .FJ=>3
  | .DF=>3*n+25 | .Gu m=>3*m+20 | .HV m=>3*m+19 | .Jc=>14 | .Ix=>13 | .FV=>12 | .HM=>11 | .GA=>10 | .I9=>9 | .GV=>8 | .Ij=>7
  | .GW j=>5*n+90+50*(n - j) | .I7 j=>5*n+89+50*(n - j) | .Je j=>5*n+88+50*(n - j) | .Im j=>5*n+87+50*(n - j) | .Hy j=>5*n+86+50*(n - j) | .Ge j=>5*n+85+50*(n - j)
  | .Hv=>5*n+60 | .Gb _ _=>2
  | .lk _ p=>HZ p
variable{K:Nx}
theorem gv{F:Fam}{p:Ph}{v w sm v' w' sm':Nat}{es:Array Event}(h:F.act p v w sm=some ((v',w',sm'),es,K)):wt F.n K<wt F.n (.ph p):=by
  cases p<;>simp only[Fam.act] at h<;>(try (cases h;done))
  case HS=>
    split at h;cases h;split<;>simp[wt];cases h
  case Gu=>
    split at h;cases h;split<;>simp[wt]<;>omega;cases h
  case HV=>
    split at h;split at h<;>cases h<;>simp[wt]<;>omega;cases h
  case I7=>
    split at h;cases h;split<;>simp[wt];cases h
  all_goals first
    | (cases h;simp[wt];done)
    | (split at h
       .cases h;simp[wt]
       .cases h)
section
variable {F:Fam}{p:LP}{m m':M4}{q q':Nat}{es:Array Event}{o:Option LP}
theorem cg(K:(m',q',es,o)∈F.B9 p m q)(O:Ec p m q):wO o<HZ p∨(wO o=HZ p/\(oC kw o+q'<kw p+q∨(oC kw o+q'=kw p+q/\m'=m/\oC (lc m) o<lc m p))):=by
 cases p<;>simp only[Fam.B9,d7,f4,pn] at K
 case HN=>
  split at K<;>simp only[d7,f4] at K<;>obtain⟨rfl,rfl,-,rfl⟩:=K;exact .inl (by simp[wO,HZ]);exact .inr ⟨V,.inr ⟨V,V,by simp[oC,lc]⟩⟩
 case EC sv aw it=>
  obtain⟨rfl,rfl,-,rfl⟩:=K;exact .inr ⟨V,.inr ⟨V,V,by simp[oC,lc]⟩⟩
 case Cw sv aw it old=>
  simp only[Fam.FX,pg] at K;simp only[Ec] at O;obtain⟨k1,U,Y,Z,ac,-⟩:=O;rcases K with K | K;split at K;rename_i c;split at K;rename_i c2;simp only[d7] at K;obtain⟨rfl,c3,c4⟩:=c2;split at K<;>simp only[f4] at K<;>obtain⟨rfl,rfl,-,rfl⟩:=K;exact .inr ⟨V,.inl (by simp[oC,kw])⟩;rename_i e;refine .inr ⟨V,.inr ⟨V,V,?_⟩⟩;simp only[oC,lc,d9 e];omega;simp only[d7,f4] at K;obtain⟨rfl,rfl,-,rfl⟩:=K;refine .inr ⟨V,.inr ⟨V,V,?_⟩⟩;simp only[oC,lc,qs];omega;simp at K;split at K;rename_i e;split at K;simp only[d7,f4] at K;obtain⟨rfl,rfl,-,rfl⟩:=K;exact .inl (by simp[wO,HZ]);simp only[iO,pn,qu,f4] at K;rcases K with⟨rfl,rfl,-,rfl⟩ | ⟨rfl,rfl,-,rfl⟩<;>exact .inr ⟨rfl,.inl (by cases aw<;>simp[oC,kw])⟩;rename_i e;simp only[d7,f4] at K;obtain⟨rfl,rfl,-,rfl⟩:=K;refine .inr ⟨V,.inr ⟨V,V,?_⟩⟩;simp only[oC,lc,d9 e];omega
 case CI sv=>
  obtain⟨rfl,rfl,-,rfl⟩:=K;simp only[Ec] at O;cases sv;refine .inr ⟨V,.inr ⟨?_,V,by simp[oC,lc]⟩⟩;simp only[oC,kw,px,qp];omega;refine .inr ⟨V,.inr ⟨?_,V,by simp[oC,lc]⟩⟩;simp only[oC,kw,qs];omega
 case Gs=>
  simp only[iO,pn,qu,f4] at K;rcases K with⟨rfl,rfl,-,rfl⟩ | ⟨rfl,rfl,-,rfl⟩<;>exact .inr ⟨rfl,.inr ⟨rfl,rfl,by simp[oC,lc]⟩⟩
 case EW sv=>
  split at K<;>simp only[d7,f4] at K<;>obtain⟨rfl,rfl,-,rfl⟩:=K<;>exact .inr ⟨rfl,.inr ⟨rfl,rfl,by simp[oC,lc]⟩⟩
 case Ir=>
  obtain⟨rfl,rfl,-,rfl⟩:=K;refine .inl ?_;split;simp[wO,HZ];split<;>simp[wO,HZ]
 case Ff old=>
  split at K<;>simp only[d7,f4] at K<;>obtain⟨rfl,rfl,-,rfl⟩:=K;exact .inl (by simp[wO,HZ]);rename_i e;refine .inr ⟨V,.inr ⟨V,V,?_⟩⟩;simp only[oC,lc,d9 e];omega
 case HU=>
  obtain⟨rfl,rfl,-,rfl⟩:=K;split;exact .inr ⟨V,.inr ⟨V,V,by simp[oC,lc]⟩⟩;exact .inl (by simp[wO,HZ])
 case IZ sv=>obtain⟨rfl,rfl,-,rfl⟩:=K;exact .inr ⟨V,.inr ⟨V,V,by simp[oC,lc]⟩⟩
 case Gv=>obtain⟨rfl,rfl,-,rfl⟩:=K;exact .inr ⟨V,.inr ⟨V,V,by simp[oC,lc]⟩⟩
 all_goals
  obtain⟨rfl,rfl,-,rfl⟩:=K;exact .inl (by simp[wO,HZ])
end
def Dn(N:Nat)(r' r:Nat->Rk):Prop:=∃i,i<N/\Rk.sub (r' i) (r i)/\∀j,j≠i->r' j=r j
theorem Dn.wf:∀N,WellFounded (Dn N)
 | 0=>⟨λ_=>⟨_,λ_ ⟨_,h,_⟩=>by omega⟩⟩
 | N+1=>⟨by
  have key:∀x:Rk,∀r:Nat->Rk,r N=x->Acc (Dn (N+1)) r:=by
   intro x
   induction x using Rk.wf.induction with
   | _ x Y=>
    intro r
    induction r using (Dn.wf N).induction with
    | _ r Z=>
     intro e
     refine⟨_,λr' ⟨i,hi,K,O⟩=>?_⟩
     by_cases U:i=N;subst U;exact Y (r' i) (by rw[← e];exact K) r' V;exact Z r' ⟨i,by omega,K,O⟩ (by rw[O N (p6 U),e])
  exact λr=>key _ r V⟩
def chain:Nat->Rk
 | 0=>.leaf
 | n+1=>.node λ_=>chain n
theorem Zj(n:Nat)(w:World):Rk.sub (chain n) (chain (n+1)):=⟨_,w,V,V⟩
structure Mu where
 a:Nat
 k:Nat
 l:Nat
 N:Nat
 r:Nat->Rk
 b:Nat
def Mu.lt(x y:Mu):Prop:=x.a<y.a∨(x.a=y.a/\(x.k<y.k∨(x.k=y.k/\(x.l<y.l∨(x.l=y.l/\x.N=y.N/\(Dn y.N x.r y.r∨(x.r=y.r/\x.b<y.b)))))))
theorem Mu.wf:WellFounded Mu.lt:=⟨by
 have key:∀(a k l N:Nat) (r:Nat->Rk) (b:Nat),Acc Mu.lt ⟨a,k,l,N,r,b⟩:=by
  intro a
  induction a using Nat.strongRecOn with
  | _ a ag=>
   intro k
   induction k using Nat.strongRecOn with
   | _ k ai=>
    intro l
    induction l using Nat.strongRecOn with
    | _ l al=>
     intro N r
     induction r using (Dn.wf N).induction with
     | _ r am=>
      intro b
      induction b using Nat.strongRecOn with
      | _ b ap=>
       refine⟨_,λ⟨aq,k',l',N',r',b'⟩ h=>?_⟩
       rcases h with h | ⟨K,h | ⟨O,h | ⟨U,Y,h | ⟨Z,ac⟩⟩⟩⟩;exact ag aq h k' l' N' r' b';simp only at K h;subst K;exact ai k' h l' N' r' b';simp only at K O h;subst K O;exact al l' h N' r' b';simp only at K O U Y h;subst K O U Y;exact am r' h b';simp only at K O U Y Z ac;subst K O U Y Z;exact ap b' ac
 exact λ⟨a,k,l,N,r,b⟩=>key a k l N r b⟩
def bit(b:Bool):Nat:=if b then 1 else 0
def mu(F:Fam)(N:Nat)(φ:Nat->Nx)(m:M4)(q:Nat)(r:Nat->Rk)(bt:Nat->Bool):Mu:=⟨sumTo N λi=>wt F.n (φ i),Sg kw N φ+q,Sg (lc m) N φ,N,r,sumTo N λi=>bit (bt i)⟩
section
variable {F:Fam}{N N' i k:Nat}{φ φ':Nat->Nx}{p:LP}{m m':M4}{q q':Nat}{es:Array Event}{o:Option LP}{r r':Nat->Rk}{b b':Nat->Bool}{x:Nx}{ρ:Rk}
theorem ic(h:(sumTo N' λi=>wt F.n (φ' i))<sumTo N λi=>wt F.n (φ i)):Mu.lt (mu F N' φ' m' q' r' b') (mu F N φ m q r b):=.inl h
theorem Wg(hi:i<N)(h:wt F.n x<wt F.n (φ i)):Mu.lt (mu F N (upd φ i x) m' q' r' b') (mu F N φ m q r b):=by
 have:=sumTo_upd φ x (wt F.n) hi;exact .inl (by show(sumTo N λa=>wt F.n (upd φ i x a))<sumTo N λa=>wt F.n (φ a);omega)
theorem Xo(hi:i<N)(K:∀f,Dr f x=Dr f (φ i))(hw:wt F.n x=wt F.n (φ i))(h:Rk.sub ρ (r i)):Mu.lt (mu F N (upd φ i x) m q (upd r i ρ) b') (mu F N φ m q r b):=by
 have:=sumTo_upd φ x (wt F.n) hi;refine .inr ⟨by show(sumTo N λa=>wt F.n (upd φ i x a))=sumTo N λa=>wt F.n (φ a);omega,.inr ⟨by show Sg kw N (upd φ i x)+q=_;rw[Pp kw hi (K kw).symm];rfl,.inr ⟨Pp (lc m) hi (K _).symm,V,.inl ⟨i,hi,?_,λa O=>upd_ne _ _ O⟩⟩⟩⟩;show Rk.sub (upd r i ρ i) _;rw[upd_same];exact h
theorem iT(hi:i<N)(K:φ i=.ph (.lk k p))(Y:(m',q',es,o)∈F.B9 p m q)(Z:Ec p m q):Mu.lt (mu F N (upd φ i (.ph (Fam.Dm k o))) m' q' r' b') (mu F N φ m q r b):=by
 have hw:=sumTo_upd φ (.ph (Fam.Dm k o)) (wt F.n) hi;have ac:wt F.n (φ i)=HZ p:=by rw[K];rfl
 have e2:wt F.n (.ph (Fam.Dm k o))=wO o:=by cases o<;>rfl
 rw[ac,e2] at hw;let⟨a,O,U⟩:=F6 (k:=k) kw hi K;let⟨c,ag,ai⟩:=F6 (k:=k) (lc m) hi K;rcases cg Y Z with h | ⟨am,h | ⟨ap,al,aq⟩⟩;exact .inl (by show(sumTo N λa=>wt F.n (upd φ i _ a))<sumTo N λa=>wt F.n (φ a);omega);exact .inr ⟨by show(sumTo N λa=>wt F.n (upd φ i _ a))=sumTo N λa=>wt F.n (φ a);omega,.inl (by show Sg kw N (upd φ i _)+q'<Sg kw N φ+q;rw[O,U];omega)⟩;subst al;exact .inr ⟨by show(sumTo N λa=>wt F.n (upd φ i _ a))=sumTo N λa=>wt F.n (φ a);omega,.inr ⟨by show Sg kw N (upd φ i _)+q'=Sg kw N φ+q;rw[O,U];omega,.inl (by show Sg (lc m') N (upd φ i _)<Sg (lc m') N φ;rw[ag,ai];omega)⟩⟩
end
open Go.ConcN (RelBy fork_knows)
variable{e:Event}{sz:Nat}
section
variable {F:Fam}{N0 t0 N j:Nat}{φ:Nat->Nx}{S:Nat->St}{t u:Trace}{v wt sm v' wt' sm':Nat}
theorem OZ{α:Type}(f:Nat->α)(i:Nat):upd f i (f i)=f:=by
 funext a;unfold upd;split;rename_i e;rw[e];rfl
def FZ(F:Fam)(K:Prop)(e:Event):Prop:=
 (∀a,(MemAct.ofEvent e).touch?=some a->(∃b,C4 a.loc=some b/\(b=F.wg∨b=F.mu))/\a.kind≠ .plain/\(a.kind=.said->K))/\e.loc≠ .mark (.release F.sA)
theorem FZ.toS{K:Prop}{i:Nat}(h:FZ F K e)(O:K->i=0):EvS F N0 j i e:=
 ⟨λa U=>let ⟨⟨b,Y,Z⟩,ac,ag⟩:=h.1 a U;⟨b,Y,.inl ⟨Z,ac,λq=>O (ag q)⟩⟩,h.2⟩
theorem FZ.keep{O:Prop}{i:Nat}(h:FZ F O e)(Y:O->i=0)(Z:F.fd≠F.wg)(ac:F.fd≠F.mu):(∀a b,(MemAct.ofEvent e).touch?=some a->C4 a.loc=some b->(b=F.wg∨b=F.mu)->a.kind≠ .plain/\(a.kind=.said->i=0))/\
   (∀a,(MemAct.ofEvent e).touch?=some a->C4 a.loc=some F.fd->∃k,k<j/\i=N0+k/\a.loc=.cell ⟨F.fd,k,none⟩/\a.kind=.plain)/\e.loc≠ .mark (.release F.sA):=
 ⟨λa b K _ _=>⟨(h.1 a K).2.1,λq=>Y ((h.1 a K).2.2 q)⟩,λa K hb=>by
  obtain⟨⟨b,U,ag⟩,-⟩:=h.1 a K
  rw[hb] at U
  obtain rfl:=f5 U
  rcases ag with e | e;exact absurd e Z
  .exact absurd e ac,h.2⟩
theorem Ub{m:Mark}(K:∀a,m≠ .read a)(O:∀a,m≠ .write a):(MemAct.ofEvent (Fam.CR m)).touch?=none:=by
 cases m<;>first | rfl | exact absurd rfl (K _) | exact absurd rfl (O _)
theorem fg(p:Ph){es:Array Event}{ap:Nx}(K:F.act p v wt sm=some ((v',wt',sm'),es,ap)):
  (∀e∈es,FZ F (p=.Ix∨∃j,p=.Im j) e)/\deafBehind (Gd (.ph p)) es=Gd ap/\(∀e∈es,∀B,F.wg<B->(MemAct.ofEvent e).low B):=by
 have az:∀b w,(MemAct.ofEvent ⟨.cell F.sA,w,b⟩).touch?=some ⟨.cell F.sA,w,if b then .atomic else .plain⟩:=by intro b w;cases b<;>cases w<;>rfl
 have ac:∀(a:Addr) w (T:Prop),a.block=F.wg->FZ F T ⟨.cell a,w,true⟩:=by
  intro a w T hb;refine⟨λx U=>?_,by simp⟩;have:x=⟨.cell a,w,.atomic⟩:=by cases w<;>(simp[MemAct.ofEvent,MemAct.touch?] at U;exact U.symm)
  subst this;exact⟨⟨F.wg,by simp[C4,hb],.inl V⟩,by simp,by simp⟩
 have ag:∀(a:Addr) w B,a.block=F.wg->F.wg<B->(MemAct.ofEvent ⟨.cell a,w,true⟩).low B:=by
  intro a w B hb O;cases w<;>simp[MemAct.ofEvent,MemAct.low,Loc.low,hb,O]
 have Hx:∀(m:Mark) (T:Prop),(∀a,m≠ .read a)->(∀a,m≠ .write a)->(∀a,m≠ .release a)->FZ F T (Fam.CR m):=by
  intro m T av aw ay;exact⟨λx U=>(by rw[Ub av aw] at U;cases U),λe=>ay _ (Loc.mark.inj e)⟩
 have ai:F.mA.block=F.wg:=V;have Z:F.sA.block=F.wg:=V;have FF:∀(T:Prop),∀e∈semEvents F.mA,FZ F T e:=by
  intro T e he;simp only[semEvents,qK,iO,pn,qu] at he;rcases he with rfl | rfl | rfl | rfl;exact Hx .disable T (by simp) (by simp) (by simp);exact ac _ _ _ ai;exact ac _ _ _ ai;exact Hx .enable T (by simp) (by simp) (by simp)
 have aq:∀e∈semEvents F.mA,∀B,F.wg<B->(MemAct.ofEvent e).low B:=by
  intro e he B O;simp only[semEvents,qK,iO,pn,qu] at he;rcases he with rfl | rfl | rfl | rfl;trivial;exact ag _ _ _ ai O;exact ag _ _ _ ai O;trivial
 have al:∀(T:Prop),∀e∈(#[Fam.Cn F.sA,Fam.EN F.sA]:Array Event),FZ F T e:=by
  intro T e he;simp only[qK,iO,pn,qu] at he;rcases he with rfl | rfl<;>exact ac _ _ _ Z
 have am:∀e∈(#[Fam.Cn F.sA,Fam.EN F.sA]:Array Event),∀B,F.wg<B->(MemAct.ofEvent e).low B:=by
  intro e he B O;simp only[qK,iO,pn,qu] at he;rcases he with rfl | rfl<;>exact ag _ _ _ Z O
 have one:∀{e:Event}{T:Prop},FZ F T e->∀x∈(#[e]:Array Event),FZ F T x:=by
  intro e T h x U;simp at U;subst U;exact h
 have Y:∀{e:Event},(∀B,F.wg<B->(MemAct.ofEvent e).low B)->∀x∈(#[e]:Array Event),∀B,F.wg<B->(MemAct.ofEvent x).low B:=by
  intro e h x U;simp at U;subst U;exact h
 cases p<;>simp only[Fam.act] at K<;>(try (cases K;done));cases K;exact⟨one (Hx _ _ (by simp) (by simp) (by simp)),V,Y λB O=>O⟩;cases K;exact⟨one (Hx _ _ (by simp) (by simp) (by simp)),V,Y λB O=>trivial⟩;split at K;cases K;exact⟨al _,by split<;>rfl,am⟩;cases K;split at K;cases K;exact⟨one (ac _ _ _ Z),V,Y λB O=>ag _ _ _ Z O⟩;cases K;split at K;cases K;exact⟨one (ac _ _ _ Z),V,Y λB O=>ag _ _ _ Z O⟩;cases K;split at K;cases K;exact⟨FF _,V,aq⟩;cases K;cases K;exact⟨one (Hx _ _ (by simp) (by simp) (by simp)),V,Y λB O=>trivial⟩;split at K;cases K;exact⟨one (ac _ _ _ Z),by split<;>rfl,Y λB O=>ag _ _ _ Z O⟩;cases K;split at K;split at K;cases K;exact⟨al _,V,am⟩;cases K;exact⟨one (ac _ _ _ Z),V,Y λB O=>ag _ _ _ Z O⟩;cases K;cases K;refine⟨one ⟨λx U=>?_,by simp[Fam.CR]⟩,V,Y λB O=>O⟩;simp[Fam.CR,MemAct.ofEvent,MemAct.touch?] at U;subst U;exact⟨⟨F.wg,V,.inl V⟩,by simp,λ_=>.inl V⟩;split at K;cases K;exact⟨FF _,V,aq⟩;cases K;split at K;cases K;exact⟨one (ac _ _ _ Z),V,Y λB O=>ag _ _ _ Z O⟩;cases K;cases K;exact⟨one (Hx _ _ (by simp) (by simp) (by simp)),V,Y λB O=>trivial⟩;cases K;exact⟨one (Hx _ _ (by simp) (by simp) (by simp)),V,Y λB O=>trivial⟩;split at K;cases K;exact⟨al _,by split<;>rfl,am⟩;cases K;cases K;refine⟨one ⟨λx U=>?_,by simp[Fam.CR]⟩,V,Y λB O=>O⟩;simp[Fam.CR,MemAct.ofEvent,MemAct.touch?] at U;subst U;exact⟨⟨F.wg,V,.inl V⟩,by simp,λ_=>.inr ⟨_,V⟩⟩;cases K;exact⟨one (Hx _ _ (by simp) (by simp) (by simp)),V,Y λB O=>trivial⟩
 all_goals
  cases K;exact⟨by simp,V,by simp⟩
theorem bB(p:Ph){es:Array Event}{U:Nx}(K:F.act p v wt sm=some ((v',wt',sm'),es,U)){k:Nat}(hw:Hr F k (.ph p))(O:late (.ph p)):
  ∀m e,es[m]?=some e->(MemAct.ofEvent e).touch?=none∨((∃ad wr,e=⟨.cell ad,wr,true⟩)/\0<deafBehind (Gd (.ph p)) (es.extract 0 m)):=by
 have two:∀m e,(#[Fam.Cn F.sA,Fam.EN F.sA]:Array Event)[m]?=some e->(∃ad wr,e=⟨.cell ad,wr,true⟩)/\0<deafBehind 1 ((#[Fam.Cn F.sA,Fam.EN F.sA]:Array Event).extract 0 m):=by
  intro m e h
  match m with
  | 0=>simp at h;subst h;exact⟨⟨_,_,rfl⟩,by simp[deafBehind]⟩
  | 1=>simp at h;subst h;exact⟨⟨_,_,rfl⟩,by simp[deafBehind,Fam.Cn]⟩
  | m+2=>simp at h
 cases p<;>simp only[Hr] at hw<;>(try exact hw.elim)<;>simp only[late] at O<;>(try exact O.elim)<;>simp only[Fam.act] at K<;>(try (cases K;done))
 .cases K;intro m e h
  match m with
  | 0=>simp at h;subst h;exact .inl rfl
  | m+1=>simp at h
 .split at K;cases K;exact λm e h=>.inr (two m e h);cases K
 .split at K
  .cases K;intro m e h
   match m with
   | 0=>simp at h;subst h;exact .inr ⟨⟨_,_,rfl⟩,by simp[deafBehind,Gd]⟩
   | m+1=>simp at h
  .cases K
 .split at K
  .cases K;intro m e h
   match m with
   | 0=>simp at h;subst h;exact .inr ⟨⟨_,_,rfl⟩,by simp[deafBehind,Gd]⟩
   | m+1=>simp at h
  .cases K
 .split at K
  .cases K;intro m e h
   match m with
   | 0=>simp[semEvents] at h;subst h;exact .inl rfl
   | 1=>simp[semEvents] at h;subst h;exact .inr ⟨⟨_,_,rfl⟩,by simp[deafBehind,Gd,semEvents]⟩
   | 2=>simp[semEvents] at h;subst h;exact .inr ⟨⟨_,_,rfl⟩,by simp[deafBehind,Gd,semEvents]⟩
   | 3=>simp[semEvents] at h;subst h;exact .inl rfl
   | m+4=>simp[semEvents] at h
  .cases K
theorem cX{p:LP}{m m':M4}{q:Nat}{es:Array Event}{o:Option LP}(K:(m',sz,es,o)∈F.B9 p m q):
  (∀e∈es,FZ F False e)/\deafBehind (dl p) es=oC dl o/\(∀e∈es,∀B,F.mu<B->(MemAct.ofEvent e).low B):=by
 have ac:∀(a:Addr) w,a.block=F.mu->FZ F False ⟨.cell a,w,true⟩:=by
  intro a w hb;refine⟨λx Z=>?_,by simp⟩;have:x=⟨.cell a,w,.atomic⟩:=by cases w<;>(simp[MemAct.ofEvent,MemAct.touch?] at Z;exact Z.symm)
  subst this;exact⟨⟨F.mu,by simp[C4,hb],.inr V⟩,by simp,by simp⟩
 have ag:∀(a:Addr) w B,a.block=F.mu->F.mu<B->(MemAct.ofEvent ⟨.cell a,w,true⟩).low B:=by
  intro a w B hb O;cases w<;>simp[MemAct.ofEvent,MemAct.low,Loc.low,hb,O]
 have Hx:∀(m:Mark),(∀a,m≠ .read a)->(∀a,m≠ .write a)->(∀a,m≠ .release a)->FZ F False (Fam.CR m):=by
  intro m ai al am;exact⟨λx Z=>(by rw[Ub ai al] at Z;cases Z),λe=>am _ (Loc.mark.inj e)⟩
 have nil:∀d,(∀e∈(#[]:Array Event),FZ F False e)/\deafBehind d #[]=d/\(∀e∈(#[]:Array Event),∀B,F.mu<B->(MemAct.ofEvent e).low B):=λd=>⟨by simp,rfl,by simp⟩;have rd:∀d,(∀e∈(#[Fam.Cn F.uA]:Array Event),FZ F False e)/\deafBehind d #[Fam.Cn F.uA]=d/\(∀e∈(#[Fam.Cn F.uA]:Array Event),∀B,F.mu<B->(MemAct.ofEvent e).low B):=λd=>
  ⟨λe he=>by simp at he;subst he;exact ac _ _ rfl,rfl,λe he B O=>by simp at he;subst he;exact ag _ _ _ rfl O⟩
 have U:∀d,(∀e∈(#[Fam.Cn F.uA,Fam.EN F.uA]:Array Event),FZ F False e)/\deafBehind d #[Fam.Cn F.uA,Fam.EN F.uA]=d/\(∀e∈(#[Fam.Cn F.uA,Fam.EN F.uA]:Array Event),∀B,F.mu<B->(MemAct.ofEvent e).low B):=λd=>
  ⟨λe he=>by
   simp only[qK,iO,pn,qu] at he
   rcases he with rfl | rfl<;>exact ac _ _ rfl,rfl,λe he B O=>by
   simp only[qK,iO,pn,qu] at he
   rcases he with rfl | rfl<;>exact ag _ _ _ rfl O⟩
 have FF:(∀e∈semEvents F.qA,FZ F False e)/\deafBehind 1 (semEvents F.qA)=1/\(∀e∈semEvents F.qA,∀B,F.mu<B->(MemAct.ofEvent e).low B):=by
  refine⟨λe he=>?_,V,λe he B O=>?_⟩;simp only[semEvents,qK,iO,pn,qu] at he;rcases he with rfl | rfl | rfl | rfl;exact Hx .disable (by simp) (by simp) (by simp);exact ac _ _ V;exact ac _ _ V;exact Hx .enable (by simp) (by simp) (by simp);simp only[semEvents,qK,iO,pn,qu] at he;rcases he with rfl | rfl | rfl | rfl;trivial;exact ag _ _ _ V O;exact ag _ _ _ V O;trivial
 have Y:∀(m:Mark) (d d':Nat),(∀a,m≠ .read a)->(∀a,m≠ .write a)->(∀a,m≠ .release a)->deafBehind d #[Fam.CR m]=d'->(∀B,F.mu<B->(MemAct.ofEvent (Fam.CR m)).low B)->
   (∀e∈(#[Fam.CR m]:Array Event),FZ F False e)/\deafBehind d #[Fam.CR m]=d'/\(∀e∈(#[Fam.CR m]:Array Event),∀B,F.mu<B->(MemAct.ofEvent e).low B):=λm d d' ai al am ap aq=>
  ⟨λe he=>by simp at he;subst he;exact Hx m ai al am,ap,λe he B O=>by simp at he;subst he;exact aq B O⟩
 cases p<;>simp only[Fam.B9,d7,f4,pn] at K
 case Gv=>obtain⟨rfl,rfl,rfl,rfl⟩:=K;exact Y .disable 0 1 (by simp) (by simp) (by simp) V λB O=>trivial
 case HN=>
  split at K<;>simp only[d7,f4] at K<;>obtain⟨rfl,rfl,rfl,rfl⟩:=K;exact U 1;exact rd 1
 case Cw sv aw it old=>
  simp only[Fam.FX,pg] at K;rcases K with K | K;split at K;split at K;simp only[d7] at K;split at K<;>simp only[f4] at K<;>obtain⟨rfl,rfl,rfl,rfl⟩:=K;exact U 1;exact rd 1;simp only[d7,f4] at K;obtain⟨rfl,rfl,rfl,rfl⟩:=K;exact nil 1;simp at K;split at K;split at K;simp only[d7,f4] at K;obtain⟨rfl,rfl,rfl,rfl⟩:=K;exact U 1;simp only[iO,pn,qu,f4] at K;rcases K with⟨rfl,rfl,rfl,rfl⟩ | ⟨rfl,rfl,rfl,rfl⟩<;>exact U 1;simp only[d7,f4] at K;obtain⟨rfl,rfl,rfl,rfl⟩:=K;exact rd 1
 case CI sv=>obtain⟨rfl,rfl,rfl,rfl⟩:=K;cases sv<;>exact FF
 case Gs=>
  simp only[iO,pn,qu,f4] at K;rcases K with⟨rfl,rfl,rfl,rfl⟩ | ⟨rfl,rfl,rfl,rfl⟩<;>exact nil 1
 case EW sv=>split at K<;>simp only[d7,f4] at K<;>obtain⟨rfl,rfl,rfl,rfl⟩:=K<;>exact nil 1
 case Ir=>
  obtain⟨rfl,rfl,rfl,rfl⟩:=K;split;exact U 1;split<;>exact U 1
 case Ff old=>
  split at K<;>simp only[d7,f4] at K<;>obtain⟨rfl,rfl,rfl,rfl⟩:=K;exact U 1;exact rd 1
 case HU=>obtain⟨rfl,rfl,rfl,rfl⟩:=K;split<;>exact nil 1
 case FE b=>obtain⟨rfl,rfl,rfl,rfl⟩:=K;exact FF
 case len=>obtain⟨rfl,rfl,rfl,rfl⟩:=K;exact Y .enable 1 0 (by simp) (by simp) (by simp) V λB O=>trivial
 case FG=>obtain⟨rfl,rfl,rfl,rfl⟩:=K;exact Y .enable 1 0 (by simp) (by simp) (by simp) V λB O=>trivial
 case K0=>obtain⟨rfl,rfl,rfl,rfl⟩:=K;exact Y .disable 0 1 (by simp) (by simp) (by simp) V λB O=>trivial
 case K1=>obtain⟨rfl,rfl,rfl,rfl⟩:=K;exact Y (.acquire F.uA) 0 0 (by simp) (by simp) (by simp) V λB O=>O
 case K6=>obtain⟨rfl,rfl,rfl,rfl⟩:=K;exact Y (.releaseMerge F.uA) 0 0 (by simp) (by simp) (by simp) V λB O=>O
 all_goals
  obtain⟨rfl,rfl,rfl,rfl⟩:=K
 all_goals first | exact nil 0 | exact nil 1 | exact U 1
end
def CK(c:Bool)(N:Nat)(φ:Nat->Nx):Nat->Nx:=λi=>if c=true/\i=N then φ 0 else if c=true/\i=0 then .ph (.Gb [] []) else φ i
theorem Kj{N:Nat}{φ:Nat->Nx}:CK false N φ=φ:=by funext i;simp[CK]
theorem Ju{c:Bool}{N:Nat}{φ:Nat->Nx}{i:Nat}(K:i≠0)(O:i≠N):CK c N φ i=φ i:=by simp[CK,K,O]
theorem KU{N:Nat}{φ:Nat->Nx}:CK true N φ N=φ 0:=by simp[CK]
theorem Px{c:Bool}{N:Nat}{φ:Nat->Nx}{i:Nat}{x:Nx}(K:i≠0)(O:i≠N):upd (CK c N φ) i x=CK c N (upd φ i x):=by
 funext a;unfold CK;by_cases e:a=i;subst e;rw[upd_same,d9 (by simp[O]),d9 (by simp[K]),upd_same];rw[upd_ne _ _ e];rw[upd_ne φ x (p6 K),upd_ne _ _ e]
theorem aE{N:Nat}{φ:Nat->Nx}{x:Nx}(O:N≠0):upd (CK true N φ) N x=CK true N (upd φ 0 x):=by
 funext a;unfold CK;by_cases e:a=N;subst e;simp[upd_same];rw[upd_ne _ _ e];by_cases K:a=0;subst K;simp[e];rw[upd_ne φ x K];simp[e,K]
def Ii:Nx->Bool
 | .gone _=>true
 | .ph p=>Fam.CZ p
def loc(x:Nx)(s:St):St:=if Ii x=true then .quiet else s
def Hd:LP->Prop
 | .Hf | .K5 | .K6 | .K0 | .Ir | .Ff _ | .HU | .FE _ | .FG=>True
 | _=>False
def stored:Nx->Prop
 | .gone _=>True
 | .ph (.lk _ p)=>Hd p
 | .ph .Iu | .ph .Hc | .ph .Jz | .ph .HS | .ph .Hs | .ph .HL | .ph .FJ=>True
 | _=>False
def Se(p:Ph):Prop:=p=.FV∨∃k sv,p=.lk k (.CI sv)
inductive Hg (P:Program) (F:Fam) (main:Bool):Nx->Rk->Bool->Gs_
 | walk {p:Ph}{r:Rk}{g:Goroutine}{s:St}:main=Fam.CN p->(Fam.CZ p=true->s=.quiet)->Jr P main (JQ (Stop P F p)) r g s->Hg P F main (.ph p) r true g s
 | blk {p:Ph}{r:Rk}{g:Goroutine}{s:St}:Se p->main=Fam.CN p->Stop P F p g s->Hg P F main (.ph p) r false {g with status:=.blocked} s
 | gone {q d:Nat}{g:Goroutine}:main=false->QuitsD P q d g->Hg P F main (.gone d) (chain q) true g .quiet
variable{g g':Goroutine}{Q:GP}
section
variable {P:Program}{F:Fam}{main:Bool}
theorem Jr.running{p:Ph}{r:Rk}{s:St}(h:Jr P main (JQ (Stop P F p)) r g s):g.status=.running:=by
 cases r with
 | leaf=>obtain⟨s₀,_,K⟩:=h;exact K.law.run
 | node f=>
  rcases h with⟨s₀,_,K⟩ | ⟨O,_⟩;exact K.law.run;exact O
theorem Jr.at_{r:Rk}{s:St}(h:Q g s):Jr P main Q r g s:=by
 cases r with
 | leaf=>exact h
 | node f=>exact .inl h
theorem Hg.awake{x:Nx}{r:Rk}{b:Bool}{s:St}(h:Hg P F main x r b g s):Go.Conc.awake g:=by
 cases h with
 | walk _ _ K=>exact awake_of (.inl K.running)
 | blk _ _ _=>exact awake_of (.inr (.inl rfl))
 | gone _ O=>exact awake_of (O.status.elim .inl λx=>.inr (.inr x))
theorem XT(h:g.status=.running):{({g with status:=.blocked}:Goroutine) with status:=.running}=g:=by
 obtain⟨a,b,c,d,e⟩:=g;simp only at h;subst h;rfl
theorem Tx{p:Ph}(h:Se p):Fam.CZ p=false:=by
 rcases h with rfl | ⟨k,sv,rfl⟩<;>rfl
theorem Hg.woken{x:Nx}{r:Rk}{b:Bool}{o:Goroutine}{s:St}(h:Hg P F main x r b o s){w':World}:
  ∃b',Hg P F main x r b' (Go.Conc.woken P g g' w' o) s/\(b=true->b'=true)/\(mayWake P g=true->g'.status=.running->b'=true):=by
 have al:∀(o:Goroutine),Go.Conc.woken P g g' w' o=o.again w'∨Go.Conc.woken P g g' w' o=o:=by
  intro o;unfold Go.Conc.woken;split;exact .inl V;exact .inr V
 cases h with
 | walk K am Y=>exact⟨true,by rw[woken_run Y.running];exact .walk K am Y,λ_=>rfl,λ_ _=>rfl⟩
 | @blk p _ go _ Z K O=>
  have ac:({go with status:=.blocked}:Goroutine).again w'=go:=by
   have:=O.law.offers;have ap:({go with status:=.blocked}:Goroutine).again w'={({go with status:=.blocked}:Goroutine) with status:=.running}:=by simp[Goroutine.again,this]
   rw[ap];exact XT O.law.run
  have ag:Hg P F main (.ph p) r true go s:=.walk K (λq=>by rw[Tx Z] at q;cases q) (Jr.at_ ⟨s,.refl _,O⟩);by_cases U:mayWake P g=true/\g'.status=.running
  .have e:Go.Conc.woken P g g' w' ({go with status:=.blocked}:Goroutine)=({go with status:=.blocked}:Goroutine).again w':=by
    unfold Go.Conc.woken;rw[eS (by simp[U.1,U.2])]
   exact⟨true,by rw[e,ac];exact ag,λ_=>V,λ_ _=>V⟩
  .rcases al ({go with status:=.blocked}:Goroutine) with e | e;exact⟨true,by rw[e,ac];exact ag,λ_=>V,λa b=>absurd ⟨a,b⟩ U⟩;exact⟨false,by rw[e];exact .blk Z K O,λe=>e,λa b=>absurd ⟨a,b⟩ U⟩
 | gone K ai=>exact⟨true,by rw[woken_quitsD ai];exact .gone K ai,λ_=>rfl,λ_ _=>rfl⟩
end
structure Base where
 N0:Nat
 t0:Nat
 E0:LH
 w0:World
structure Inv (P:Program) (F:Fam) (B:Base) (gs:Array Goroutine) (w:World) (t:Trace) (φ:Nat->Nx) (r:Nat->Rk) (bt:Nat->Bool) (S:Nat->St) (Sh:Nat->Prop) (j:Nat) (c:Bool) (v wt sm:Nat) (m:M4) (q:Nat) (f:Nat->Value):Prop where
 CP:CQ F B.N0 (gs.size+c.toNat) j c (CK c gs.size φ) v wt sm false
 lock:LI gs.size φ m q
 Fe:FB F B.N0 B.t0 gs.size j φ S t
 L4:∀i g,gs[i]?=some g->Hg P F (i==0) (φ i) (r i) (bt i) g (loc (φ i) (S i))
 Cm:B8 t w gs.size S Sh
 Is:Sh F.wg
 Jf:Sh F.mu
 JI:Sh F.fd
 Oa:F.mu≠F.wg
 K4:F.fd≠F.wg
 K3:F.fd≠F.mu
 Iy:F.n<134217728
 mn:φ 0≠ .ph .Hv/\φ 0≠ .ph .Ij
 wg:F.WG w v wt sm
 Ks:F.MU w m q
 G1:F.FD w f
 blk:∀i,i<gs.size->bt i=false->(i=0/\φ 0=.ph .FV/\sm=0)∨((∃k sv,φ i=.ph (.lk k (.CI sv)))/\q=0)
 Jd:∀k,k<j->stored (φ (B.N0+k))->F.msg k (f k) (S (B.N0+k)).E
 le:Le B.E0 (S 0).E
 tape:w.tape=B.w0.tape
 os:GZ B.w0.os w.os
 output:w.output=B.w0.output
variable{s':St}
section
variable {P:Program}{F:Fam}{B:Base}{gs:Array Goroutine}{w w':World}{t:Trace}{φ:Nat->Nx}{r:Nat->Rk}{bt:Nat->Bool}{S:Nat->St}{Sh:Nat->Prop}{j:Nat}{c:Bool}{v wt' sm v₁ wt₁ sm₁:Nat}{m m₁:M4}{q q₁:Nat}{f f₁:Nat->Value}
theorem Inv.at_(h:Inv P F B gs w t φ r bt S Sh j c v wt' sm m q f)(d:Nat):Inv P F B gs (w.at d) t φ r bt S Sh j c v wt' sm m q f:=
 have K:B8 t (w.at d) gs.size S Sh:=by
  have:=h.Cm.mute (u:=#[]) (w':=w.at d) (g:=0) (by simp) (by simp) (by simp) rfl;simpa using this
 {h with Cm:=K}
theorem Inv.size(h:Inv P F B gs w t φ r bt S Sh j c v wt' sm m q f):gs.size=B.N0+j:=by have:=h.CP.size;omega
theorem Inv.Fa(h:Inv P F B gs w t φ r bt S Sh j c v wt' sm m q f){i:Nat}(hi:i<gs.size):i=0∨(i≠0/\∃d,φ i=.gone d/\i<B.N0)∨∃k,k<j/\i=B.N0+k/\i≠0/\Hr F k (φ i):=by
 have Y:=h.size;have Z:=h.CP.pos;rcases qo i with K | K;exact .inl K
 rcases mt i B.N0 with O | O
 .have:=h.CP.old i K O;rw[Ju (by omega) (by omega)] at this;cases U:φ i with
  | gone d=>exact .inr (.inl ⟨by omega,d,rfl,O⟩)
  | ph p=>rw[U] at this;exact this.elim
 .have:=h.CP.work (i - B.N0) (by omega);rw[show B.N0+(i - B.N0)=i by omega,Ju (by omega) (by omega)] at this;exact .inr (.inr ⟨i - B.N0,by omega,by omega,by omega,this⟩)
theorem Inv.main(h:Inv P F B gs w t φ r bt S Sh j c v wt' sm m q f):∃p,φ 0=.ph p/\Fam.CN p=true/\((c=false/\Ig F.n j c p)∨(c=true/\Kl (.ph p))):=by
 have Z:=h.size;cases K:c with
 | false=>
  have:=h.CP.main;rw[K,Kj] at this;obtain⟨p,Y,O⟩:=this;exact⟨p,Y,by cases p<;>simp[Ig] at O<;>rfl,.inl ⟨V,O⟩⟩
 | true=>
  have:=h.CP.cls K;have ac:=h.CP.cj K;rw[K,show B.N0+F.n=gs.size by omega,KU] at this;cases U:φ 0 with
  | gone d=>
   have:=h.CP.mode;rw[eS K,K,show B.N0+F.n=gs.size by omega,KU,U] at this;simp[DY] at this
  | ph p=>rw[U] at this;exact⟨p,rfl,by cases p<;>simp[Kl] at this<;>rfl,.inr ⟨rfl,this⟩⟩
theorem KS(a b:LP->Nat)(N:Nat)(φ:Nat->Nx):Sg (λp=>a p+b p) N φ=Sg a N φ+Sg b N φ:=by
 unfold Sg
 induction N with
 | zero=>rfl
 | succ N K=>
  simp only[sumTo,K];have:Dr (λp=>a p+b p) (φ N)=Dr a (φ N)+Dr b (φ N):=by
   cases φ N with
   | gone d=>rfl
   | ph p=>cases p<;>rfl
  omega
theorem QY{a b:Nat->Nat}:∀{N M:Nat},N<=M->(∀i,i<N->a i<=b i)->sumTo N a<=sumTo M b
 | 0,_,_,_=>by simp[sumTo]
 | N+1,0,h,_=>by omega
 | N+1,M+1,h,K=>by
  rcases mt N M with q | q
  .have O:sumTo (N+1) a<=sumTo M b:=QY (by omega) K
   simp only[sumTo] at O ⊢;omega
  .obtain rfl:N=M:=by omega
   have O:sumTo N a<=sumTo N b:=QY (no _) λi hi=>K i (by omega);have U:=K N (by omega);simp only[sumTo];omega
theorem Inv.small(h:Inv P F B gs w t φ r bt S Sh j c v wt' sm m q f):Dk m:=by
 have Y:=h.size;have hb:Sg (λp=>(pQ p+pV p)+pD p) gs.size φ<=sumTo (gs.size+c.toNat) λi=>cU (CK c gs.size φ i):=by
  refine QY (by omega) λi hi=>?_;rcases qo i with rfl | Z;(obtain⟨p,O,hm,_⟩:=h.main;rw[O];cases p<;>first | (simp[Dr];done) | (simp[Fam.CN] at hm))
  .rw [Ju (by omega) (by omega)];cases φ i with
   | gone d=>simp[Dr]
   | ph p=>
    cases p<;>simp only[Dr]<;>(try omega)
    rename_i k l;cases l<;>simp[pQ,pV,pD,cU]
 rw[KS,KS] at hb;have ac:=h.CP.cnt;have ag:=h.CP.S6;obtain⟨l1,l2,U⟩:=h.lock.ln;have ai:=h.Iy;show m.w<134217728;cases K:m.s with
 | false=>have:=(l2 K).2.2.2.1;omega
 | true=>have:=(U K).2.2.2.2.1;omega
theorem Inv.go(h:Inv P F B gs w t φ r bt S Sh j c v wt' sm m q f){i:Nat}{es:Array Event}{x:Nx}{ρ:Rk}(hi:gs[i]?=some g)
  (ap:CQ F B.N0 (gs.size+c.toNat) j c (CK c gs.size (upd φ i x)) v₁ wt₁ sm₁ false) (aq:LI gs.size (upd φ i x) m₁ q₁)
  (av:FB F B.N0 B.t0 gs.size j (upd φ i x) (upd S i s') (t++MemOp.ofEvents i g.frame.fn g.frame.place es))
  (aw:Hg P F (i==0) x ρ true g' (loc x s'))
  (hC:B8 (t++MemOp.ofEvents i g.frame.fn g.frame.place es) w' gs.size (upd S i s') Sh)
  (ay:F.WG w' v₁ wt₁ sm₁) (az:F.MU w' m₁ q₁) (a0:F.FD w' f₁)
  (a1:sm₁≠0->sm=0->mayWake P g=true/\g'.status=.running) (a2:q₁≠0->q=0->mayWake P g=true/\g'.status=.running)
  (a3:∀k,k<j->stored (upd φ i x (B.N0+k))->F.msg k (f₁ k) (upd S i s' (B.N0+k)).E)
  (a4:i=0->x≠ .ph .Hv/\x≠ .ph .Ij) (a5:i=0->Le (S 0).E s'.E) (a6:w'.tape=w.tape) (a7:GZ w.os w'.os) (a8:w'.output=w.output):
  ∃O,Inv P F B ((gs.map (woken P g g' w')).setIfInBounds i g') w' (t++MemOp.ofEvents i g.frame.fn g.frame.place es) (upd φ i x) (upd r i ρ) O (upd S i s') Sh j c v₁ wt₁ sm₁ m₁ q₁ f₁:=by
 have a9:i<gs.size:=(f8.1 hi).1;have U:((gs.map (woken P g g' w')).setIfInBounds i g').size=gs.size:=by simp
 have al:∀a,∃b',(a=i->b'=true)/\(a≠i->∀o,gs[a]?=some o->Hg P F (a==0) (φ a) (r a) b' (woken P g g' w' o) (loc (φ a) (S a))/\(bt a=true->b'=true)/\(mayWake P g=true->g'.status=.running->b'=true)):=by
  intro a;by_cases e:a=i;exact⟨true,λ_=>V,λq=>absurd e q⟩
  .cases K:gs[a]? with
   | none=>exact⟨true,λ_=>rfl,λ_ o q=>by cases q⟩
   | some o=>
    let⟨b',bb,Y,Z⟩:=(h.L4 a o K).woken (g:=g) (g':=g') (w':=w');exact⟨b',λq=>absurd q e,λ_ o' q=>by cases q;exact⟨bb,Y,Z⟩⟩
 let O:Nat->Bool:=λa=>Classical.choose (al a);have hb:∀a,(a=i->O a=true)/\(a≠i->∀o,gs[a]?=some o->Hg P F (a==0) (φ a) (r a) (O a) (woken P g g' w' o) (loc (φ a) (S a))/\(bt a=true->O a=true)/\(mayWake P g=true->g'.status=.running->O a=true)):=λa=>qG (al a);refine⟨O,by rw[U];exact ap,by rw[U];exact aq,by rw[U];exact av,λa o K=>?_,by rw[U];exact hC,h.Is,h.Jf,h.JI,h.Oa,h.K4,h.K3,h.Iy,(by
  by_cases e:i=0;subst e;rw[upd_same];exact a4 V
  .rw [upd_ne _ _ (p6 e)];exact h.mn),ay,az,a0,λa ag ai=>?_,a3,λb o K=>?_,a6.trans h.tape,h.os.trans a7,a8.trans h.output⟩
 .by_cases e:a=i;subst e;rw[pq (by simpa using a9)] at K;obtain rfl:=f5 K;rw[upd_same,upd_same,upd_same,(hb a).1 rfl];exact aw;rw[pe (p6 e),q1] at K;obtain⟨o',be,rfl⟩:=p7.1 K;rw[upd_ne _ _ e,upd_ne _ _ e,upd_ne _ _ e];exact((hb a).2 e o' be).1
 .rw [U] at ag;have e:a≠i:=λe=>by have:=(hb a).1 e;rw[ai] at this;cases this
  let⟨_,k1,bi⟩:=(hb a).2 e _ (pP ag);have am:¬(mayWake P g=true/\g'.status=.running):=λ⟨x,y⟩=>by have:=bi x y;rw[ai] at this;cases this
  have bn:bt a=false:=by
   cases ac:bt a with
   | false=>rfl
   | true=>have:=k1 ac;rw[ai] at this;cases this
  rcases h.blk a ag bn with⟨rfl,Y,Z⟩ | ⟨⟨k,sv,Y⟩,Z⟩;refine .inl ⟨V,by rw[upd_ne _ _ e];exact Y,?_⟩;exact tb.1 λac=>am (a1 ac Z);refine .inr ⟨⟨k,sv,by rw[upd_ne _ _ e];exact Y⟩,?_⟩;exact tb.1 λac=>am (a2 ac Z)
 .by_cases e:i=0;subst e;rw[upd_same];exact a5 V b o (h.le b o K);rw[upd_ne _ _ (p6 e)];exact h.le b o K
end
def S3(P:Program)(F:Fam)(B:Base)(gs:Array Goroutine)(w:World)(t:Trace):Prop:=
 ∃q Sh g s,HX P gs w t q Sh g s/\F.fin g s/\Le B.E0 s.E/\w.tape=B.w0.tape/\GZ B.w0.os w.os/\w.output=B.w0.output
def I0(P:Program)(F:Fam)(B:Base)(gs:Array Goroutine)(w:World)(sl:Option (Nat×Nat))(t:Trace)(i:Nat)(K:Mu):Prop:=
 ∃gs' w' O u,runT P (crowd gs w sl) i=(.next (crowd gs' w' O),u)/\
  ((∃φ r bt S Sh j c v wt' sm m q f,Inv P F B gs' w' (t++u) φ r bt S Sh j c v wt' sm m q f/\Mu.lt (mu F gs'.size φ m q r bt) K)∨S3 P F B gs' w' (t++u))
theorem LI.same{N:Nat}{φ:Nat->Nx}{m:M4}{q i:Nat}{y:Nx}(h:LI N φ m q)(hi:i<N)(O:∀f,Dr f (φ i)=Dr f y∨(f≠pH/\f≠pN/\f≠pZ/\f≠pV/\f≠pT/\f≠pQ/\f≠pD/\f≠pX))(U:Qw y m):LI N (upd φ i y) m q:=by
 have e:∀f,(f=pH∨f=pN∨f=pZ∨f=pV∨f=pT∨f=pQ∨f=pD∨f=pX)->Sg f N (upd φ i y)=Sg f N φ:=λf Y=>Pp f hi (by
  rcases O f with q | ⟨a,b,c,d,e,f,g,h⟩;exact q
  .rcases Y with q | q | q | q | q | q | q | q<;>contradiction)
 refine⟨by rw[e pH (by simp),e pN (by simp),e pZ (by simp),e pV (by simp),e pT (by simp),e pQ (by simp),e pD (by simp),e pX (by simp)];exact h.ln,λa Z=>?_⟩;by_cases K:a=i;subst K;rw[upd_same];exact U;rw[upd_ne _ _ K];exact h.loc a Z
section
variable {P:Program}{F:Fam}{B:Base}{gs:Array Goroutine}{w w':World}{sl:Option (Nat×Nat)}{t:Trace}{φ:Nat->Nx}{r:Nat->Rk}{bt:Nat->Bool}{S:Nat->St}{Sh:Nat->Prop}{j:Nat}{c:Bool}{v wt' sm v₁ wt₁ sm₁:Nat}{m m₁:M4}{q q₁:Nat}{f f₁:Nat->Value}
theorem Inv.go'(h:Inv P F B gs w t φ r bt S Sh j c v wt' sm m q f){i:Nat}{es:Array Event}{x:Nx}{ρ:Rk}(hi:gs[i]?=some g)(O:stepG P (i==0) g w=.go g' w' es)
  (U:CQ F B.N0 (gs.size+c.toNat) j c (CK c gs.size (upd φ i x)) v₁ wt₁ sm₁ false) (Y:LI gs.size (upd φ i x) m₁ q₁)
  (Z:FB F B.N0 B.t0 gs.size j (upd φ i x) (upd S i s') (t++MemOp.ofEvents i g.frame.fn g.frame.place es))
  (ac:Hg P F (i==0) x ρ true g' (loc x s'))
  (hC:B8 (t++MemOp.ofEvents i g.frame.fn g.frame.place es) w' gs.size (upd S i s') Sh)
  (ag:F.WG w' v₁ wt₁ sm₁) (ai:F.MU w' m₁ q₁) (al:F.FD w' f₁)
  (am:sm₁≠0->sm=0->mayWake P g=true/\g'.status=.running) (ap:q₁≠0->q=0->mayWake P g=true/\g'.status=.running)
  (aq:∀k,k<j->stored (upd φ i x (B.N0+k))->F.msg k (f₁ k) (upd S i s' (B.N0+k)).E)
  (av:i=0->x≠ .ph .Hv/\x≠ .ph .Ij) (aw:i=0->Le (S 0).E s'.E) (ay:w'.tape=w.tape) (az:GZ w.os w'.os) (a0:w'.output=w.output)
  (hm:∀K,Mu.lt (mu F gs.size (upd φ i x) m₁ q₁ (upd r i ρ) K) (mu F gs.size φ m q r bt)):I0 P F B gs w sl t i (mu F gs.size φ m q r bt):=by
 let⟨K,a1⟩:=h.go hi U Y Z ac hC ag ai al am ap aq av aw ay az a0;refine⟨_,_,_,_,runT_crowd_go hi O,.inl ⟨_,_,_,_,_,_,_,_,_,_,_,_,_,a1,?_⟩⟩;have a2:((gs.map (woken P g g' w')).setIfInBounds i g').size=gs.size:=by simp
 rw[a2];exact hm K
theorem TU{k:Nat}{p:Ph}(hw:Hr F k (.ph p))(K:late (.ph p)):Fam.CZ p=true:=by
 cases p<;>simp only[Hr] at hw<;>(try exact hw.elim)<;>first | rfl | exact K.elim
theorem OE(a:Nat)(fn:FuncId)(pos:String):MemOp.ofEvents a fn pos #[]=#[]:=by rw[ofEvents_eq];simp
theorem Inv.own(h:Inv P F B gs w t φ r bt S Sh j c v wt' sm m q f)(a9:∀k v E E',Le E E'->F.msg k v E->F.msg k v E'){i:Nat}{es:Array Event}{p:Ph}{ρ:Rk}(hi:gs[i]?=some g)(K:φ i=.ph p)(az:(i==0)=Fam.CN p)
  (a0:stepG P (i==0) g w=.go g' w' es) (a1:Jr P (i==0) (JQ (Stop P F p)) ρ g' s') (bb:Fits s' w') (O:Fr (loc (.ph p) (S i)) w s' w') (Y:∀e∈es,Ev (loc (.ph p) (S i)) w w' e) (be:loc (.ph p) (S i)=.quiet->s'=.quiet/\w'=w/\es=#[]) (bi:Rk.sub ρ (r i)):
  I0 P F B gs w sl t i (mu F gs.size φ m q r bt):=by
 have U:i<gs.size:=(f8.1 hi).1;have Z:upd φ i (.ph p)=φ:=by rw[← K];exact OZ _ _
 have a2:∀a3,Mu.lt (mu F gs.size (upd φ i (.ph p)) m q (upd r i ρ) a3) (mu F gs.size φ m q r bt):=λa3=>Xo U (λ_=>by rw[K]) (by rw[K]) bi;cases ac:Fam.CZ p with
 | true=>
  have ag:loc (.ph p) (S i)=.quiet:=by simp[loc,Ii,ac]
  obtain⟨rfl,rfl,rfl⟩:=be ag;have aq:upd S i (S i)=S:=OZ _ _;refine h.go' hi a0 (x:=.ph p) (ρ:=ρ) (s':=S i) (by rw[Z];exact h.CP) (by rw[Z];exact h.lock) ?_ (by rw[ag];exact .walk az (λ_=>rfl) a1) ?_ h.wg h.Ks h.G1 (λa b=>absurd b a) (λa b=>absurd b a) (by rw[Z,aq];exact h.Jd) (λe=>by subst e;rw[← K];exact h.mn) (λe=>by subst e;exact .refl _) V (.refl _) V a2;rw[Z,aq,OE];simpa using h.Fe;rw[aq,OE];simpa using h.Cm
 | false=>
  have ag:loc (.ph p) (S i)=S i:=by simp[loc,Ii,ac]
  rw[ag] at O Y;have bn:loc (.ph p) s'=s':=by simp[loc,Ii,ac]
  have av:∀b₀,Sh b₀->∀b wr,Hn (S i) w w' b wr->b≠b₀:=by
   intro b₀ al b wr bo;have a4:=h.Cm.sh i U b₀ al;have b2:=h.Cm.GU b₀ al;rintro rfl;rcases bo.2 with q | q | ⟨q,_⟩;exact q a4.1;omega;exact q a4.2
  have aw:∀b₀,Sh b₀->w'.heap[b₀]?=w.heap[b₀]? :=λb₀ al=>O.keep b₀ (h.Cm.GU b₀ al) (h.Cm.sh i U b₀ al).1;have a5:∀k,k<j->i=B.N0+k->¬late (φ i):=by
   intro k ai e a6;rcases h.Fa U with b3 | ⟨_,d,hd,_⟩ | ⟨k',_,_,_,hw⟩;have:=h.CP.pos;omega;rw[K] at hd;cases hd;rw[K] at hw a6;rw[TU hw a6] at ac;cases ac
  have bv:∀e∈es,e.loc≠ .mark .disable/\e.loc≠ .mark .enable:=by
   intro e he;have:=Y e he;refine⟨λap=>?_,λap=>?_⟩<;>unfold Ev at this<;>rw[ap] at this<;>exact this
  refine h.go' (f₁:=f) hi a0 (x:=.ph p) (ρ:=ρ) (s':=s') (by rw[Z];exact h.CP) (by rw[Z];exact h.lock) ?_ (by rw[bn];exact .walk az (λe=>by rw[ac] at e;cases e) a1) (h.Cm.own U bb O Y) ?_ ?_ ?_ (λa b=>absurd b a) (λa b=>absurd b a) ?_ (λe=>by subst e;rw[← K];exact h.mn) (λe=>by subst e;exact λb o ay=>O.ext b o ay) O.tape (.of O.os) O.output a2
  .refine h.Fe.app U (by rw[K];exact deafBehind_still bv _) (λe he=>⟨λa b am hb bw=>absurd bw ?_,λa am hb=>absurd V (av F.fd h.JI F.fd a.write (Mt (Y e he) am hb)),?_⟩) ?_ (λk ai bx e he a b am hb hw=>?_) (λk ai e ag=>absurd (K▸ag) (a5 k ai e));have:=Mt (Y e he) am hb;rintro(q | q);exact av F.wg h.Is b _ this q;exact av F.mu h.Jf b _ this q;intro ap;have:=Y e he;unfold Ev at this;rw[ap] at this;exact this;rcases h.Fa U with e | ⟨_,d,hd,_⟩ | ⟨k,_,e,_,_⟩;exact .inl (.inl e);rw[K] at hd;cases hd;exact .inl (.inr (by omega))
   .have bz:=Mt (Y e he) am hb;have b0:B.N0+k≠i:=λe=>a5 k ai e.symm (e▸bx);have a7:B.N0+k<gs.size:=by have:=h.size;omega
    rcases bz.2 with y | y | ⟨_,y⟩;exact(h.Cm.hh i (B.N0+k) U a7 (p6 b0) b y).2
    .cases b1:(S (B.N0+k)).E b with
     | none=>rfl
     | some o=>have:=(h.Cm.fits _ a7).e b o b1;simp[py y] at this
    .rw [y] at hw;cases hw
  show w'.heap[F.wg]?=_;rw[aw _ h.Is];exact h.wg;show w'.heap[F.mu]?=_;rw[aw _ h.Jf];exact h.Ks;show w'.heap[F.fd]?=_;rw[aw _ h.JI];exact h.G1;intro k ai a8;rw[Z] at a8;have:=h.Jd k ai a8;by_cases e:B.N0+k=i;rw[e,upd_same];rw[e] at this;exact a9 _ _ _ _ (λb o ay=>O.ext b o ay) this;rw[upd_ne _ _ e];exact this
theorem Inv.slip(h:Inv P F B gs w t φ r bt S Sh j c v wt' sm m q f){i:Nat}(hi:gs[i]?=some g)(Z:g.status=.running){d U:Nat}(O:φ i=.gone d)(ay:r i=chain U)(ag:(i==0)=false)(am:QuitsD P U d g):
  I0 P F B gs w sl t i (mu F gs.size φ m q r bt):=by
 have ai:i<gs.size:=(f8.1 hi).1;have ac:i≠0:=by simpa using ag
 cases U with
 | zero=>rw[am.1] at Z;cases Z
 | succ U=>
  rcases am with⟨az,_⟩ | ⟨_,g',es,hm,a0,a1⟩;rw[az] at Z;cases Z
  have a2:∀op∈MemOp.ofEvents i g.frame.fn g.frame.place es,op.act.touch?=none:=λop Y=>by obtain⟨e,he,rfl⟩:=mem_ofEvents Y;exact touch_mute (hm e he)
  have a3:∀e∈es,e.loc≠ .mark (.release F.sA):=by
   intro e he ap;have:=hm e he;obtain⟨loc,wr,a6⟩:=e;simp only at ap;subst ap;simp[Event.mute] at this
  have aq:upd S i (S i)=S:=OZ _ _;have av:=h.CP.leave (i:=i) (d:=d) (d':=deafBehind d es) (by omega) (by rw[Ju ac (by omega)];exact O);rw[Px ac (by omega)] at av;refine h.go' hi (by rw[ag];exact a0 w) (x:=.gone (deafBehind d es)) (ρ:=chain U) (s':=S i) av (h.lock.other ai (λk p e=>by rw[O] at e;cases e) (λk p e=>by cases e)) ?_ (.gone ag a1) ?_ h.wg h.Ks h.G1 (λa b=>absurd b a) (λa b=>absurd b a) ?_ (λe=>absurd e ac) (λe=>absurd e ac) V (.refl _) V λa7=>Xo ai (λ_=>by rw[O];rfl) (by rw[O];rfl) (by rw[ay];exact Zj U w);refine h.Fe.app ai (by rw[O];rfl) (λe he=>⟨λa b K=>(by rw[touch_mute (hm e he)] at K;cases K),λa K=>(by rw[touch_mute (hm e he)] at K;cases K),a3 e he⟩) (.inr λe he=>touch_mute (hm e he)) (λk al a4 e he a b K=>(by rw[touch_mute (hm e he)] at K;cases K)) (λk al e a4=>.inl ⟨by rw[O];trivial,V,λρ a5=>?_⟩);exact a5.appOwn _ _ es λm e he=>.inl (touch_mute (hm e (Array.mem_of_getElem? he)));rw[aq];exact h.Cm.mute (g:=i) (λop Y=>by obtain⟨e,_,rfl⟩:=mem_ofEvents Y;rfl) a2 (λop Y=>by obtain⟨e,he,rfl⟩:=mem_ofEvents Y;exact low_mute (hm e he) _) V;rw[aq];intro k al aw;refine h.Jd k al ?_;by_cases e:B.N0+k=i;rw[e,O];trivial;rw[upd_ne _ _ e] at aw;exact aw
theorem eG{p:Ph}{es:Array Event}(O:F.act p v wt' sm=some ((v₁,wt₁,sm₁),es,K)):
  (∀q,K=.ph q->Fam.CN q=Fam.CN p/\(Fam.CZ q=true->p=.Hc∨Fam.CZ p=true)/\(Fam.CZ q=false->Fam.CZ p=false/\p≠ .Hc)/\∀k l,q≠ .lk k l)/\(sm₁≠0->sm=0->p=.FJ)/\(∀d,K=.gone d->Fam.CN p=false/\Fam.CZ p=true)/\
  (∀k l,p≠ .lk k l)/\(Fam.CN p=false->stored K)/\(Fam.CN p=false->late K->late (.ph p)∨p=.Hc)/\(Fam.CN p=false->stored (.ph p))/\K≠ .ph .Hv/\K≠ .ph .Ij:=by
 cases p<;>simp only[Fam.act] at O<;>(try (cases O;done))
 all_goals (try (split at O))<;>(try (cases O;done))<;>(try (split at O))
 all_goals cases O
 all_goals first
  | (simp[Fam.CN,Fam.CZ,stored,late];done)
  | (split<;>simp[Fam.CN,Fam.CZ,stored,late];done)
  | (simp[Fam.CN,Fam.CZ,stored,late];omega)
theorem CQ.enabled{N0 N:Nat}{cl:Bool}(h:CQ F N0 N j c φ v wt' sm cl){i:Nat}(hi:i<N){p:Ph}(K:φ i=.ph p)(ay:∀k,p≠ .HQ k)(az:∀k,p≠ .Ge k)(a0:p≠ .Hv)(a1:∀a2 vs,p≠ .Gb a2 vs)(a3:p≠ .Ij)(a4:p=.FV->sm=1)(a5:p≠ .GV)(a6:∀k l,p≠ .lk k l):
  ∃v' w' sm' es a7,F.act p v wt' sm=some ((v',w',sm'),es,a7):=by
 have hm:=h.mode;have be:=h.S6;have bi:=h.Iy;have O:=h.cnt;have ac:cU (φ i)<=sumTo N λa=>cU (φ a):=le_sumTo (f:=λa=>cU (φ a)) hi;have ag:cL (φ i)<=sumTo N λa=>cL (φ a):=le_sumTo (f:=λa=>cL (φ a)) hi;have ap:cS (φ i)<=sumTo N λa=>cS (φ a):=le_sumTo (f:=λa=>cS (φ a)) hi;rw[K] at ac ag ap;have a8:wt'<=1:=by
  generalize (if c=true then φ (N0+F.n) else Nx.ph .DF)=y at hm
  cases y with
  | gone d=>simp only[DY] at hm;omega
  | ph q=>cases q<;>simp only[DY] at hm<;>(try exact hm.elim)<;>omega
 have ai:1<=(sumTo N λa=>cL (φ a))+(sumTo N λa=>cS (φ a))->v=0/\sm=0/\wt'=sumTo N λa=>cL (φ a):=by
  intro hh;generalize (if c=true then φ (N0+F.n) else Nx.ph .DF)=y at hm
  cases y with
  | gone d=>simp only[DY] at hm;omega
  | ph q=>cases q<;>simp only[DY] at hm<;>(try exact hm.elim)<;>omega
 have al:∀x,φ i=.ph x->Kl (.ph x)->c=true/\(if c=true then φ (N0+F.n) else Nx.ph .DF)=.ph x:=by
  intro x Y aq;rcases h.Fa hi with rfl | ⟨a,b⟩ | ⟨k,am,rfl⟩ | ⟨O,rfl⟩;obtain⟨q,U,Z⟩:=h.main;rw[Y] at U;cases U;cases x<;>simp[Ig] at Z<;>exact aq.elim;have:=h.old i a b;rw[Y] at this;exact this.elim;have:=h.work k am;rw[Y] at this;cases x<;>simp[Hr] at this<;>exact aq.elim;exact⟨O,by rw[eS O];exact Y⟩
 cases p<;>simp only[Fam.act];exact absurd V (ay _);exact⟨_,_,_,_,_,V⟩;exact⟨_,_,_,_,_,V⟩
 .simp only [cU] at ac;have:1<=v:=by
   have bn:1<=sumTo N λa=>cU (φ a):=ac;omega
  rw[eS ⟨this,by omega,a8⟩];exact⟨_,_,_,_,_,V⟩
 have a9:1<=sumTo N λa=>cL (φ a):=ag;have:=ai (by omega);rw[eS ⟨this.1,by omega⟩];exact⟨_,_,_,_,_,V⟩;have a9:1<=sumTo N λa=>cL (φ a):=ag;have:=ai (by omega);rw[eS ⟨this.1,by omega⟩];exact⟨_,_,_,_,_,V⟩;have bo:1<=sumTo N λa=>cS (φ a):=ap;have:=ai (by omega);rw[eS this.2.1];exact⟨_,_,_,_,_,V⟩;exact⟨_,_,_,_,_,V⟩;let⟨av,e⟩:=al _ K trivial;rw[e] at hm;rw[eS ⟨hm.2.2.2.2.2,hm.2.2.2.1⟩];exact⟨_,_,_,_,_,V⟩;let⟨av,e⟩:=al _ K trivial;rw[e] at hm;rw[eS ⟨hm.2.2.2.2.2.1,hm.2.2.2.2.2.2,hm.2.2.2.1⟩];split<;>exact⟨_,_,_,_,_,rfl⟩;exact⟨_,_,_,_,_,V⟩;rw[eS (a4 rfl)];exact⟨_,_,_,_,_,V⟩;let⟨av,e⟩:=al _ K trivial;rw[e] at hm;rw[eS ⟨hm.2.2.2.2.1,hm.2.2.2.1⟩];exact⟨_,_,_,_,_,V⟩;exact⟨_,_,_,_,_,V⟩;exact absurd V a5;exact absurd V a3;exact⟨_,_,_,_,_,V⟩
 .have bb:c=false/\v<=j/\j<F.n:=by
   rcases h.Fa hi with rfl | ⟨a,b⟩ | ⟨k,am,rfl⟩ | ⟨O,rfl⟩;obtain⟨q,U,Z⟩:=h.main;rw[K] at U;cases U;have aw:=h.K7;rw[K] at aw;exact⟨Z.2.2,by simpa [pend] using aw,Z.2.1⟩;have:=h.old i a b;rw[K] at this;exact this.elim;have:=h.work k am;rw[K] at this;exact this.elim;have:=h.cls O;rw[K] at this;exact this.elim
  rw[bb.1] at hm;simp only[px,qp,DY] at hm;rw[eS ⟨by omega,hm.2.2.2.1⟩];exact⟨_,_,_,_,_,V⟩
 exact⟨_,_,_,_,_,V⟩;exact⟨_,_,_,_,_,V⟩;exact absurd V (az _);exact absurd V a0;exact absurd V (a1 _ _)
 all_goals first | exact⟨_,_,_,_,_,rfl⟩ | exact absurd rfl (a6 _ _)
end
variable{s₀:St}{l:LP}
section
variable {P:Program}{F:Fam}{B:Base}{gs:Array Goroutine}{w w':World}{sl:Option (Nat×Nat)}{t:Trace}{φ:Nat->Nx}{r:Nat->Rk}{bt:Nat->Bool}{S:Nat->St}{Sh:Nat->Prop}{j:Nat}{c:Bool}{v wt' sm v₁ wt₁ sm₁:Nat}{m m₁:M4}{q q₁:Nat}{f f₁:Nat->Value}
theorem ZV(w:World)(v wt sm:Nat):(F.put w v wt sm).heap.size=w.heap.size:=by simp[Fam.put]
theorem Sz(w:World)(v wt sm:Nat){b:Nat}(h:b≠F.wg):(F.put w v wt sm).heap[b]?=w.heap[b]? :=by simp[Fam.put,pe (p6 h)]
theorem en(w:World)(v wt sm:Nat)(h:F.wg<w.heap.size):F.WG (F.put w v wt sm) v wt sm:=by simp[Fam.WG,Fam.put,h]
theorem Zi(w:World)(m:M4)(q:Nat):(F.Gc w m q).heap.size=w.heap.size:=by simp[Fam.Gc]
theorem RY(w:World)(m:M4)(q:Nat){b:Nat}(h:b≠F.mu):(F.Gc w m q).heap[b]?=w.heap[b]? :=by simp[Fam.Gc,pe (p6 h)]
theorem cE(w:World)(m:M4)(q:Nat)(h:F.mu<w.heap.size):F.MU (F.Gc w m q) m q:=by simp[Fam.MU,Fam.Gc,h]
theorem Y4(w:World)(f:Nat->Value):(F.HW w f).heap.size=w.heap.size:=by simp[Fam.HW]
theorem RX(w:World)(f:Nat->Value){b:Nat}(h:b≠F.fd):(F.HW w f).heap[b]?=w.heap[b]? :=by simp[Fam.HW,pe (p6 h)]
theorem cK(w:World)(f:Nat->Value)(h:F.fd<w.heap.size):F.FD (F.HW w f) f:=by simp[Fam.FD,Fam.HW,h]
theorem dZ{p:Ph}{s:St}(h:p≠ .Hc):Fam.Kw p s=s:=by cases p<;>first | rfl | exact absurd rfl h
theorem B8.heap{t:Trace}{w w':World}{N:Nat}{S:Nat->St}{Sh:Nat->Prop}(h:B8 t w N S Sh)(hw:w'.heap=w.heap):B8 t w' N S Sh:=by
 have:=h.mute (u:=#[]) (w':=w') (g:=0) (by simp) (by simp) (by simp) hw;simpa using this
theorem Inv.act(h:Inv P F B gs w t φ r bt S Sh j c v wt' sm m q f)(b0:∀k v E E',Le E E'->F.msg k v E->F.msg k v E'){i:Nat}(hi:gs[i]?=some g){p:Ph}(K:φ i=.ph p)(ac:(i==0)=Fam.CN p)(b1:Cu (loc (.ph p) (S i)) s₀)(ap:Stop P F p g s₀)
  {es:Array Event}{Z:Nx}(O:F.act p v wt' sm=some ((v₁,wt₁,sm₁),es,Z)):I0 P F B gs w sl t i (mu F gs.size φ m q r bt):=by
 have U:i<gs.size:=(f8.1 hi).1;let⟨g',b2,b3,a3⟩:=ap.law.act _ _ _ _ _ _ _ _ O;let⟨n1,n2,b4,b5,n5,b6,ca,cc⟩:=eG O;let⟨al,e2,ce⟩:=fg p O;have a4:=h.Cm.GU F.wg h.Is;have ea:=h.size;have eb:=h.CP.pos;have a5:i≠0->Fam.CN p=false:=λe=>by rw[← ac];simp[e]
 have a6:(p=.Ix∨∃j,p=.Im j)->i=0:=by
  intro Y;have:Fam.CN p=true:=by rcases Y with rfl | ⟨j,rfl⟩<;>rfl
  rw[this] at ac;simpa using ac
 have a7:i=0∨B.N0<=i:=by
  rcases h.Fa U with e | ⟨_,d,hd,_⟩ | ⟨k,_,e,_,_⟩;exact .inl e;rw[K] at hd;cases hd;exact .inr (by omega)
 let s':St:=if Fam.CZ p=true then S i else s₀
 have aq:Fam.CZ p=true->s'=S i:=λe=>by simp[s',e]
 have ag:Fam.CZ p=false->s'=s₀:=λe=>by simp[s',e]
 have a8:Fam.CZ p=false->Cu (S i) s₀:=λe=>by simpa [loc,Ii,e] using b1
 have hle:Le (S i).E s'.E:=by
  cases e:Fam.CZ p with
  | true=>rw[aq e];exact .refl _
  | false=>rw[ag e];exact λb o av=>(a8 e).ext b o av
 have a9:B8 t w gs.size (upd S i s') Sh:=by
  cases e:Fam.CZ p with
  | true=>rw[aq e,OZ];exact h.Cm
  | false=>rw[ag e];exact h.Cm.ghost U (a8 e)
 have ci:B8 (t++MemOp.ofEvents i g.frame.fn g.frame.place es) (F.put w v₁ wt₁ sm₁) gs.size (upd S i s') Sh:=by
  refine a9.ext (h.Fe.noRace h.Cm.clean U a7 λe he=>(al e he).toS a6) (λop aw a ay b hb=>?_) (λop aw=>?_) (ZV ..) (λb hb=>Sz _ _ _ _ λe=>hb (e▸h.Is));obtain⟨e,he,rfl⟩:=mem_ofEvents aw;let⟨⟨b',ai,az⟩,_⟩:=(al e he).1 a ay;rw[hb] at ai;cases ai;rcases az with rfl | rfl;exact h.Is;exact h.Jf;obtain⟨e,he,rfl⟩:=mem_ofEvents aw;exact ce e he _ a4
 have co:stepG P (i==0) g w=.go g' (F.put w v₁ wt₁ sm₁) es:=by rw[ac];exact b2 w h.wg
 have cp:CQ F B.N0 (gs.size+c.toNat) j c (CK c gs.size (upd φ i Z)) v₁ wt₁ sm₁ false:=by
  by_cases e:i=0
  .subst e;cases c with
   | false=>
    have:=h.CP.act (i:=0) (by omega) (by rw[Kj];exact K) O;rw[Kj] at this;rw[Kj];exact this
   | true=>
    have:=h.CP.act (i:=gs.size) (by simp) (by rw[KU];exact K) O
    rwa[aE (by omega)] at this
  .have:=h.CP.act (i:=i) (by omega) (by rw[Ju e (by omega)];exact K) O
   rwa[Px e (by omega)] at this
 have ct:FB F B.N0 B.t0 gs.size j (upd φ i Z) (upd S i s') (t++MemOp.ofEvents i g.frame.fn g.frame.place es):=by
  refine h.Fe.app U (by rw[K];exact e2) (λe he=>(al e he).keep a6 h.K4 h.K3) (.inl a7) (λk am bb e he a b ay hb hw=>?_) (λk am e bb=>?_)
  .let⟨⟨b',ai,az⟩,_⟩:=(al e he).1 a ay;rw[hb] at ai;cases ai;have be:B.N0+k<gs.size:=by omega
   rcases az with rfl | rfl;exact(h.Cm.sh _ be _ h.Is).2;exact(h.Cm.sh _ be _ h.Jf).2
  .have bi:i≠0:=by omega
   have bn:Hr F k (.ph p):=by
    rcases h.Fa U with cw | ⟨_,d,hd,_⟩ | ⟨k',_,ec,_,hw⟩;exact absurd cw bi;rw[K] at hd;cases hd
    .obtain rfl:k'=k:=by omega
     rwa[K] at hw
   rcases b6 (a5 bi) bb with a0 | rfl;refine .inl ⟨by rw[K];exact a0,by rw[aq (TU bn a0)],λρ a2=>?_⟩;refine a2.appOwn _ _ es λm e he=>?_;rw[h.Fe.deaf _ U,K];exact bB p O bn a0 m e he
   .refine .inr ⟨t.size,h.Fe.N8,?_,?_⟩;simp only[Fam.act] at O;cases O;exact .new (by rw[h.Fe.deaf _ U,K];rfl) _ _
    .simp only [Fam.act] at O;cases O;rw[ag rfl];intro b hb x a bo cy hw;have c0:MemOp.ofEvents i g.frame.fn g.frame.place #[Fam.CR (.releaseMerge F.sA)]=#[{g:=i,fn:=g.frame.fn,pos:=g.frame.place,act:=.mark (.releaseMerge F.sA)}]:=by rw[ofEvents_eq];simp[Fam.CR,MemAct.ofEvent]
     rw[c0] at bo ⊢;let⟨op,av,bv⟩:=touch_of bo;rcases getElem?_append_cases av with⟨_,c1⟩ | ⟨_,bw⟩
     .have c2:=a9.kE i U b (by rw[upd_same,ag rfl];exact hb) x a (by rw[touchAt_of c1];exact bv) cy hw;have c3:(t++ #[({g:=i,fn:=g.frame.fn,pos:=g.frame.place,act:=.mark (.releaseMerge F.sA)}:MemOp)])[t.size]?=some {g:=i,fn:=g.frame.fn,pos:=g.frame.place,act:=.mark (.releaseMerge F.sA)}:=by simp
      exact .inr (c2.hb_new (no _) c3 V)
     .simp at bw;subst bw;cases bv
 have c4:∀k,k<j->stored (upd φ i Z (B.N0+k))->F.msg k (f k) (upd S i s' (B.N0+k)).E:=by
  intro k am bx;by_cases e:B.N0+k=i;rw[e,upd_same];have:=h.Jd k am (by rw[e,K];exact ca (a5 (by omega)));rw[e] at this;exact b0 _ _ _ _ hle this;rw[upd_ne _ _ e] at bx ⊢;exact h.Jd k am bx
 have c5:LI gs.size (upd φ i Z) m q:=h.lock.other U (λk l e=>b5 k l (by rw[K] at e;exact Nx.ph.inj e)) (λk l e=>by subst e;exact(n1 _ rfl).2.2.2 k l rfl);have c6:∀q,Z=.ph q->loc (.ph q) s'=Fam.Kw p s₀:=by
  intro q e;let⟨_,bz,c7,_⟩:=n1 q e;cases Y:Fam.CZ q with
  | true=>
   have:loc (.ph q) s'=.quiet:=by simp[loc,Ii,Y]
   rw[this];rcases bz Y with rfl | e;rfl;rw[ap.law.quiet e];cases p<;>rfl
  | false=>
   let⟨a1,c8⟩:=c7 Y;rw[dZ c8,ag a1];simp[loc,Ii,Y]
 have fin:∀(ρ:Rk),Hg P F (i==0) Z ρ true g' (loc Z s')->I0 P F B gs w sl t i (mu F gs.size φ m q r bt):=λρ c9=>
  h.go' (f₁:=f) hi co cp c5 ct c9 ci (en _ _ _ _ a4) (by show(F.put w v₁ wt₁ sm₁).heap[F.mu]?=_;rw[Sz _ _ _ _ h.Oa];exact h.Ks) (by show(F.put w v₁ wt₁ sm₁).heap[F.fd]?=_;rw[Sz _ _ _ _ h.K4];exact h.G1)
   (λa b=>⟨ap.law.JE (.inl (n2 a b)),b3⟩) (λa b=>absurd b a) c4 (λ_=>cc) (λe=>by subst e;exact hle) rfl (.refl _) rfl λed=>Wg U (by rw[K];exact gv O)
 cases Z with
 | ph q=>
  obtain⟨ρ,a2⟩:=a3;refine fin ρ ?_;let⟨dd,bz,_,_⟩:=n1 q V;refine .walk (by rw[ac,dd]) (λY=>by simp[loc,Ii,Y]) ?_;rw[c6 q rfl,ac];exact a2
 | gone d=>
  obtain⟨dj,Y⟩:=a3;exact fin (chain dj) (.gone (by rw[ac];exact(b4 d rfl).1) Y)
theorem fU{m m':M4}{q:Nat}{es:Array Event}{o:Option LP}(K:(m',sz,es,o)∈F.B9 l m q):sz<=q∨∃b,l=.FE b:=by
 cases l<;>simp only[Fam.B9,d7,f4,pn] at K
 case FE b=>exact .inr ⟨b,rfl⟩
 case HN=>split at K<;>simp only[d7,f4] at K<;>exact .inl (by omega)
 case Cw sv aw it old=>
  simp only[Fam.FX,pg] at K;left;rcases K with K | K;split at K;split at K;simp only[d7] at K;split at K<;>simp only[f4] at K<;>omega;simp only[d7,f4] at K;omega;simp at K;split at K;split at K;simp only[d7,f4] at K;omega;simp only[iO,pn,qu,f4] at K;rcases K with K | K<;>omega;simp only[d7,f4] at K;omega
 case Gs=>
  simp only[iO,pn,qu,f4] at K;left;rcases K with K | K<;>omega
 case EW sv=>split at K<;>simp only[d7,f4] at K<;>exact .inl (by omega)
 case Ff old=>split at K<;>simp only[d7,f4] at K<;>exact .inl (by omega)
 all_goals exact .inl (by omega)
theorem Z2{m m':M4}{q:Nat}{es:Array Event}{o:Option LP}(K:(m',sz,es,o)∈F.B9 l m q):(∀p,o=some p->Hd p->Hd l)/\(o=none->Hd l):=by
 cases l<;>simp only[Fam.B9,d7,f4,pn] at K
 case HN=>split at K<;>simp only[d7,f4] at K<;>obtain⟨-,-,-,rfl⟩:=K<;>simp[Hd]
 case Cw sv aw it old=>
  simp only[Fam.FX,pg] at K;rcases K with K | K;split at K;split at K;simp only[d7] at K;split at K<;>simp only[f4] at K<;>obtain⟨-,-,-,rfl⟩:=K<;>simp[Hd];simp only[d7,f4] at K;obtain⟨-,-,-,rfl⟩:=K;simp[Hd];simp at K;split at K;split at K;simp only[d7,f4] at K;obtain⟨-,-,-,rfl⟩:=K;simp[Hd];simp only[iO,pn,qu,f4] at K;rcases K with⟨-,-,-,rfl⟩ | ⟨-,-,-,rfl⟩<;>simp[Hd];simp only[d7,f4] at K;obtain⟨-,-,-,rfl⟩:=K;simp[Hd]
 case Gs=>
  simp only[iO,pn,qu,f4] at K;rcases K with⟨-,-,-,rfl⟩ | ⟨-,-,-,rfl⟩<;>simp[Hd]
 case CI sv=>obtain⟨-,-,-,rfl⟩:=K;cases sv<;>simp[Hd]
 case EW sv=>split at K<;>simp only[d7,f4] at K<;>obtain⟨-,-,-,rfl⟩:=K<;>simp[Hd]
 all_goals first
  | (obtain⟨-,-,-,rfl⟩:=K;simp[Hd];done)
  | (exact⟨λ_ _ _=>trivial,λ_=>trivial⟩)
theorem Inv.B9(h:Inv P F B gs w t φ r bt S Sh j c v wt' sm m q f)(bb:∀k v E E',Le E E'->F.msg k v E->F.msg k v E'){i:Nat}(hi:gs[i]?=some g){k:Nat}(K:φ i=.ph (.lk k l))(be:l≠ .F0)(ag:(i==0)=false)(a0:Cu (S i) s₀)(a1:Stop P F (.lk k l) g s₀)
  (bi:∀sv,l=.CI sv->q≠0):I0 P F B gs w sl t i (mu F gs.size φ m q r bt):=by
 have O:i<gs.size:=(f8.1 hi).1;have av:=h.lock.ok O K h.small bi;let⟨m',q',es,o,g',ai,U,bn,Y,bo,bv⟩:=a1.law.lk k l V be w m q h.Ks av;let⟨al,e2,bw⟩:=cX U;have a2:=h.Cm.GU F.mu h.Jf;have cy:=h.size;have c0:=h.CP.pos;have Z:i≠0:=by simpa using ag
 obtain⟨k',bx,a3,_,a4⟩:∃k',k'<j/\i=B.N0+k'/\i≠0/\Hr F k' (φ i):=by
  rcases h.Fa O with e | ⟨_,d,hd,_⟩ | e;exact absurd e Z;rw[K] at hd;cases hd;exact e
 rw[K] at a4;obtain rfl:k=k':=a4;have bz:B8 t w gs.size (upd S i s₀) Sh:=h.Cm.ghost O a0;have b0:B8 (t++MemOp.ofEvents i g.frame.fn g.frame.place es) ai gs.size (upd S i s₀) Sh:=by
  have:B8 (t++MemOp.ofEvents i g.frame.fn g.frame.place es) (F.Gc w m' q') gs.size (upd S i s₀) Sh:=by
   refine bz.ext (h.Fe.noRace h.Cm.clean O (.inr (by omega)) λe he=>(al e he).toS (λx=>x.elim)) (λop aw a ay b hb=>?_) (λop aw=>?_) (Zi ..) (λb hb=>RY _ _ _ λe=>hb (e▸h.Jf));obtain⟨e,he,rfl⟩:=mem_ofEvents aw;let⟨⟨b',ac,az⟩,_⟩:=(al e he).1 a ay;rw[hb] at ac;cases ac;rcases az with rfl | rfl;exact h.Is;exact h.Jf;obtain⟨e,he,rfl⟩:=mem_ofEvents aw;exact bw e he _ a2
  exact this.heap Y.1
 have b1:cU (.ph (Fam.Dm k o))=1/\cL (.ph (Fam.Dm k o))=0/\cS (.ph (Fam.Dm k o))=0/\Hr F k (.ph (Fam.Dm k o))/\(∀a,Nx.ph (Fam.Dm k o)≠ .ph (.HQ a))/\Fam.CN (Fam.Dm k o)=false/\Fam.CZ (Fam.Dm k o)=false/\¬late (.ph (Fam.Dm k o)):=by
  cases o with
  | none=>exact⟨rfl,rfl,rfl,trivial,by simp[Fam.Dm],rfl,rfl,λx=>x⟩
  | some p=>exact⟨rfl,rfl,rfl,rfl,by simp[Fam.Dm],rfl,rfl,λx=>x⟩
 obtain⟨x1,x2,b2,b3,b4,b5,a5,b6⟩:=b1;have ca:CQ F B.N0 (gs.size+c.toNat) j c (CK c gs.size (upd φ i (.ph (Fam.Dm k o)))) v wt' sm false:=by
  have am:CK c gs.size φ (B.N0+k)=.ph (.lk k l):=by rw[← a3,Ju Z (by omega)];exact K
  have:=h.CP.I6 (v':=v) (wt':=wt') (sm':=sm) (cl':=false) bx (x:=.ph (Fam.Dm k o)) b3 (λa=>by rw[am];simp) b4 (by rw[am,x1];rfl) λL S' a6 a7=>by
   rw[am,x2] at a6;rw[am,b2] at a7;have cc:L=_:=a6;have ce:S'=_:=a7;rw[cc,ce];exact h.CP.mode
  rwa[← a3,Px Z (by omega)] at this
 have ci:FB F B.N0 B.t0 gs.size j (upd φ i (.ph (Fam.Dm k o))) (upd S i s₀) (t++MemOp.ofEvents i g.frame.fn g.frame.place es):=by
  refine h.Fe.app O (by rw[K];rw[show Gd (.ph (.lk k l))=dl l from rfl,e2];cases o<;>rfl) (λe he=>(al e he).keep (λx=>x.elim) h.K4 h.K3) (.inl (.inr (by omega))) (λk' ap a8 e he a b ay hb hw=>?_) (λk' ap e a8=>absurd a8 b6);let⟨⟨b',ac,az⟩,_⟩:=(al e he).1 a ay;rw[hb] at ac;cases ac;have a9:B.N0+k'<gs.size:=by omega
  rcases az with rfl | rfl;exact(h.Cm.sh _ a9 _ h.Is).2;exact(h.Cm.sh _ a9 _ h.Jf).2
 obtain⟨ρ,co⟩:=bv;have cp:loc (.ph (Fam.Dm k o)) s₀=s₀:=by simp[loc,Ii,a5]
 refine h.go' (f₁:=f) hi (by rw[ag];exact bn) ca (h.lock.step O K h.small av U) ci (ρ:=ρ) (by rw[cp];exact .walk (by rw[ag,b5]) (λe=>by rw[a5] at e;cases e) (by rw[ag];exact co)) b0 ?_ ?_ ?_ (λa b=>absurd b a) (λa b=>?_) (λk' ap aq=>?_) (λe=>absurd e Z) (λe=>absurd e Z) (Y.2.1) Y.2.2.1 Y.2.2.2 λc1=>iT O K U av;show ai.heap[F.wg]?=_;rw[Y.1,RY _ _ _ (p6 h.Oa)];exact h.wg;show ai.heap[F.mu]?=_;rw[Y.1];exact cE _ _ _ a2;show ai.heap[F.fd]?=_;rw[Y.1,RY _ _ _ h.K3];exact h.G1;rcases fU U with e | ⟨ct,rfl⟩;omega;exact⟨a1.law.JE (.inr ⟨k,ct,V⟩),bo⟩
 .by_cases e:B.N0+k'=i
  .rw [e,upd_same] at aq ⊢;obtain rfl:k'=k:=by omega
   have cw:Hd l:=by
    let⟨a,b⟩:=Z2 U;cases o with
    | none=>exact b rfl
    | some p=>exact a p rfl aq
   have:=h.Jd k' ap (by rw[e,K];exact cw);rw[e] at this;exact bb _ _ _ _ (λb o U=>a0.ext b o U) this
  .rw [upd_ne _ _ e] at aq ⊢;exact h.Jd k' ap aq
end
section
variable {P:Program}{F:Fam}{B:Base}{gs gs':Array Goroutine}{w w':World}{sl:Option (Nat×Nat)}{t:Trace}{φ:Nat->Nx}{r:Nat->Rk}{bt:Nat->Bool}{S:Nat->St}{Sh:Nat->Prop}{j:Nat}{c:Bool}{v wt' sm v₁ wt₁ sm₁:Nat}{m m₁:M4}{q q₁:Nat}{f f₁:Nat->Value}
theorem Inv.store(h:Inv P F B gs w t φ r bt S Sh j c v wt' sm m q f){i:Nat}(hi:gs[i]?=some g){k:Nat}(O:φ i=.ph (.lk k .F0))(ag:(i==0)=false)(a3:Cu (S i) s₀)(a4:Stop P F (.lk k .F0) g s₀):
  I0 P F B gs w sl t i (mu F gs.size φ m q r bt):=by
 have U:i<gs.size:=(f8.1 hi).1;let⟨v0,a5,g',b0,a6,a7⟩:=a4.law.store k V;have av:=h.Cm.GU F.fd h.JI;have b1:=h.size;have b2:=h.CP.pos;have Y:i≠0:=by simpa using ag
 obtain⟨k',ai,Z,_,aw⟩:∃k',k'<j/\i=B.N0+k'/\i≠0/\Hr F k' (φ i):=by
  rcases h.Fa U with e | ⟨_,d,hd,_⟩ | e;exact absurd e Y;rw[O] at hd;cases hd;exact e
 rw[O] at aw;obtain rfl:k=k':=aw;have ac:∀e∈(#[⟨.cell ⟨F.fd,k,none⟩,true,false⟩]:Array Event),∀a,(MemAct.ofEvent e).touch?=some a->a=⟨.cell ⟨F.fd,k,none⟩,true,.plain⟩:=by
  intro e he a K;simp at he;subst he;simp[MemAct.ofEvent,MemAct.touch?] at K;exact K.symm
 have ay:∀e∈(#[⟨.cell ⟨F.fd,k,none⟩,true,false⟩]:Array Event),e.loc≠ .mark (.release F.sA):=by
  intro e he;simp at he;subst he;simp
 have a8:∀e∈(#[⟨.cell ⟨F.fd,k,none⟩,true,false⟩]:Array Event),EvS F B.N0 j i e:=λe he=>
  ⟨λa K=>by have:=ac e he a K;subst this;exact⟨F.fd,rfl,.inr ⟨rfl,k,ai,Z,rfl,rfl⟩⟩,ay e he⟩
 have a9:B8 t w gs.size (upd S i s₀) Sh:=h.Cm.ghost U a3;have bb:B8 (t++MemOp.ofEvents i g.frame.fn g.frame.place #[⟨.cell ⟨F.fd,k,none⟩,true,false⟩]) (F.HW w (upd f k v0)) gs.size (upd S i s₀) Sh:=by
  refine a9.ext (h.Fe.noRace h.Cm.clean U (.inr (by omega)) a8) (λop al a be b hb=>?_) (λop al=>?_) (Y4 ..) (λb hb=>RX _ _ λe=>hb (e▸h.JI))
  .obtain⟨e,he,rfl⟩:=mem_ofEvents al;have:=ac e he a be;subst this;have:b=F.fd:=by simpa [C4] using hb.symm
   subst this;exact h.JI
  .obtain⟨e,he,rfl⟩:=mem_ofEvents al;simp at he;subst he;simp[MemAct.ofEvent,MemAct.low,Loc.low,av]
 have bi:CQ F B.N0 (gs.size+c.toNat) j c (CK c gs.size (upd φ i (.ph (.lk k .Hf)))) v wt' sm false:=by
  have am:CK c gs.size φ (B.N0+k)=.ph (.lk k .F0):=by rw[← Z,Ju Y (by omega)];exact O
  have:=h.CP.I6 (v':=v) (wt':=wt') (sm':=sm) (cl':=false) ai (x:=.ph (.lk k .Hf)) rfl (λa=>by rw[am];simp) (by simp) (by rw[am];rfl) λL S' az a0=>by
   rw[am] at az a0;have bn:L=_:=az;have bo:S'=_:=a0;rw[bn,bo];exact h.CP.mode
  rwa[← Z,Px Y (by omega)] at this
 have bv:FB F B.N0 B.t0 gs.size j (upd φ i (.ph (.lk k .Hf))) (upd S i s₀) (t++MemOp.ofEvents i g.frame.fn g.frame.place #[⟨.cell ⟨F.fd,k,none⟩,true,false⟩]):=by
  refine h.Fe.app U (by rw[O];rfl) (λe he=>⟨λa b K hb bw=>?_,λa K hb=>?_,ay e he⟩) (.inl (.inr (by omega))) (λk' ap a1 e he a b K hb hw=>?_) (λk' ap e a1=>a1.elim)
  .have:=ac e he a K;subst this;have aq:b=F.fd:=by simpa [C4] using hb.symm
   subst aq;rcases bw with e | e;exact absurd e h.K4;exact absurd e h.K3
  .have:=ac e he a K;subst this;exact⟨k,ai,Z,V,V⟩
  .have:=ac e he a K;subst this;have aq:b=F.fd:=by simpa [C4] using hb.symm
   subst aq;exact(h.Cm.sh (B.N0+k') (by omega) _ h.JI).2
 obtain⟨ρ,bx⟩:=a7;have bz:LI gs.size (upd φ i (.ph (.lk k .Hf))) m q:=by
  refine h.lock.same U (λf=>?_) trivial;rw[O];by_cases e:f .F0=f .Hf;exact .inl e;right;refine⟨?_,?_,?_,?_,?_,?_,?_,?_⟩<;>rintro rfl<;>exact e rfl
 refine h.go' (f₁:=upd f k v0) hi (by rw[ag];exact a6 w f h.G1) bi bz bv (ρ:=ρ) (.walk (by rw[ag];rfl) (λe=>by cases e) (by rw[ag];exact bx)) bb ?_ ?_ (cK _ _ av) (λa b=>absurd b a) (λa b=>absurd b a) (λk' ap a2=>?_) (λe=>absurd e Y) (λe=>absurd e Y) V (.refl _) V λb3=>Wg U (by rw[O];simp[wt,HZ]);show(F.HW w (upd f k v0)).heap[F.wg]?=_;rw[RX _ _ (p6 h.K4)];exact h.wg;show(F.HW w (upd f k v0)).heap[F.mu]?=_;rw[RX _ _ (p6 h.K3)];exact h.Ks;by_cases e:k'=k;subst e;rw[← Z,upd_same,upd_same];exact a5;rw[upd_ne _ _ e];rw[upd_ne _ _ (by omega)] at a2 ⊢;exact h.Jd k' ap a2
theorem XW{o:Goroutine}(h:g'.status=.blocked):woken P g g' w o=o:=by
 unfold woken;rw[d9 (by simp[h])]
theorem FB.fR{N0 N:Nat}(h:FB F N0 sz N j φ S t){i:Nat}(U:∀k,k<j->late (φ (N0+k))->N0+k≠i):FB F N0 sz N j φ (upd S i s') t:=
 ⟨h.deaf,h.above,h.plain,h.said,h.G1,h.over,h.norel,h.N8,λk K O=>by rw[upd_ne _ _ (U k K O)];exact h.rel k K O⟩
theorem Inv.block(h:Inv P F B gs w t φ r bt S Sh j c v wt' sm m q f){i:Nat}(hi:gs[i]?=some g){p:Ph}(K:φ i=.ph p)(az:bt i=true)(ac:(i==0)=Fam.CN p)(am:Cu (S i) s₀)(ag:Stop P F p g s₀)
  (ai:(p=.FV/\sm=0)∨((∃k sv,p=.lk k (.CI sv))/\q=0)):I0 P F B gs w sl t i (mu F gs.size φ m q r bt):=by
 have Y:i<gs.size:=(f8.1 hi).1;have a4:=h.size;have a0:stepG P (i==0) g w=.go {g with status:=.blocked} w #[]:=by
  rw[ac];rcases ai with⟨rfl,rfl⟩ | ⟨⟨k,sv,rfl⟩,rfl⟩;exact ag.law.FF V w v wt' h.wg;exact ag.law.CI k sv V w m h.Ks
 have Z:Se p:=by
  rcases ai with⟨rfl,_⟩ | ⟨⟨k,sv,rfl⟩,_⟩;exact .inl V;exact .inr ⟨k,sv,V⟩
 have a1:=Tx Z;have ap:=runT_crowd_go (P:=P) (sl:=sl) (i:=i) hi a0;have a2:(gs.map (woken P g {g with status:=.blocked} w)).setIfInBounds i {g with status:=.blocked}=gs.setIfInBounds i {g with status:=.blocked}:=by
  have:(woken P g {g with status:=.blocked} w)=id:=by funext o;exact XW V
  rw[this,Array.map_id]
 rw[a2,OE] at ap;have O:(gs.setIfInBounds i {g with status:=.blocked}).size=gs.size:=by simp
 have aq:t++(#[]:Trace)=t:=by simp
 have a3:∀k,k<j->late (φ (B.N0+k))->B.N0+k≠i:=by
  intro k av aw e;rw[e,K] at aw;rcases Z with rfl | ⟨k',sv,rfl⟩;rcases h.Fa Y with aq | ⟨_,d,hd,_⟩ | ⟨k',_,_,_,hw⟩;have:=h.CP.pos;omega;rw[K] at hd;cases hd;rw[K] at hw;exact hw;exact aw
 refine⟨_,_,_,_,ap,.inl ⟨φ,r,upd bt i false,upd S i s₀,Sh,j,c,v,wt',sm,m,q,f,?_,?_⟩⟩
 .rw [aq];refine⟨by rw[O];exact h.CP,by rw[O];exact h.lock,by rw[O];exact h.Fe.fR a3,λa o U=>?_,by rw[O];exact h.Cm.ghost Y am,h.Is,h.Jf,h.JI,h.Oa,h.K4,h.K3,h.Iy,h.mn,h.wg,h.Ks,h.G1,λa ay hb=>?_,λk av al=>?_,?_,h.tape,h.os,h.output⟩
  .by_cases e:a=i
   .subst e;rw[pq Y] at U;obtain rfl:=f5 U;rw[upd_same,upd_same,K];have:loc (.ph p) s₀=s₀:=by simp[loc,Ii,a1]
    rw[this];exact .blk Z ac ag
   .rw [pe (p6 e)] at U;rw[upd_ne _ _ e,upd_ne _ _ e];exact h.L4 a o U
  .by_cases e:a=i
   .subst e;rcases ai with⟨rfl,rfl⟩ | ⟨⟨k,sv,rfl⟩,rfl⟩
    .have:a=0:=by simpa [Fam.CN] using ac
     subst this;exact .inl ⟨V,K,V⟩
    .exact .inr ⟨⟨k,sv,K⟩,V⟩
   .rw [upd_ne _ _ e] at hb;rw[O] at ay;exact h.blk a ay hb
  by_cases e:B.N0+k=i;rw[e,K] at al;rcases Z with rfl | ⟨k',sv,rfl⟩<;>exact al.elim;rw[upd_ne _ _ e];exact h.Jd k av al;by_cases e:0=i;subst e;rw[upd_same];exact λb o U=>am.ext b o (h.le b o U);rw[upd_ne _ _ e];exact h.le
 .rw [O];have:=sumTo_upd bt false bit Y;rw[az] at this;exact .inr ⟨V,.inr ⟨V,.inr ⟨V,V,.inr ⟨V,by show(sumTo gs.size λa=>bit (upd bt i false a))<sumTo gs.size λa=>bit (bt a);simp only[bit] at this ⊢;simp only[qs,px,qp] at this;omega⟩⟩⟩⟩
theorem LI.push{N:Nat}(h:LI N φ m q)(Z:0<N){p0:Ph}{j:Nat}(O:∀k p,φ 0≠ .ph (.lk k p))(U:∀k p,p0≠ .lk k p):LI (N+1) (upd (upd φ N (.ph (.lk j .Gv))) 0 (.ph p0)) m q:=by
 have Y:LI (N+1) (upd φ N (.ph (.lk j .Gv))) m q:=by
  have e:∀f,f LP.Gv=0->Sg f (N+1) (upd φ N (.ph (.lk j .Gv)))=Sg f N φ:=by
   intro f ac;unfold Sg;simp only[sumTo];have:=sumTo_upd_out φ (.ph (.lk j .Gv)) (Dr f) (i:=N) (j:=N) (no _);rw[upd_same];show _+f .Gv=_;omega
  refine⟨by rw[e pH rfl,e pN rfl,e pZ rfl,e pV rfl,e pT rfl,e pQ rfl,e pD rfl,e pX rfl];exact h.ln,λa ag=>?_⟩;by_cases K:a=N;subst K;rw[upd_same];trivial;rw[upd_ne _ _ K];exact h.loc a (by omega)
 exact Y.other (by omega) (by rw[upd_ne _ _ (by omega)];exact O) (λk p e=>U k p (Nx.ph.inj e))
theorem Inv.spawn(h:Inv P F B gs w t φ r bt S Sh j c v wt' sm m q f)(hi:gs[0]?=some g)(ac:φ 0=.ph (.Ge sz))(bb:Cu (S 0) s₀)(bv:Stop P F (.Ge sz) g s₀):
  I0 P F B gs w sl t 0 (mu F gs.size φ m q r bt):=by
 have Y:0<gs.size:=(f8.1 hi).1;obtain⟨rfl,c9,rfl⟩:sz=j/\j<F.n/\c=false:=by
  obtain⟨p,be,_,hh⟩:=h.main;rw[ac] at be;cases be;rcases hh with⟨e,hm⟩ | ⟨_,hm⟩;exact⟨hm.1,hm.2.1,e⟩;exact hm.elim
 let⟨g',child,dd,dj,bw,bx,bz⟩:=bv.law.go _ V;have b0:=h.size;have ea:=h.CP.pos;have a2:=runT_crowd_spawn (P:=P) (sl:=sl) (i:=0) hi (show stepG P (0==0) g w=_ from bw w);rw[OE] at a2;generalize b1:({g:=0,fn:=g.frame.fn,pos:=g.frame.place,act:=.go gs.size}:MemOp)=x at a2;generalize b2:({g:=gs.size,fn:=child.frame.fn,pos:=g.frame.place,act:=.start}:MemOp)=y at a2;have al:x.g=0/\x.act=.go gs.size:=by subst b1;exact⟨V,V⟩
 have am:y.g=gs.size/\y.act=.start:=by subst b2;exact⟨V,V⟩
 have b3:((#[]:Trace).push x).push y=#[x,y]:=V;have ai:((gs.setIfInBounds 0 g').push child).size=gs.size+1:=by simp
 have b4:Fam.CN (F.EZ sz)=true/\Fam.CZ (F.EZ sz)=false/\Gd (.ph (F.EZ sz))=0/\(∀k p,F.EZ sz≠ .lk k p):=by
  unfold Fam.EZ;split<;>exact⟨rfl,rfl,rfl,by simp⟩
 obtain⟨x1,x2,b5,b6⟩:=b4;let φ':Nat->Nx:=upd (upd φ gs.size (.ph (F.start sz))) 0 (.ph (F.EZ sz));have f0:φ' 0=.ph (F.EZ sz):=upd_same _ _ _;have ap:φ' gs.size=.ph (F.start sz):=by show upd _ _ _ _=_;rw[upd_ne _ _ (by omega),upd_same]
 have aq:∀a,a≠0->a≠gs.size->φ' a=φ a:=λa ca a5=>by show upd _ _ _ _=_;rw[upd_ne _ _ ca,upd_ne _ _ a5]
 have hu:∀op∈(#[x,y]:Array MemOp),op.act.touch?=none/\∀m,op.act≠ .mark m:=by
  intro op O;simp only[qK,iO,pn,qu] at O;rcases O with rfl | rfl;rw[al.2];exact⟨V,by simp⟩;rw[am.2];exact⟨V,by simp⟩
 have av:=h.CP.spawn (by rw[Kj];exact ac);rw[Kj] at av;simp only[pu,qq] at av;have a6:∃aw,CQ F B.N0 (gs.size+1+aw.toNat) (sz+1) aw (CK aw (gs.size+1) φ') v wt' sm false:=by
  by_cases e:sz+1=F.n
  .refine⟨true,?_⟩;have a7:F.FQ sz=.Hv:=by unfold Fam.FQ;rw[eS e]
   have e2:F.EZ sz=.DF:=by unfold Fam.EZ;rw[eS e]
   have:=av.fH (by rw[upd_same,a7]);have cc:CK true (gs.size+1) φ'=upd (upd (upd (upd φ gs.size (.ph (F.start sz))) 0 (.ph (F.FQ sz))) (gs.size+1) (.ph .DF)) 0 (.ph (.Gb [] [])):=by
    funext a;unfold CK;by_cases a8:a=gs.size+1;subst a8;rw[eS ⟨rfl,rfl⟩,upd_ne _ _ (by omega),upd_same,f0,e2];rw[d9 (by simp[a8])];by_cases ag:a=0;subst ag;rw[eS ⟨rfl,rfl⟩,upd_same];rw[d9 (by simp[ag]),upd_ne _ _ ag,upd_ne _ _ a8];show upd _ _ _ _=_;rw[upd_ne _ _ ag,upd_ne _ _ ag]
   rw[cc];exact this
  .refine⟨false,?_⟩;have a7:F.FQ sz=F.EZ sz:=by unfold Fam.FQ Fam.EZ;rw[d9 e,d9 e]
   rw[a7] at av;rw[Kj];exact av
 obtain⟨aw,a6⟩:=a6;have bi:B8 t w gs.size (upd S 0 s₀) Sh:=h.Cm.ghost Y bb;have ce:B8 (t++ #[x,y]) w gs.size (upd S 0 s₀) Sh:=by
  refine bi.ext (λsaid=>?_) (λop O a ay=>by rw[(hu op O).1] at ay;cases ay) (λop O=>?_) V λ_ _=>V
  .have e:t++ #[x,y]=(t++ #[x])++ #[y]:=by apply qS;simp
   rw[e];exact noRace_append (g:=gs.size) (noRace_append (g:=0) (h.Cm.clean said) (λop O=>by simp at O;subst O;exact al.1) λz a _ op O b hb _=>by rw[(hu op (by simp at O ⊢;exact .inl O)).1] at hb;cases hb)
    (λop O=>by simp at O;subst O;exact am.1) λz a _ op O b hb _=>by rw[(hu op (by simp at O ⊢;exact .inr O)).1] at hb;cases hb
  .simp only [qK,iO,pn,qu] at O;rcases O with rfl | rfl;rw[al.2];trivial;rw[am.2];trivial
 have ci:Deaf t 0=0:=by rw[h.Fe.deaf 0 Y,ac];rfl
 have co:B8 (t++ #[x,y]) w (gs.size+1) (upd (upd S 0 s₀) gs.size ⟨s₀.E,λ_=>none,false⟩) Sh:=by
  refine ce.push (i:=0) Y (E:=s₀.E) (λb o az=>by rw[upd_same];exact az) λb hb z a cp ct cw=>?_;have hold:touchAt t z=some a:=by
   let⟨op,az,a9⟩:=touch_of cp;rcases getElem?_append_cases az with⟨_,cy⟩ | ⟨_,c0⟩;rw[touchAt_of cy];exact a9;rw[(hu op c0).1] at a9;cases a9
  exact fork_knows al am ci (h.Fe.above _ (no _)) (bi.kE 0 Y b (by rw[upd_same];exact hb) z a hold ct cw)
 have bn:∀k,k<sz->upd (upd S 0 s₀) gs.size ⟨s₀.E,λ_=>none,false⟩ (B.N0+k)=S (B.N0+k):=λk bo=>by rw[upd_ne _ _ (by omega),upd_ne _ _ (by omega)]
 have c1:FB F B.N0 B.t0 (gs.size+1) (sz+1) φ' (upd (upd S 0 s₀) gs.size ⟨s₀.E,λ_=>none,false⟩) (t++ #[x,y]):=by
  refine h.Fe.spawn Y b0 (λa ay=>?_) (by rw[ap];rfl) (by rw[ac];rfl) (λk bo a3=>?_) al am;by_cases e:a=0;subst e;rw[f0,ac,b5];rfl;rw[aq a e (by omega)];by_cases e:k=sz;subst e;rw[show B.N0+k=gs.size by omega,ap] at a3;exact a3.elim;rw[aq _ (by omega) (by omega)] at a3;exact⟨by omega,a3,by rw[bn k (by omega)]⟩
 obtain⟨c2,c3⟩:=bz;obtain⟨c4,c5⟩:=bx;have a0:∀{α:Type}(f:Nat->α) (a b:α),upd (upd f 0 a) gs.size b 0=a:=λf a b=>by rw[upd_ne _ _ (by omega),upd_same]
 have c6:∀s:St,loc (.ph (F.EZ sz)) s=s:=λs=>by simp[loc,Ii,x2]
 refine⟨_,_,_,_,a2,.inl ⟨φ',upd (upd r 0 c2) gs.size c4,upd (upd bt 0 true) gs.size true,upd (upd S 0 s₀) gs.size ⟨s₀.E,λ_=>none,false⟩,Sh,sz+1,aw,v,wt',sm,m,q,f,?_,?_⟩⟩
 .rw [b3];refine⟨by rw[ai];exact a6,by rw[ai];exact h.lock.push Y (λk p e=>by rw[ac] at e;cases e) b6,by rw[ai];exact c1,λa o Z=>?_,by rw[ai];exact co,h.Is,h.Jf,h.JI,h.Oa,h.K4,h.K3,h.Iy,(by rw[f0];unfold Fam.EZ;split<;>simp),h.wg,h.Ks,h.G1,λa ay hb=>?_,λk bo a4=>?_,?_,h.tape,h.os,h.output⟩
  .by_cases e:a=0;subst e;rw[Array.getElem?_push_lt (by simpa using Y)] at Z;simp at Z;subst Z;rw[f0,a0,a0,a0,c6];exact .walk x1.symm (λq=>by rw[x2] at q;cases q) c3
   .by_cases U:a=gs.size
    .subst U;have:child=o:=by
      rw[show gs.size=(gs.setIfInBounds 0 g').size by simp,Array.getElem?_push_size] at Z;exact f5 Z
     subst this;rw[ap,upd_same,upd_same,upd_same];have c7:(gs.size==0)=false:=by rw[beq_eq_false_iff_ne];omega
     rw[c7];exact .walk V (λq=>by cases q) c5
    .rw [aq a e U,upd_ne _ _ U,upd_ne _ _ e,upd_ne _ _ U,upd_ne _ _ e,upd_ne _ _ U,upd_ne _ _ e];have:gs[a]?=some o:=by
      rw[sX] at Z;simp[U] at Z;simpa [pe (p6 e)] using Z
     exact h.L4 a o this
  rw[ai] at ay;by_cases e:a=0;subst e;rw[a0] at hb;cases hb;by_cases U:a=gs.size;subst U;rw[upd_same] at hb;cases hb;rw[upd_ne _ _ U,upd_ne _ _ e] at hb;rcases h.blk a (by omega) hb with⟨ag,_⟩ | ⟨⟨k,sv,a5⟩,c8⟩;exact absurd ag e;exact .inr ⟨⟨k,sv,by rw[aq a e U];exact a5⟩,c8⟩;by_cases e:k=sz;subst e;rw[show B.N0+k=gs.size by omega,ap] at a4;exact a4.elim;rw[aq _ (by omega) (by omega)] at a4;rw[bn k (by omega)];exact h.Jd k (by omega) a4;rw[a0];exact h.le.trans λb o az=>bb.ext b o az
 .rw [ai];refine ic ?_;simp only[sumTo];rw[ap];have a1:=sumTo_upd (upd φ gs.size (.ph (F.start sz))) (.ph (F.EZ sz)) (wt F.n) Y;rw[upd_ne _ _ (by omega),ac] at a1;have eb:=sumTo_upd_out φ (.ph (F.start sz)) (wt F.n) (i:=gs.size) (j:=gs.size) (no _);have ec:wt F.n (.ph (F.start sz))=23:=V;have ed:wt F.n (.ph (.Ge sz))=5*F.n+85+50*(F.n - sz):=V;have ee:wt F.n (.ph (F.EZ sz))+30<=5*F.n+85+50*(F.n - sz):=by
   unfold Fam.EZ;split<;>simp only[wt]<;>omega
  show(sumTo gs.size λi=>wt F.n (upd (upd φ gs.size (.ph (F.start sz))) 0 (.ph (F.EZ sz)) i))+_<_;omega
end
theorem B8.final{t:Trace}{w:World}{N:Nat}{S:Nat->St}{Sh:Nat->Prop}(h:B8 t w N S Sh)(al:0<N){fd:Nat}
  (Z:∀b o,s'.E b=some o->w.heap[b]?=some o/\¬Sh b/\∀x a,touchAt t x=some a->C4 a.loc=some b->a.write=true->Knows t 0 x)
  (ac:∀b o,s'.H b=some o->w.heap[b]?=some o/\(¬Sh b∨b=fd)/\∀x a,touchAt t x=some a->C4 a.loc=some b->Knows t 0 x)
  (hd:∀b,s'.E b≠none->s'.H b=none) (am:s'.E fd=none):B8 t w N (lone s') (λb=>Sh b/\b≠fd):=by
 have l0:lone s' 0=s':=V;have ln:∀i,i≠0->lone s' i=.quiet:=λi hi=>by simp[lone,hi]
 have Y:∀i b,i≠0->(lone s' i).E b=none:=λi b hi=>by rw[ln i hi];rfl
 have U:∀i b,i≠0->(lone s' i).H b=none:=λi b hi=>by rw[ln i hi];rfl
 refine⟨λi hi=>?_,λa b ap hb ai x O=>?_,λi hi b hb=>?_,λb hb=>h.GU b hb.1,h.clean,h.low,λi hi b hb x a O ag=>?_,λi hi b hb x a O ag hw=>?_⟩;by_cases e:i=0;subst e;rw[l0];exact⟨λb o K=>(Z b o K).1,λb o K=>(ac b o K).1,hd⟩;exact⟨λb o K=>(by rw[Y i b e] at K;cases K),λb o K=>(by rw[U i b e] at K;cases K),λb hb=>U i b e⟩;by_cases e:b=0;subst e;rw[U a x ai] at O;exact absurd V O;exact⟨U b x e,Y b x e⟩
 .by_cases e:i=0
  .subst e;rw[l0];constructor
   .cases O:s'.H b with
    | none=>rfl
    | some o=>rcases(ac b o O).2.1 with q | q;exact absurd hb.1 q;exact absurd q hb.2
   .cases O:s'.E b with
    | none=>rfl
    | some o=>exact absurd hb.1 (Z b o O).2.1
  .exact⟨U i b e,Y i b e⟩
 by_cases e:i=0;subst e;let⟨o,K⟩:=IG (x:=s'.H b) hb;exact(ac b o K).2.2 x a O ag;rw[U i b e] at hb;exact absurd V hb;by_cases e:i=0;subst e;let⟨o,K⟩:=IG (x:=s'.E b) hb;exact(Z b o K).2.2 x a O ag hw;rw[Y i b e] at hb;exact absurd V hb
section
variable {P:Program}{F:Fam}{B:Base}{gs gs':Array Goroutine}{w w':World}{sl:Option (Nat×Nat)}{t:Trace}{φ:Nat->Nx}{r:Nat->Rk}{bt:Nat->Bool}{S:Nat->St}{Sh:Nat->Prop}{j:Nat}{c:Bool}{v wt' sm v₁ wt₁ sm₁:Nat}{m m₁:M4}{q q₁:Nat}{f f₁:Nat->Value}
theorem Inv.over(h:Inv P F B gs w t φ r bt S Sh j c v wt' sm m q f)(cy:∀k v E E',Le E E'->F.msg k v E->F.msg k v E')(hi:gs[0]?=some g)(a7:φ 0=.ph .GV)(b0:Cu (S 0) s₀)(al:Stop P F .GV g s₀)(c0:Mu):
  I0 P F B gs w sl t 0 c0:=by
 classical
 have ag:0<gs.size:=(f8.1 hi).1;have ec:=h.size;have ed:=h.CP.pos;obtain rfl:c=true:=by
  obtain⟨p,b1,_,hh⟩:=h.main;rw[a7] at b1;cases b1;rcases hh with⟨_,hm⟩ | ⟨e,_⟩;exact hm.elim;exact e
 have ee:j=F.n:=h.CP.cj V;have a8:∀i,i≠0->i<gs.size->∃d,φ i=.gone d:=by
  intro i a9 a1;rcases h.Fa a1 with e | ⟨_,d,hd,_⟩ | ⟨k,Z,c1,_,_⟩;exact absurd e a9;exact⟨d,hd⟩
  .have:=h.CP.cb rfl (.inr (.inr (.inl (by rw[show B.N0+F.n=gs.size by omega,KU];exact a7)))) k Z;rw[← c1,Ju a9 (by omega)] at this;cases U:φ i with
   | gone d=>exact⟨d,rfl⟩
   | ph p=>rw[U] at this;exact this.elim
 let⟨g',c2,c3⟩:=al.law.fin V;have b2:=runT_crowd_go (P:=P) (sl:=sl) (i:=0) hi (show stepG P (0==0) g w=_ from c2 w);have b3:Deaf t 0=0:=by rw[h.Fe.deaf 0 ag,a7];rfl
 have bb:MemOp.ofEvents 0 g.frame.fn g.frame.place #[Fam.CR (.acquire F.sA)]=#[{g:=0,fn:=g.frame.fn,pos:=g.frame.place,act:=.mark (.acquire F.sA)}]:=by rw[ofEvents_eq];simp[Fam.CR,MemAct.ofEvent]
 generalize hu:MemOp.ofEvents 0 g.frame.fn g.frame.place #[Fam.CR (.acquire F.sA)]=u at b2;have am:∀op∈u,op.act.touch?=none/\op.g=0/\op.act.low w.heap.size:=by
  intro op ap;rw[← hu,bb] at ap;simp at ap;subst ap;exact⟨V,V,h.Cm.GU F.wg h.Is⟩
 have a2:(t++u)[t.size]?=some {g:=0,fn:=g.frame.fn,pos:=g.frame.place,act:=.mark (.acquire F.sA)}:=by rw[← hu,bb];simp
 have c4:(t++u).heard t.size:=⟨0,by simp[Trace.g?,a2],by rw[deaf_old (no _)];exact b3⟩;have c5:(t++u).g? t.size=some 0:=by simp[Trace.g?,a2]
 have c6:∀x,B.t0<=x->(t++u).act? x≠some (.mark (.release F.sA)):=Rf h.Fe.norel λop ap e=>by rw[← hu,bb] at ap;simp at ap;subst ap;cases e
 have be:∀k,k<F.n->∃ρ,ρ<t.size/\RelBy F.sA t (B.N0+k) ρ/\KE t (S (B.N0+k)).E ρ/\HappensBefore (t++u) ρ t.size:=by
  intro k Z;obtain⟨d,hd⟩:=a8 (B.N0+k) (by omega) (by omega);obtain⟨ρ,a,b,e⟩:=h.Fe.rel k (by omega) (by rw[hd];trivial);have a3:ρ<t.size:=lt_of_act? b.act;refine⟨ρ,a3,b,e,.single (.inr ⟨.marked a3 (.inr (by rw[act?_old a3];exact b.act)) (by rw[act?_of a2]) λz Y ai=>c6 z (by omega),(heard_old a3).2 b.heard,c4⟩)⟩
 have b4:∀{x ρ},Before t x ρ->HappensBefore (t++u) ρ t.size->Knows (t++u) 0 x:=λY ai=>⟨t.size,_,a2,rfl,.inr ((Y.app u).hb ai)⟩;have b5:∀{x k},k<F.n->t.g? x=some (B.N0+k)->t.counts x->Knows (t++u) 0 x:=by
  intro x k Z ac aq;let⟨ρ,Y,ai,_,a0⟩:=be k Z;have hle:x<=ρ:=Nat.le_of_not_lt λaw=>ai.after x aw ac aq;refine b4 (ρ:=ρ) ?_ a0;rcases mt x ρ with U | U;exact .inr (.single (.inl ⟨U,_,ac,ai.g⟩));exact .inl (by omega)
 have hold:∀{y a},touchAt (t++u) y=some a->touchAt t y=some a:=by
  intro y a U;let⟨op,O,bi⟩:=touch_of U;rcases getElem?_append_cases O with⟨aw,bn⟩ | ⟨_,bo⟩;rw[touchAt_of bn];exact bi;rw[(am op bo).1] at bi;cases bi
 have av:B8 t w gs.size (upd S 0 s₀) Sh:=h.Cm.ghost ag b0;have bv:B8 (t++u) w gs.size (upd S 0 s₀) Sh:=av.mute (g:=0) (λop O=>(am op O).2.1) (λop O=>(am op O).1) (λop O=>(am op O).2.2) rfl;let K:Nat->Obj->Prop:=λb o=>s₀.E b=some o∨∃k,k<F.n/\(S (B.N0+k)).E b=some o;have bw:∀b o,K b o->w.heap[b]?=some o:=by
  rintro b o (Y | ⟨k,Z,Y⟩);exact(av.fits 0 ag).e b o (by rw[upd_same];exact Y);exact(h.Cm.fits (B.N0+k) (by omega)).e b o Y
 let E':LH:=λb=>if hb:∃o,K b o then some (Classical.choose hb) else none
 have bx:∀b o,E' b=some o->K b o:=by
  intro b o O;simp only[E'] at O;split at O;rename_i hb;have:=qG hb;rw[f5 O] at this;exact this;cases O
 have b6:∀b o,K b o->E' b=some o:=by
  intro b o O;have hb:∃o,K b o:=⟨o,O⟩;have c7:E' b=some (Classical.choose hb):=by simp only[E'];rw[dif_pos hb]
  have e2:=bw b _ (qG hb);rw[bw b o O] at e2;rw[c7,← f5 e2]
 have ca:Le s₀.E E':=λb o O=>b6 b o (.inl O);have c8:∀k,k<F.n->Le (S (B.N0+k)).E E':=λk Z b o O=>b6 b o (.inr ⟨k,Z,O⟩);have cc:∀b o,K b o->¬Sh b:=by
  rintro b o (Y | ⟨k,Z,Y⟩) hb;have:=(av.sh 0 ag b hb).2;rw[upd_same,Y] at this;cases this;have:=(h.Cm.sh (B.N0+k) (by omega) b hb).2;rw[Y] at this;cases this
 have bz:E' F.fd=none:=by
  cases U:E' F.fd with
  | none=>rfl
  | some o=>exact absurd h.JI (cc _ _ (bx _ _ U))
 have ce:∀b,E' b≠none->s₀.H b=none:=by
  intro b hb;let⟨o,O⟩:=IG hb;rcases bx b o O with Y | ⟨k,Z,Y⟩
  .have:=(av.fits 0 ag).d b (by rw[upd_same,Y];simp)
   rwa[upd_same] at this
  .cases U:s₀.H b with
   | none=>rfl
   | some o'=>
    have:=(av.hh 0 (B.N0+k) ag (by omega) (by omega) b (by rw[upd_same,U];simp)).2;rw[upd_ne _ _ (by omega),Y] at this;cases this
 have c9:∀k,k<F.n->F.msg k (f k) E':=λk Z=>by
  obtain⟨d,hd⟩:=a8 (B.N0+k) (by omega) (by omega);exact cy _ _ _ _ (c8 k Z) (h.Jd k (by omega) (by rw[hd];trivial))
 have dd:=c3 E' f ca bz ce c9;have ci:((gs.map (woken P g g' w)).setIfInBounds 0 g').size=gs.size:=by simp
 have dj:B8 (t++u) w gs.size (lone ⟨E',F.KR s₀.H f,false⟩) (λb=>Sh b/\b≠F.fd):=by
  refine bv.final ag (λb o O=>?_) (λb o O=>?_) (λb hb=>?_) bz;have Z:=bx b o O;refine⟨bw b o Z,cc b o Z,λx a U ay hw=>?_⟩;rcases Z with Y | ⟨k,Z,Y⟩;exact bv.kE 0 ag b (by rw[upd_same,Y];simp) x a U ay hw;let⟨ρ,_,_,ea,a0⟩:=be k Z;exact b4 (ea b (by rw[Y];simp) x a (hold U) ay hw) a0;simp only[Fam.KR] at O;split at O;rename_i e;subst e;cases O;refine⟨h.G1,.inr V,λx a U ay=>?_⟩;rcases h.Fe.G1 x a (hold U) ay with z | ⟨k,Z,ac,aq,_⟩;exact(z 0 ag (.inl V)).app u;exact b5 (by omega) ac aq;refine⟨(av.fits 0 ag).h b o (by rw[upd_same];exact O),.inl λhb=>?_,λx a U ay=>bv.kH 0 ag b (by rw[upd_same,O];simp) x a U ay⟩;have:=(av.sh 0 ag b hb).1;rw[upd_same,O] at this;cases this;simp only[Fam.KR];rw[d9 (λe=>by subst e;exact hb bz)];exact ce b hb
 have eb:∀i g,i≠0->gs[i]?=some g->∃q d,φ i=.gone d/\QuitsD P q d g:=by
  intro i g hi ac;let⟨d,hd⟩:=a8 i hi (f8.1 ac).1;have al:=h.L4 i g ac;rw[hd] at al;generalize U:Nx.gone d=x at al;generalize loc x (S i)=s at al;generalize r i=ρ at al;generalize bt i=ef at al;cases al with
  | gone _ a4=>cases U;exact⟨_,_,hd,a4⟩
  | _=>cases U
 have a4:∀i,∃q,∀g,i≠0->gs[i]?=some g->QuitsD P q (Deaf t i) g:=by
  intro i;by_cases hi:i≠0/\i<gs.size;let⟨q,d,Y,ai⟩:=eb i _ hi.1 (pP hi.2);refine⟨q,λg _ ac=>?_⟩;rw[pP hi.2] at ac;obtain rfl:=f5 ac;rw[h.Fe.deaf i hi.2,Y];exact ai;exact⟨0,λg Y ai=>absurd ⟨Y,(f8.1 ai).1⟩ hi⟩
 have co:∀i,i≠0->Deaf (t++u) i=Deaf t i:=λi hi=>Deaf_other t (p6 hi) u λop O=>(am op O).2.1;refine⟨_,_,_,_,b2,.inr ⟨λi=>Classical.choose (a4 i),λb=>Sh b/\b≠F.fd,g',⟨E',F.KR s₀.H f,false⟩,⟨by simp[ag],⟨λi x a9 U=>?_,λi a1=>?_⟩,by rw[ci];exact dj,λx a5 ac az aq=>?_,?_⟩,dd,?_,h.tape,h.os,h.output⟩⟩
 .have az:i≠0:=by omega
  rw[pe (p6 az),q1] at U;obtain⟨o',bn,rfl⟩:=p7.1 U;have cp:=qG (a4 i) o' az bn;rw[woken_quitsD cp,co i az];exact cp
 .rw [ci] at a1;rw[co i (by omega)];exact h.Fe.above i a1
 .have:=Ru h.Fe.over (u:=u) (N0:=B.N0) (N:=gs.size) (λop O=>.inl (am op O).2.1) x a5 ac az aq;rcases this with z | ⟨z1,eg⟩;exact z
  .have a6:x<t.size:=by
    rcases mt x t.size with z | z;exact z;let⟨op,O,ct⟩:=p7.1 ac;rcases getElem?_append_cases O with⟨aw,_⟩ | ⟨_,bo⟩;exact aw;rw[(am op bo).2.1] at ct;exact absurd ct.symm az
   obtain⟨ej,z,ek,el,em⟩:=b5 (k:=a5 - B.N0) (by omega) (by rw[← g?_old (u:=u) a6,ac];congr 1;omega) ((counts_old a6).1 aq);refine⟨t.size,c5,?_⟩;obtain⟨ρ,Y,ai,_,a0⟩:=be (a5 - B.N0) (by omega);have cw:t.g? x=some (B.N0+(a5 - B.N0)):=by rw[← g?_old (u:=u) a6,ac];congr 1;omega
   have hle:x<=ρ:=Nat.le_of_not_lt λaw=>ai.after x aw cw ((counts_old a6).1 aq);have hb:Before t x ρ:=by
    rcases mt x ρ with U | U;exact .inr (.single (.inl ⟨U,_,cw,ai.g⟩));exact .inl (by omega)
   exact(hb.app u).hb a0
 have:=Deaf_own t 0 g.frame.fn g.frame.place #[Fam.CR (.acquire F.sA)];rw[hu] at this;rw[this,b3];rfl;exact(h.le.trans λb o O=>b0.ext b o O).trans ca
end
theorem LN.busy{m:M4}{rn rs v t s d x:Nat}(Z:LN m 0 sz rn rs v t s d x)(al:1<=s):1<=sz+rn+rs+v+t+d+x:=by
 obtain⟨O,ac,ag⟩:=Z;cases hm:m.s with
 | true=>have:=(ag hm).2.2.2.1;rw[← O] at this;omega
 | false=>
  let⟨a1,am,K,ap,ai⟩:=ac hm;cases Y:m.l with
  | true=>rw[Y] at O;simp at O;omega
  | false=>
   cases U:m.k with
   | true=>rw[U] at K;simp at K;omega
   | false=>
    rw[U] at K;simp at K;have:=ai Y U (by omega);omega
section
variable {P:Program}{F:Fam}{B:Base}{gs gs':Array Goroutine}{w w':World}{sl:Option (Nat×Nat)}{t:Trace}{φ:Nat->Nx}{r:Nat->Rk}{bt:Nat->Bool}{S:Nat->St}{Sh:Nat->Prop}{j:Nat}{c:Bool}{v wt' sm v₁ wt₁ sm₁:Nat}{m m₁:M4}{q q₁:Nat}{f f₁:Nat->Value}
theorem Zk{N:Nat}{f:Nat->Nat}(h:1<=sumTo N f):∃i,i<N/\1<=f i:=by
 induction N with
 | zero=>simp[sumTo] at h
 | succ N K=>
  simp only[sumTo] at h;by_cases e:1<=f N;exact⟨N,by omega,e⟩;obtain⟨i,hi,O⟩:=K (by omega);exact⟨i,by omega,O⟩
theorem Inv.runs(h:Inv P F B gs w t φ r bt S Sh j c v wt' sm m q f):∃(i:Nat) (g:Goroutine),gs[i]?=some g/\g.status=.running:=by
 have bx:=h.CP.pos;have bz:=h.size;have ap:0<gs.size:=by omega
 have ag:∀i (hi:i<gs.size) p,φ i=.ph p->bt i=true->∃(i:Nat) (g:Goroutine),gs[i]?=some g/\g.status=.running:=by
  intro i hi p U hb;refine⟨i,_,pP hi,?_⟩;have K:=h.L4 i _ (pP hi);rw[U,hb] at K;generalize loc (Nx.ph p) (S i)=s at K;generalize a5:Nx.ph p=x at K;generalize a6:true=b at K;generalize gs[i]=o at K ⊢;generalize r i=ρ at K;cases K with
  | walk _ _ aq=>exact aq.running
  | blk _ _ _=>cases a6
  | gone _ _=>cases a5
 obtain⟨p0,ac,a7,hh⟩:=h.main;cases av:bt 0 with
 | true=>exact ag 0 ap p0 ac av
 | false=>
  obtain⟨U,b0⟩:φ 0=.ph .FV/\sm=0:=by
   rcases h.blk 0 ap av with⟨_,a,b⟩ | ⟨⟨k,sv,a⟩,_⟩;exact⟨a,b⟩;rw[ac] at a;cases a;cases a7
  rw[U] at ac;cases ac;obtain⟨rfl⟩:c=true:=by
   rcases hh with⟨_,hm⟩ | ⟨e,_⟩;exact hm.elim;exact e
  have aq:j=F.n:=h.CP.cj V;have aw:=h.CP.mode;rw[eS rfl,show B.N0+F.n=gs.size by omega,KU,U] at aw;obtain⟨a8,_,_⟩:=aw;have ai:=h.CP.cnt;have ay:CK true gs.size φ 0=.ph (.Gb [] []):=by simp[CK];omega
  rw[ay] at ai;simp only[pend,qq] at ai;have hex:∃i,i<gs.size+1/\1<=cU (CK true gs.size φ i)+cL (CK true gs.size φ i)+cS (CK true gs.size φ i):=by
   apply sg;intro a9;have al:∀i,i<gs.size+1->cU (CK true gs.size φ i)=0/\cL (CK true gs.size φ i)=0/\cS (CK true gs.size φ i)=0:=λi hi=>by
    have:¬1<=cU (CK true gs.size φ i)+cL (CK true gs.size φ i)+cS (CK true gs.size φ i):=λq=>a9 ⟨i,hi,q⟩;omega
   have zero:∀f:Nat->Nat,(∀i,i<gs.size+1->f i=0)->sumTo (gs.size+1) f=0:=λf bb=>by
    have:=sumTo_le (f:=f) (c:=0) (j:=gs.size+1) (λi hi=>by rw[bb i hi];exact no _);omega
   have z1:=zero (λi=>cU (CK true gs.size φ i)) λi hi=>(al i hi).1;have b1:=zero (λi=>cL (CK true gs.size φ i)) λi hi=>(al i hi).2.1;have b2:=zero (λi=>cS (CK true gs.size φ i)) λi hi=>(al i hi).2.2;simp only[pI] at a8 ai;omega
  obtain⟨i,hi,O⟩:=hex;have az:i≠0:=by rintro rfl;rw[ay] at O;simp[cU,cL,cS] at O
  have be:i≠gs.size:=by rintro rfl;rw[KU,U] at O;simp[cU,cL,cS] at O
  rw[Ju az be] at O;have am:i<gs.size:=by omega
  cases a0:φ i with
  | gone d=>rw[a0] at O;simp[cU,cL,cS] at O
  | ph pi=>
   cases a1:bt i with
   | true=>exact ag i am pi a0 a1
   | false=>
    obtain⟨⟨k,sv,bi⟩,bn⟩:(∃k sv,φ i=.ph (.lk k (.CI sv)))/\q=0:=by
     rcases h.blk i am a1 with⟨e,_⟩ | e;exact absurd e az;exact e
    subst bn;have bo:1<=Sg pQ gs.size φ:=by
     have:=le_sumTo (f:=λa=>Dr pQ (φ a)) am;have e:Dr pQ (φ i)=1:=by rw[bi];rfl
     simp only[e] at this;exact this
    have hb:=h.lock.ln.busy bo;have bv:1<=Sg (λp=>(((((pH p+pN p)+pZ p)+pV p)+pT p)+pD p)+pX p) gs.size φ:=by
     rw[KS,KS,KS,KS,KS,KS];exact hb
    let⟨a,a2,Y⟩:=Zk bv;cases Z:φ a with
    | gone d=>rw[Z] at Y;simp[Dr] at Y
    | ph bw=>
     rw[Z] at Y;cases bw<;>(try (simp[Dr] at Y;done))
     rename_i k' l;cases a3:bt a with
     | true=>exact ag a a2 _ Z a3
     | false=>
      rcases h.blk a a2 a3 with⟨e,a4,_⟩ | ⟨⟨b3,b4,e⟩,_⟩;subst e;rw[Z] at a4;cases a4;rw[Z] at e;cases e;simp[Dr,pH,pN,pZ,pV,pT,pD,pX] at Y
theorem Inv.step(h:Inv P F B gs w t φ r bt S Sh j c v wt' sm m q f)(al:∀k v E E',Le E E'->F.msg k v E->F.msg k v E'):
  ∃gs' w' aq u,stepT P (crowd gs w sl)=(.next (crowd gs' w' aq),u)/\
  ((∃φ' r' a4 S' bi am bn v' bo sm' m' q' bv,Inv P F B gs' w' (t++u) φ' r' a4 S' bi am bn v' bo sm' m' q' bv/\Mu.lt (mu F gs'.size φ' m' q' r' a4) (mu F gs.size φ m q r bt))∨S3 P F B gs' w' (t++u)):=by
 have co:=h.size;have bw:∀x∈gs,awake x:=by
  intro x K;obtain⟨i,hi,rfl⟩:=sN.1 K;exact(h.L4 i _ (pP hi)).awake
 let⟨i,g,d,aq,hi,a5,bx⟩:=crowd_pick (P:=P) (w:=w) (sl:=sl) bw h.runs
 suffices I0 P F B gs (w.at d) aq t i (mu F gs.size φ m q r bt) by
  obtain⟨gs',w',bz,u,av,aw⟩:=this;exact⟨gs',w',bz,u,bx.trans av,aw⟩
 have O:=h.at_ d;have a6:i<gs.size:=(f8.1 hi).1;have ac:=h.L4 i g hi;generalize K:φ i=x at ac;generalize a7:r i=ρ at ac;generalize hb:bt i=b at ac;generalize a8:loc x (S i)=s at ac;cases ac with
 | blk _ _ _=>cases a5
 | gone hm a9=>exact O.slip hi a5 K a7 hm a9
 | @walk p _ _ _ hm a9 ay=>
  have b0:JQ (Stop P F p) g s∨∃f,ρ=.node f/\(∀w,Fits s w->∃g' s' w' es,stepG P (i==0) g w=.go g' w' es/\Jr P (i==0) (JQ (Stop P F p)) (f w) g' s'/\Fits s' w'/\Fr s w s' w'/\(∀e∈es,Ev s w w' e)/\(s=.quiet->s'=.quiet/\w'=w/\es=#[])):=by
   cases ρ with
   | leaf=>exact .inl ay
   | node f=>
    rcases ay with q | ⟨_,q⟩;exact .inl q;exact .inr ⟨f,V,q⟩
  rcases b0 with⟨s₀,bb,U⟩ | ⟨f0,rfl,hgo⟩
  .subst a8;have Y:Fam.CZ p=false->Cu (S i) s₀:=λe=>by simpa [loc,Ii,e] using bb
   by_cases c1:∃k l,p=.lk k l
   .obtain⟨k,l,rfl⟩:=c1;by_cases c2:l=.F0;subst c2;exact O.store hi K hm (Y V) U
    by_cases c3:(∃sv,l=.CI sv)/\q=0;obtain⟨⟨sv,rfl⟩,c3⟩:=c3;exact O.block hi K hb hm (Y V) U (.inr ⟨⟨k,sv,V⟩,c3⟩)
    exact O.B9 al hi K c2 hm (Y V) U λsv e az=>c3 ⟨⟨sv,e⟩,az⟩
   by_cases c2:∃am,p=.Ge am
   .obtain⟨am,rfl⟩:=c2;have ag:i=0:=by simpa [Fam.CN] using hm
    subst ag;exact O.spawn hi K (Y V) U
   by_cases c3:p=.GV
   .subst c3;have ag:i=0:=by simpa [Fam.CN] using hm
    subst ag;exact O.over al hi K (Y V) U _
   by_cases c4:p=.FV/\sm=0;obtain⟨rfl,c4⟩:=c4;exact O.block hi K hb hm (Y V) U (.inl ⟨V,c4⟩)
   have b1:∃a0,a0<gs.size+c.toNat/\CK c gs.size φ a0=.ph p:=by
    by_cases e:i=0
    .subst e;cases c with
     | false=>exact⟨0,by omega,by rw[Kj];exact K⟩
     | true=>exact⟨gs.size,by simp,by rw[KU];exact K⟩
    .exact⟨i,by omega,by rw[Ju e (by omega)];exact K⟩
   have b2:p=.FV->sm=1:=by
    rintro rfl;have ag:i=0:=by simpa [Fam.CN] using hm
    subst ag;obtain⟨p0,ai,_,hh⟩:=h.main;rw[K] at ai;cases ai;obtain rfl:c=true:=by
     rcases hh with⟨_,hm⟩ | ⟨e,_⟩;exact hm.elim;exact e
    have ay:=h.CP.cj V;have be:=h.CP.mode;rw[eS rfl,show B.N0+F.n=gs.size by omega,KU,K] at be;obtain⟨cp,_⟩:=be;have:sm≠0:=λq=>c4 ⟨rfl,q⟩;omega
   obtain⟨a0,b3,b4⟩:=b1;have ap:(∀k,p≠ .HQ k)/\p≠ .Hv/\(∀a1 vs,p≠ .Gb a1 vs)/\p≠ .Ij:=by
    by_cases e:i=0;subst e;have a2:=h.mn;rw[K] at a2;obtain⟨p0,ai,_,hh⟩:=h.main;rw[K] at ai;cases ai;refine⟨λk e=>?_,λe=>?_,λa1 vs e=>?_,λe=>?_⟩;subst e;rcases hh with⟨_,Z⟩ | ⟨_,Z⟩<;>exact Z.elim;subst e;exact a2.1 V;subst e;rcases hh with⟨e,Z⟩ | ⟨_,Z⟩;have:=Z.2;rw[e] at this;cases this;exact Z.elim;subst e;exact a2.2 V
    .rcases h.Fa a6 with az | ⟨_,d,hd,_⟩ | ⟨k',ct,cw,_,hw⟩;exact absurd az e;rw[K] at hd;cases hd
     .rw [K] at hw;refine⟨λk e=>?_,λe=>?_,λa1 vs e=>?_,λe=>?_⟩<;>subst e;exact absurd hw.2 q2
      all_goals exact hw.elim
   let⟨v',w',sm',es,cy,b5⟩:=h.CP.enabled b3 b4 ap.1 (λk e=>c2 ⟨k,e⟩) ap.2.1 ap.2.2.1 ap.2.2.2 b2 c3 λk l e=>c1 ⟨k,l,e⟩;exact O.act al hi K hm bb U b5
  .subst a8;have b6:Fits (loc (.ph p) (S i)) (w.at d):=by
    have:=O.Cm.fits i a6;unfold loc;split;exact⟨λb o a3=>(by cases a3),λb o a3=>(by cases a3),λb hb=>V⟩;exact this
   let⟨g',s',w',es,av,aw,ca,cc,ce,ci⟩:=hgo (w.at d) b6;exact O.own al hi K hm av aw ca cc ce ci (by rw[a7];exact⟨f0,_,rfl,rfl⟩)
theorem Inv.run(Z:∀k v E E',Le E E'->F.msg k v E->F.msg k v E'):∀(K:Mu) (gs:Array Goroutine) (w:World) (sl:Option (Nat×Nat)) (t:Trace) (φ:Nat->Nx) (r:Nat->Rk) (bt:Nat->Bool) (S:Nat->St) (Sh:Nat->Prop) (j:Nat) (c:Bool) (v wt' sm:Nat) (m:M4) (q:Nat) (f:Nat->Value),
  mu F gs.size φ m q r bt=K->Inv P F B gs w t φ r bt S Sh j c v wt' sm m q f->∃n gs' w' O U,runNT P n (crowd gs w sl) t=(.next (crowd gs' w' O),U)/\S3 P F B gs' w' U:=by
 intro K
 induction K using Mu.wf.induction with
 | _ K ac=>
  intro gs w sl t φ r bt S Sh j c v wt' sm m q f ag h;let⟨gs',w',O,u,Y,hh⟩:=h.step (sl:=sl) Z;rcases hh with⟨φ',r',ai,S',al,am,ap,v',aq,sm',m',q',av,aw,ay⟩ | az;let⟨n,a0,a1,a2,a3,a4,a5⟩:=ac _ (ag▸ay) gs' w' O (t++u) φ' r' ai S' al am ap v' aq sm' m' q' av V aw;exact⟨n+1,a0,a1,a2,a3,OK Y a4,a5⟩;exact⟨1,gs',w',O,t++u,OK Y V,az⟩
end
def KP(H:LH)(a b c:Nat):LH:=λx=>if x=c then none else if x=b then none else if x=a then none else H x
theorem dJ{P:Program}(F:Fam){s:St}{f₀:Nat->Value}(av:1<=F.n)(a4:F.n<134217728)(a5:∀k v E E',Le E E'->F.msg k v E->F.msg k v E')
  (aw:F.mu≠F.wg) (ay:F.fd≠F.wg) (az:F.fd≠F.mu) (ac:s.H F.wg=some (F.It 0 0)) (ag:s.H F.mu=some (F.Iw 0 0)) (al:s.H F.fd=some (F.Jg f₀))
  (a6:Way P true (Stop P F (.GW 0)) g ⟨s.E,KP s.H F.wg F.mu F.fd,false⟩) (a7:∀g s,F.fin g s->(Ho P).ok Q g s):(Ho P).ok Q g s:=by
 intro gs w sl t q Sh hC;have Y:0<gs.size:=(f8.1 hC.main).1;let s1:St:={s with H:=λb=>if b=F.wg then none else s.H b}
 let s2:St:={s with H:=λb=>if b=F.mu then none else s1.H b}
 have a0:lone s 0=s:=V;have c1:B8 t w gs.size (upd (lone s) 0 s1) (λb=>Sh b∨b=F.wg):=by
  have:=hC.Cm.share (i:=0) Y (b₀:=F.wg) (o₀:=F.It 0 0) (by rw[a0];exact ac);exact this
 have c2:B8 t w gs.size (upd (upd (lone s) 0 s1) 0 s2) (λb=>(Sh b∨b=F.wg)∨b=F.mu):=by
  have:=c1.share (i:=0) Y (b₀:=F.mu) (o₀:=F.Iw 0 0) (by rw[upd_same];simp[s1,aw,ag]);refine this.congr λi hi=>?_;by_cases e:i=0;subst e;simp only[upd_same];exact⟨V,V⟩;have h:∀(f:Nat->St) (x:St),upd f 0 x i=f i:=λf x=>upd_ne f x e;constructor<;>simp only[h]
 have c3:B8 t w gs.size (upd (upd (upd (lone s) 0 s1) 0 s2) 0 ⟨s.E,KP s.H F.wg F.mu F.fd,false⟩) (λb=>((Sh b∨b=F.wg)∨b=F.mu)∨b=F.fd):=by
  have:=c2.share (i:=0) Y (b₀:=F.fd) (o₀:=F.Jg f₀) (by rw[upd_same];simp[s2,s1,ay,az,al]);refine this.congr λi hi=>?_;by_cases e:i=0;subst e;simp only[upd_same];exact⟨V,V⟩;have h:∀(f:Nat->St) (x:St),upd f 0 x i=f i:=λf x=>upd_ne f x e;constructor<;>simp only[h]
 have Z:∀b,s.H b≠none->∀x a,touchAt t x=some a->C4 a.loc=some b->Knows t 0 x:=λb hb=>hC.Cm.kH 0 Y b (by rw[a0];exact hb);have am:=hC.Cm.fits 0 Y;obtain⟨ρ,a8⟩:=a6;let φ:Nat->Nx:=λi=>if i=0 then .ph (.GW 0) else .gone (Deaf t i)
 have z:∀f:Nx->Nat,(∀d,f (.gone d)=0)->f (.ph (.GW 0))=0->(sumTo gs.size λi=>f (φ i))=0:=by
  intro f a1 a2;have:=sumTo_le (f:=λi=>f (φ i)) (c:=0) (j:=gs.size) λi _=>by
   show f (φ i)<=0;by_cases e:i=0;simp[φ,e,a2];simp[φ,e,a1]
  omega
 have O:∀f:LP->Nat,Sg f gs.size φ=0:=λf=>z (Dr f) (λ_=>rfl) rfl;have a9:∀i,(upd (upd (upd (lone s) 0 s1) 0 s2) 0 ⟨s.E,KP s.H F.wg F.mu F.fd,false⟩) i=if i=0 then⟨s.E,KP s.H F.wg F.mu F.fd,false⟩ else .quiet:=by
  intro i;by_cases e:i=0;subst e;rw[upd_same];rfl;rw[upd_ne _ _ e,upd_ne _ _ e,upd_ne _ _ e];simp[lone,e]
 have bb:F.It (Fam.word 0 0) (0:Nat)=F.It 0 0:=by simp[Fam.word]
 have be:F.Iw M4.zero.num (0:Nat)=F.Iw 0 0:=by simp[M4.num,M4.zero]
 have a3:∀i,i<gs.size->(i=0∨gs.size<=i)->i=0:=λi hi ai=>by omega
 have bi:Inv P F ⟨gs.size,t.size,s.E,w⟩ gs w t φ (λi=>if i=0 then ρ else chain (q i)) (λ_=>true) (upd (upd (upd (lone s) 0 s1) 0 s2) 0 ⟨s.E,KP s.H F.wg F.mu F.fd,false⟩) (λb=>((Sh b∨b=F.wg)∨b=F.mu)∨b=F.fd) 0 false 0 0 0 M4.zero 0 f₀:=by
  refine⟨?_,⟨?_,λi hi=>?_⟩,⟨λi hi=>?_,λi hi=>hC.lv.above i hi,λx a b K hb ap U i hi ai=>?_,λx a b K hb ap U=>?_,λx a K hb=>.inl λi hi ai=>?_,λx g bn bo bv=>.inl (hC.over x g bn bo bv),λx K e=>?_,no _,λk U=>by omega⟩,λi g' aq=>?_,c3,.inl (.inl (.inr V)),.inl (.inr V),.inr V,aw,ay,az,a4,by simp[φ],?_,?_,am.h _ _ al,λi hi hb=>(by cases hb),λk U=>(by omega),?_,V,.refl _,V⟩
  .rw [Kj];refine⟨Y,av,by omega,by simp,qc _,by simp,⟨.GW 0,V,V,av,V⟩,λi a1 a2=>?_,λk U=>by omega,by simp,?_,by simp[φ,pend],?_,λk U=>by omega,.nil,λk U=>by cases U⟩
   .have:i≠0:=by omega
    simp[φ,this,P3]
   have:=z cU (λ_=>rfl) rfl;simp only[pu,qq];rw[this];simp[φ,pend];simp only[px,qp,DY];exact⟨z cL (λ_=>V) V,z cS (λ_=>V) V,trivial,trivial,trivial⟩
  rw[O,O,O,O,O,O,O,O];simp[LN,M4.zero];by_cases e:i=0;simp[φ,e,Qw];simp[φ,e,Qw];by_cases e:i=0;subst e;simp[φ,Gd];exact hC.hears;simp[φ,e,Gd];obtain rfl:=a3 i hi ai;rcases ap with rfl | rfl;exact Z _ (by rw[ac];simp) x a K hb;exact Z _ (by rw[ag];simp) x a K hb;rcases ap with rfl | rfl;exact Z _ (by rw[ac];simp) x a K hb;exact Z _ (by rw[ag];simp) x a K hb;obtain rfl:=a3 i hi ai;exact Z _ (by rw[al];simp) x a K hb;have:=lt_of_act? e;have c4:t.size<=x:=K;omega
  .rw [a9];by_cases e:i=0;subst e;rw[hC.main] at aq;obtain rfl:=f5 aq;simp only[qs,φ];exact .walk V (λh=>by cases h) a8
   .have hm:(i==0)=false:=by rw[beq_eq_false_iff_ne];exact e
    simp only[e,qp,φ];exact .gone hm (hC.lv.old i g' (by omega) aq)
  show w.heap[F.wg]?=_;rw[bb];exact am.h _ _ ac;show w.heap[F.mu]?=_;rw[be];exact am.h _ _ ag;rw[upd_same];exact Le.refl _
 let⟨n,gs',w',bw,bx,bz,q',b0,g',s',b1,b2,hle,b3,b4,b5⟩:=Inv.run a5 _ _ _ sl _ _ _ _ _ _ _ _ _ _ _ _ _ _ V bi;let⟨n2,b6,w2,ca,t2,cc,ce,g2,ci,k1,co,cp,ct,cw,cy,c0⟩:=a7 g' s' b2 gs' w' bw bx q' b0 b1;refine⟨n+n2,b6,w2,ca,t2,cc,ce,g2,ci,?_,co,cp,λb o h=>ct b o (hle b o h),cw.trans b3,b4.trans cy,c0.trans b5⟩;rw[runNT_add,bz];exact k1
end Pal
namespace Pal
open Go Go.Conc
variable {ops:Ao_}{i:Nat}{rest:List Nat}{d:Option Tmp}{f:FuncId}{args:Array Operand}{ats:Array TypeId}{ty:TypeId}{pp:String}{af:Ae_}{g:On_}{vs:Lv_}{p q:Ph}
variable{fn:Func}{w:World}{sm v':Nat}{T:Av_}{ad:Addr}
section
variable {P:Program}{F:Fam}{J:Judge P}{Q:GP}{n:Nat}{L L':Env}{ds:Ld_}{k:Li_}{cs:Lf_}{s s':St}{b:Frame}{main:Bool}
theorem BV(hb:b.roundOf=none)(T:Av_)(todo:Li_):fr b T ds todo=b.at ⟨T,ds⟩ todo:=by simp[fr,Frame.at,hb]
theorem Mz(hb:b.roundOf=none)(T:Av_)(todo:Li_):EJ b T ds todo={b.at ⟨T,ds⟩ todo with mode:=.returning}:=by simp[EJ,Frame.at,hb]
theorem Fb(T:Av_)(ds:Ld_)(x:Operand):(⟨T,ds⟩:Act).eval x=BL T x:=by cases x<;>rfl
theorem Et(T:Av_)(ds:Ld_)(d:Option Tmp)(v:Value):(⟨T,ds⟩:Act).put d v=⟨CV T d v,ds⟩:=by cases d<;>rfl
def JO(J:Judge P)(Q:GP)(b:Frame)(n:Nat)(L:Env)(ds:Ld_)(cs:Lf_)(s:St):Prop:=
 ∀T,Has n L T->∀todo,J.ok Q (G (EJ b T ds todo) cs) s
theorem JL.out(K:b.roundOf=none)(h:JO J Q b n L ds cs s):JL J Q b n L ds [] cs s:=λT O=>
 Judge.Dv V (λw=>by simp[G,stepG,stepG.exec,fr,EJ,K]) (h T O [])
theorem IJ(K:b.roundOf=none)(h:JO J Q b n L ds cs s):JL J Q b n L ds (.code .ret::k) cs s:=λT O=>
 Judge.Dv V (λw=>by simp[G,stepG,stepG.exec,fr,EJ,K]) (h T O (.code .ret::k))
theorem JO.leave{c:Frame}{v:Value}(O:b.kind=.normal)(K:BO P b.fn L n s v)(h:J.ok Q (G (c.finish v) cs) s):JO J Q b n L [] (c::cs) s:=λT U todo=>by
 obtain⟨fn,Y,K⟩:=K
 exact Judge.leave O Y (K T U) h
theorem JO.leaveD{c:Frame}(O:b.kind=.deferred)(U:P.funcs[b.fn]?=some fn)(K:fn.results=#[])(Y:c.mode=.returning∨c.mode=.panicking [goexitEntry])(h:J.ok Q (G c cs) s):JO J Q b n L [] (c::cs) s:=λT ac todo=>by
 refine Judge.Dv rfl (λw=>?_) h
 have Z:=results_none K T P w
 have e2:=λ(x:Array Event)=>events_results_none (P:=P) (w:=w) K T x
 rcases Y with e | e<;>simp[G,stepG,unwind,EJ,U,Z,e2,doReturn,O,GStep.after,seen_none,e,goexitEntry]
theorem JO.enter{f:FuncId}{c:Code}{vs:Lv_}(O:b.roundOf=none)(Y:P.funcs[f]?=some fn)(Z:(fn.name== "runtime.NumGoroutine")=false)(hb:fn.body=some c)(al:vs.length<=fn.ntmps)
  (h:∀T,Has n L T->∀todo,JL J Q (baseD f) fn.ntmps (GQ 0 vs) [] [.code c] (EJ b T ds todo::cs) s):JO J Q b n L (dcall f vs.toArray::ds) cs s:=λT ac todo=>by
 refine Judge.Dv rfl (λw=>?_) (h T ac todo (vs.toArray++Array.replicate (fn.ntmps - vs.length) undef) ⟨by simp;omega,λt v ag=>?_⟩)
 .rw [Mz O,stepG_unwind_enter (a:=⟨T,dcall f vs.toArray::ds⟩) rfl Y Z hb,Mz O]
  rw[BV (b:=baseD f) rfl];simp
 .let⟨_,K⟩:=KF ag;have ai:t<vs.length:=by
   rcases mt t vs.length with U | U;exact U;simp at K;have:=(fx.1 K).1;omega
  rw[pd,qC (by simpa using ai)];simp at K;simp[K]
theorem JL.defer{ops:Ao_}{i:Nat}{rest:List Nat}{d:Option Tmp}{f:FuncId}{args:Array Operand}{ats:Array TypeId}{ty:TypeId}{p:String}{af:Ae_}{g:On_}{vs:Lv_}
  (U:ops[i]?=some ⟨d,.defer ⟨.value (.func f),args,ats⟩,ty,p,af,g⟩) (Y:b.roundOf=none) (hw:AY L ops ⟨d,.defer ⟨.value (.func f),args,ats⟩,ty,p,af,g⟩=some true) (K:((b.kind != .early)&&Bo n d)=true)
  (Z:evs L args.toList=some vs) (h:JL J Q b n (Ay L d undef) (dcall f vs.toArray::ds) (.inRegion ops rest::k) cs s):
  JL J Q b n L ds (.inRegion ops (i::rest)::k) cs s:=λT O=>by
 simp only[gQ] at K
 have ac:args.map (BL T)=vs.toArray:=by
  rw[← G7 O.GR Z];apply qS;simp
 refine Judge.oper U (Ck O hw) (by simpa using K.1) (.inl Y) ?_;have hd:execOp (BL T) ⟨d,.defer ⟨.value (.func f),args,ats⟩,ty,p,af,g⟩=.pure (.defer (dcall f vs.toArray)):=by
  simp only[execOp,resolve,bind,Sem.bind,Deferred.ofValue,BL,pure,dcall];rw[ac];simp
 rw[hd];exact h _ (O.put K.2 undef)
def ME:Ph->Bool
 | .HQ _ | .Ge _ | .Hv | .Gb _ _ | .Ij | .FV | .GV | .lk _ _=>false
 | _=>true
theorem Jq{p:Ph}{g:Goroutine}(K:ME p=true)(Y:g.status=.running)(Z:g.offers=none)(O:if Fam.CZ p=true then s=.quiet else s.q=false)(ac:p=.FJ->mayWake P g=true)
  (h:∀v wt sm v' wt' sm' es U,F.act p v wt sm=some ((v',wt',sm'),es,U)->∃g',(∀w,F.WG w v wt sm->stepG P (Fam.CN p) g w=.go g' (F.put w v' wt' sm') es)/\g'.status=.running/\Oc P (Stop P F) (Fam.CN p) U g' (Fam.Kw p s)):Stop P F p g s:=
 HC.stop {
  run:=Y
  offers:=Z
  quiet:=λe=>by rw[eS e] at O;exact O
  live:=λe=>by rw[d9 (by rw[e];simp)] at O;exact O
  act:=h
  JE:=λe=>by rcases e with e | ⟨k,b,e⟩;exact ac e;subst e;cases K
  FF:=λe=>by subst e;cases K
  go:=λj e=>by subst e;cases K
  lk:=λk l e=>by subst e;cases K
  CI:=λk sv e=>by subst e;cases K
  store:=λk e=>by subst e;cases K
  fin:=λe=>by subst e;cases K}
theorem Mx{v wt:Nat}(h:F.WG w v wt sm):F.put w v wt sm=w:=by
 unfold Fam.put;have:w.heap.setIfInBounds F.wg (F.It (Fam.word v wt) sm)=w.heap:=by
  apply qm;intro i;by_cases e:F.wg=i
  .subst e;unfold Fam.WG at h;have O:F.wg<w.heap.size:=by
    rcases mt F.wg w.heap.size with K | K;exact K;simp[py K] at h
   rw[pq O,h]
  .rw [pe e]
 rw[this]
theorem Js{v wt:Nat}(h:F.WG w v wt sm):w.cell? F.sA=some (.int .u64 (Fam.word v wt))/\w.cell? F.mA=some (.int .u32 sm)/\w.frozen? F.sA=false/\w.frozen? F.mA=false:=by
 unfold Fam.WG Fam.It at h;refine⟨?_,?_,?_,?_⟩;simp[World.cell?,Fam.sA,h];simp[World.cell?,Fam.mA,h];simp[World.frozen?,Fam.sA,h];simp[World.frozen?,Fam.mA,h]
theorem OH{v wt wt':Nat}(h:F.WG w v wt sm):w.setCell F.sA (.int .u64 (Fam.word v' wt'))=F.put w v' wt' sm:=by
 unfold Fam.put World.setCell;congr 1;apply qm;intro i;unfold Fam.WG Fam.It at h;rw[qT];have O:F.wg<w.heap.size:=by
  rcases mt F.wg w.heap.size with K | K;exact K;simp[py K] at h
 by_cases e:F.wg=i;subst e;rw[pq O,h];simp[Fam.sA,Fam.It];rw[pe e];simp[Fam.sA,e]
theorem TZ{v wt sm':Nat}(h:F.WG w v wt sm):w.setCell F.mA (.int .u32 sm')=F.put w v wt sm':=by
 unfold Fam.put World.setCell;congr 1;apply qm;intro i;unfold Fam.WG Fam.It at h;rw[qT];have O:F.wg<w.heap.size:=by
  rcases mt F.wg w.heap.size with K | K;exact K;simp[py K] at h
 by_cases e:F.wg=i;subst e;rw[pq O,h];simp[Fam.mA,Fam.It];rw[pe e];simp[Fam.mA,e]
structure Cf (P:Program) (f:FuncId) (e:Av_->Sem Value):Prop where
 h:∃fn,P.funcs[f]?=some fn/\(fn.name== "runtime.NumGoroutine")=false/\fn.body.isNone=true/\Extern.findNext fn=none/\Extern.find fn=some e
theorem KZ(K:Has n L T)(O:evs L args.toList=some vs):args.map (⟨T,ds⟩:Act).eval=vs.toArray:=by
 have:(⟨T,ds⟩:Act).eval=BL T:=funext λx=>Fb T ds x;rw[this,← G7 K.GR O];apply qS;simp
theorem Ny{m:Mark}(Z:ME p=true)(ac:if Fam.CZ p=true then s=.quiet else s.q=false)(ag:p≠ .FJ)(ai:∀v wt sm,F.act p v wt sm=some ((v,wt,sm),#[Fam.CR m],.ph q))(al:Fam.Kw p s=s)
  (am:ops[i]?=some ⟨d,.call ⟨.value (.func f),args,ats⟩,ty,pp,af,g⟩) (O:b.roundOf=none) (hw:AY L ops ⟨d,.call ⟨.value (.func f),args,ats⟩,ty,pp,af,g⟩=some true) (K:((b.kind != .early)&&Bo n d)=true)
  (hm:∀x,m≠ .extern x) (he:Cf P f (λ_=>do mark m;pure Extern.Race.none_))
  (h:JL (A0 P (Fam.CN p)) (Stop P F q) b n (Ay L d (.tuple #[])) ds (.inRegion ops rest::k) cs s):
  JL (A0 P (Fam.CN p)) (Stop P F p) b n L ds (.inRegion ops (i::rest)::k) cs s:=λT U=>by
 simp only[gQ] at K
 obtain⟨fn,ap,aq,hb,av,he⟩:=he.h
 refine(A0 P _).stop (Jq Z rfl rfl ac (λe=>absurd e ag) λv wt sm v' wt' sm' es ay Y=>?_)
 rw[ai] at Y;cases Y
 refine⟨_,λw aw=>?_,rfl,by rw[al];exact h _ (U.put K.2 _)⟩
 rw[BV O,BV O,stepG_mark0 (a:=⟨T,ds⟩) m hm am (Ck U hw) (by simpa using K.1) rfl ap aq hb av he,Mx aw,Et]
 rfl
theorem Q7{mk:Addr->Mark}(Z:ME p=true)(ac:if Fam.CZ p=true then s=.quiet else s.q=false)(ag:p≠ .FJ)(ai:∀v wt sm,F.act p v wt sm=some ((v,wt,sm),#[Fam.CR (mk ad)],.ph q))
  (al:ops[i]?=some ⟨d,.call ⟨.value (.func f),args,ats⟩,ty,pp,af,g⟩) (U:b.roundOf=none) (hw:AY L ops ⟨d,.call ⟨.value (.func f),args,ats⟩,ty,pp,af,g⟩=some true) (K:((b.kind != .early)&&Bo n d)=true)
  (hm:∀ad x,mk ad≠ .extern x) (he:Cf P f (Extern.Race.marked mk)) (am:evs L args.toList=some vs) (ap:vs[0]?=some (.pointer (some ad)))
  (h:JL (A0 P (Fam.CN p)) (Stop P F q) b n (Ay L d (.tuple #[])) ds (.inRegion ops rest::k) cs (Fam.Kw p s)):
  JL (A0 P (Fam.CN p)) (Stop P F p) b n L ds (.inRegion ops (i::rest)::k) cs s:=λT O=>by
 simp only[gQ] at K
 obtain⟨fn,aq,av,hb,aw,he⟩:=he.h
 refine(A0 P _).stop (Jq Z rfl rfl ac (λe=>absurd e ag) λv wt sm v' wt' sm' es az Y=>?_)
 rw[ai] at Y;cases Y
 refine⟨_,λw ay=>?_,rfl,h _ (O.put K.2 _)⟩
 rw[BV U,BV U,stepG_markAt (a:=⟨T,ds⟩) mk hm al (Ck O hw) (by simpa using K.1) rfl aq av hb aw he (ad:=ad) (by rw[KZ O am];simpa using ap),Mx ay,Et]
 rfl
end
variable {E:LH}{S:List Seg}{j l:Nat}{o':Obj}
section
variable {H:LH}{o:Obj}
theorem Ls(am:Aq E H S)(Y:S[j]?=some [(l,o)])(o':Obj):(Aj E H S).upd l o'=Aj E H (S.set j [(l,o')])/\Aq E H (S.set j [(l,o')]):=by
 let⟨K,Z⟩:=HI am Y;have U:=Nd.iff.1 Z;have ac:E l=none:=(U.2 (l,o) (by simp)).1;have ap:H l=none:=(U.2 (l,o) (by simp)).2;have ag:Nd E H (S.set j []).flatten:=Lh.Nd.left Z;have aq:∀q∈(S.set j []).flatten,q.1≠l:=λq O e=>by
  have:=U.1;rw[ql,qx] at this;exact this.2.2 q.1 (sa O) l (by simp) e
 have ai:Bn (S.set j []).flatten H l=none:=by
  have key:∀(B:List (Nat×Obj)),(∀q∈B,q.1≠l)->Bn B H l=none:=by
   intro B
   induction B with
   | nil=>intro _;exact ap
   | cons q B av=>
    intro O;obtain⟨c,aw⟩:=q;have al:l≠c:=λe=>O (c,aw) (by simp) e.symm;have K:=av λq' ay=>O q' (f7 _ ay);simp only[Bn]
    first
    | rw[d9 al];exact K
    | rw[d9 (p6 al)];exact K
  exact key _ aq
 have f1:=Lp (E:=E) (H:=H) (B:=(S.set j []).flatten) (r:=l) ac ai o ag;have f2:=Lp (E:=E) (H:=H) (B:=(S.set j []).flatten) (r:=l) ac ai o' ag;let⟨az,g2⟩:=Kg (seg:=[(l,o)]) Y f2.1;refine⟨?_,g2⟩;rw[K,← az,← f1.2,← f2.2];unfold St.upd;congr 1;funext x;by_cases a0:x=l<;>simp[a0]
end
variable {P:Program}{J:Judge P}{Q:Gs_}{L:Env}{ds:Ld_}{k:Li_}{cs:Lf_}
variable{r:Loop}{caps:Lv_}
section
variable {b:Frame}{n:Nat}{H:LH}
theorem Judge.FF{α:Type}{g:Goroutine}{g':α->Goroutine}{s:St}(x:Sem α)(ac:s.q=false)(ag:g.status=.running)
  (ai:∀w a w',x.run P w=.ok a w'->∃es,stepG P J.main g w=.go (g' a) w' es/\∀e∈es,e∈x.events P w #[])
  (h:lp P x s (λa s'=>J.ok Q (g' a) s') (λ_ _=>False)):J.ok Q g s:=by
 refine J.step ⟨ag,λw f=>?_,λe=>by subst e;cases ac⟩;let⟨s',O,U,Y,K⟩:=OX _ h f;cases Z:x.run P w with
 | ok a w'=>
  rw[Z] at O U Y K;simp only[LR] at O U Y;let⟨es,he,hm⟩:=ai w a w' Z;exact⟨g' a,s',w',es,he,K,O,U,λe al=>Y e (hm e al)⟩
 | halt a w'=>rw[Z] at K;exact K.elim
theorem OJ{s:St}{K:Loop->St->Prop}{X:Halt->St->Prop}(h:s.get l=some (.loop r))(k:K r s):lp P (Instr.getLoop l) s K X:=by
 unfold Instr.getLoop getObj;simp only[bind,Sem.bind,lp];exact⟨_,h,V,k⟩
theorem Ye(j:Nat)(K:Aq E H S)(O:S[j]?=some [(l,.loop r)])(U:(r.state== .busy)=false)(Y:r.pending=none)
  (h:Aq E H (S.set j [(l,.loop {r with state:=.exhausted})])->J.ok Q (G (fr b T ds k) cs) (Aj E H (S.set j [(l,.loop {r with state:=.exhausted})]))):
  J.ok Q (G (fr b T ds (.endRangeFunc l::k)) cs) (Aj E H S):=by
 let⟨Z,ac⟩:=Ls K O (.loop {r with state:=.exhausted});have ag:lp P (Instr.endLoop l) (Aj E H S) (λa s'=>a=none/\s'=Aj E H (S.set j [(l,.loop {r with state:=.exhausted})])) (λ_ _=>False):=by
  unfold Instr.endLoop;refine Az _ _ (OJ (DU (i:=0) K O V) ?_);rw[d9 (by rw[U];simp)];have ai:(Aj E H S).H l=some (.loop r):=by
   have:=DU (i:=0) K O V;have al:E l=none:=PY K O;unfold St.get at this;rw[show(Aj E H S).E l=none from al] at this;exact this
  simp only[bind,Sem.bind,lp,setObj,pure];refine⟨⟨_,ai,V⟩,V,Y,?_⟩;exact Z
 refine Judge.FF (g':=λam=>G (fr b T ds ((am.map Item.code).toList++k)) cs) (Instr.endLoop l) V V (λw a w' ap=>?_) (EI _ ag (λa s' ⟨aq,av⟩=>by subst aq av;exact h ac) (λ_ _ h=>h));refine⟨seen P b.fn ((Instr.endLoop l).events P w #[])++ #[],?_,λe he=>?_⟩;simp[G,stepG,stepG.exec,fr,ap,GStep.after];exact mem_seen (by simpa using he)
def W8(l:Nat)(f:FuncId):Frame:={(default:Frame) with fn:=f,kind:=.normal,roundOf:=some l}
theorem Hz.yield{t:Tmp}{v:Value}{B:Seg}{R:Value->LH->Seg->Prop}{i:Nat}(K:B[i]?=some (l,.loop r))(O:r.params=#[t])
  (h:∀(Q:Gs_) (U:Frame) (cs:Lf_) (H:LH),Aq E H [B]->(∀w E' S' B',Le E E'->S'.flatten=B'->R w E' B'->Aq E' H S'->J.ok Q (G (U.finish w) cs) (Aj E' H S'))->
   J.ok Q (G (fr (W8 l r.fn) (r.tmps.setIfInBounds t v) [] [.code r.assign,.beginRound,.code r.body]) (U::cs)) (Aj E H [B])):
  Hz J (.func (.yield l) #[] #[]) [v] E B R:=λH Y Q c cs Z=>by
 have ac:(mk E H B).get l=some (.loop r):=Q3 Y K
 simp only[Deferred.ofValue,bind,Sem.bind,pure,invoke]
 unfold Instr.yield
 refine Az _ _ (OJ ac ?_)
 have ag:¬((#[]:Av_)++ [v].toArray).size≠r.params.size:=by rw[O];simp
 rw[d9 ag];have e2:((r.params.zip ((#[]:Av_)++ [v].toArray)).foldl (λtmps (t,a)=>tmps.setIfInBounds t a) r.tmps)=r.tmps.setIfInBounds t v:=by rw[O];simp[Array.zip,Array.zipWith,Array.zipWithMAux]
 simp only[lp,pure];have ai:mk E H B=Aj E H [B]:=by unfold Aj;simp
 rw[e2,ai];exact h Q c cs H (by unfold Aq;simpa using Y) λw E' S' B' hle K al am=>by
  subst K;exact Z w _ ⟨E',S'.flatten,hle,al,am,rfl⟩
theorem JL.beginRound(j:Nat)(U:b.roundOf=some l)(Y:b.kind=.normal)(K:Aq E H S)(O:S[j]?=some [(l,.loop r)])(Z:r.state=.ready)
  (h:Aq E H (S.set j [(l,.loop {r with state:=.busy})])->JL J Q b n L ds k cs (Aj E H (S.set j [(l,.loop {r with state:=.busy})]))):
  JL J Q b n L ds (.beginRound::k) cs (Aj E H S):=λT ac=>by
 let⟨ag,ai⟩:=Ls K O (.loop {r with state:=.busy})
 have al:lp P (Instr.beginRound l) (Aj E H S) (λ_ s'=>s'=Aj E H (S.set j [(l,.loop {r with state:=.busy})])) (λ_ _=>False):=by
  unfold Instr.beginRound;refine Az _ _ (OJ (DU (i:=0) K O rfl) ?_);have am:(Aj E H S).H l=some (.loop r):=by
   have:=DU (i:=0) K O rfl;have ap:E l=none:=PY K O;unfold St.get at this;rw[show(Aj E H S).E l=none from ap] at this;exact this
  simp only[bind,Sem.bind,lp,setObj,pure,Z];exact⟨⟨_,am,rfl⟩,rfl,ag⟩
 refine Judge.FF (g':=λ_=>G (fr b T ds k) cs) (Instr.beginRound l) rfl rfl (λw a w' aq=>?_) (EI _ al (λa s' av=>by subst av;exact h ai T ac) (λ_ _ h=>h));refine⟨seen P b.fn ((Instr.beginRound l).events P w #[])++ #[],?_,λe he=>?_⟩;simp[G,stepG,stepG.exec,fr,stepG.apply,U,Y,aq,GStep.after,Frame.finish];exact mem_seen (by simpa using he)
theorem KX{o:Obj}{seg:Seg}(K:Aq E H S)(O:S[j]?=some ((l,o)::seg)):(Aj E H S).H l=some o:=by
 have:=DU (i:=0) K O V;have U:E l=none:=PY K O;unfold St.get at this;rw[show(Aj E H S).E l=none from U] at this;exact this
theorem JL.endRound{c:Frame}(j:Nat)(U:b.roundOf=some l)(Y:b.kind=.normal)(K:Aq E H S)(O:S[j]?=some [(l,.loop r)])
  (h:Aq E H (S.set j [(l,.loop {r with state:=.ready,pending:=none})])->J.ok Q (G (c.finish (.bool true)) cs) (Aj E H (S.set j [(l,.loop {r with state:=.ready,pending:=none})]))):
  JL J Q b n L [] [] (c::cs) (Aj E H S):=λT ap=>by
 let⟨Z,ac⟩:=Ls K O (.loop {r with state:=.ready,pending:=none})
 have ag:lp P (Instr.endRound l none) (Aj E H S) (λa s'=>a=.bool true/\s'=Aj E H (S.set j [(l,.loop {r with state:=.ready,pending:=none})])) (λ_ _=>False):=by
  unfold Instr.endRound;refine Az _ _ (OJ (DU (i:=0) K O rfl) ?_);simp only[bind,Sem.bind,lp,setObj,pure];exact⟨⟨_,KX K O,rfl⟩,rfl,rfl,Z⟩
 refine Judge.FF (g':=λv=>G (c.finish v) cs) (Instr.endRound l none) rfl rfl (λw a w' ai=>?_) (EI _ ag (λa s' ⟨al,am⟩=>by subst al am;exact h ac) (λ_ _ h=>h));refine⟨seen P b.fn ((Instr.endRound l none).events P w #[])++ #[],?_,λe he=>?_⟩;simp[G,stepG,stepG.exec,fr,U,Y,ai,GStep.after,doReturn];exact mem_seen (by simpa using he)
theorem JL.rangeFunc{x:Operand}{params:Array Tmp}{as O:Code}{f:FuncId}(ap:b.roundOf=none)(aq:b.kind≠ .early)(ag:ev L x=some (.func (.func f) #[] caps.toArray))(hb:Ef P f=true)(av:Aq E H S)
  (h:∀K l T,Has n L T->Aq E H (S++ [[(K,.deferred (some []))]]++ [[(l,.loop ⟨.ready,none,b.fn,T,params,as,O,K⟩)]])->
   J.ok Q (G (Frame.enter P f (.func (.yield l) #[] #[]::caps).toArray .normal) (fr b T (⟨.collected K,#[]⟩::ds) (.inRangeFunc l::k)::cs)) (Aj E H (S++ [[(K,.deferred (some []))]]++ [[(l,.loop ⟨.ready,none,b.fn,T,params,as,O,K⟩)]]))):
  JL J Q b n L ds (.code (.rangeFunc x params as O)::k) cs (Aj E H S):=λT ai=>by
 have aw:lp P (Instr.enterLoop b.fn T params as O b.roundOf) (Aj E H S) (λq s'=>∃K,q.2=[⟨.collected K,#[]⟩]/\Aq E H (S++ [[(K,.deferred (some []))]]++ [[(q.1,.loop ⟨.ready,none,b.fn,T,params,as,O,K⟩)]])/\s'=Aj E H (S++ [[(K,.deferred (some []))]]++ [[(q.1,.loop ⟨.ready,none,b.fn,T,params,as,O,K⟩)]])) (λ_ _=>False):=by
  unfold Instr.enterLoop;rw[ap];simp only[newObj,bind,Sem.bind,lp,pure];refine⟨rfl,λK Y Z=>?_⟩;let⟨ac,ay⟩:=Lp Y Z (.deferred (some [])) av;let⟨p1,p2⟩:=F4 ac;have az:(Aj E H S).upd K (.deferred (some []))=Aj E H (S++ [[(K,.deferred (some []))]]):=by rw[← p1,← ay];rfl
  rw[az];refine⟨rfl,λl a0 a1=>?_⟩;let⟨a2,a3⟩:=Lp a0 a1 (.loop ⟨.ready,none,b.fn,T,params,as,O,K⟩) p2;let⟨p3,p4⟩:=F4 a2;exact⟨K,rfl,p4,by rw[← p3,← a3];rfl⟩
 refine Judge.FF (g':=λq=>G (Frame.enter P f (.func (.yield q.1) #[] #[]::caps).toArray .normal) (fr b T (q.2++ds) (.inRangeFunc q.1::k)::cs)) (Instr.enterLoop b.fn T params as O b.roundOf) rfl rfl (λw a w' a4=>?_) (EI _ aw (λa s' ⟨K,Y,Z,ac⟩=>by subst ac;simp only[Y];exact h K a.1 T ai Z) (λ_ _ h=>h));obtain⟨l,mk⟩:=a;have a5:BL T x=.func (.func f) #[] caps.toArray:=ai.ev ag;obtain⟨fn,U,a6,al⟩:∃fn,P.funcs[f]?=some fn/\(fn.name== "runtime.NumGoroutine")=false/\fn.body.isNone=false:=by
  unfold Ef at hb;cases U:P.funcs[f]? with
  | none=>rw[U] at hb;cases hb
  | some fn=>
   rw[U] at hb;simp only[gQ,ru] at hb;exact⟨fn,rfl,hb.1,by cases ag:fn.body<;>simp_all⟩
 refine⟨seen P b.fn ((Instr.enterLoop b.fn T params as O b.roundOf).events P w #[])++ #[],?_,λe he=>?_⟩
 .have am:=Vg (b:=b) (ds:=mk++ds) T (.inRangeFunc l::k);simp only[fr] at am;have a7:¬fn.name= "runtime.NumGoroutine" :=by simpa using a6
  have a8:¬fn.body=none:=by intro e;rw[e] at al;cases al
  have a9:BL T (.const (.func (.yield l) #[] #[]))=.func (.yield l) #[] #[]:=rfl;simp[G,stepG,stepG.exec,fr,a4,GStep.after,stepG.apply,resolve,am,a5,Deferred.ofValue,invoke,callFunc,U,a7,a8,aq,a9,seen_none]
 .exact mem_seen (by simpa using he)
theorem JO.collected{sz:Nat}(j:Nat)(ap:b.roundOf=none)(O:Aq E H S)(U:S[j]?=some [(sz,.deferred (some []))])
  (h:Aq E H (S.set j [(sz,.deferred none)])->JO J Q b n L ds cs (Aj E H (S.set j [(sz,.deferred none)]))):JO J Q b n L (⟨.collected sz,#[]⟩::ds) cs (Aj E H S):=λT Y todo=>by
 let⟨Z,ac⟩:=Ls O U (.deferred none)
 have ag:lp P (Instr.takeDeferred sz) (Aj E H S) (λa s'=>a=[]/\s'=Aj E H (S.set j [(sz,.deferred none)])) (λ_ _=>False):=by
  unfold Instr.takeDeferred getObj;simp only[bind,Sem.bind,lp,setObj,pure];exact⟨_,DU (i:=0) O U rfl,rfl,⟨_,KX O U,rfl⟩,rfl,rfl,Z⟩
 refine Judge.FF (g':=λl=>G (EJ b T (l++ds) todo) cs) (Instr.takeDeferred sz) rfl rfl (λw a w' ai=>?_) (EI _ ag (λa s' ⟨al,am⟩=>by subst al am;exact h ac T Y todo) (λ_ _ h=>h));refine⟨seen P b.fn ((Instr.takeDeferred sz).events P w #[])++ #[],?_,λe he=>?_⟩;simp[G,stepG,unwind,EJ,ai,GStep.after];exact mem_seen (by simpa using he)
def LJ(f:FuncId)(args caps:Av_):Deferred:={target:=.fn (.func f) caps,args:=args}
theorem JO.Sl{f:FuncId}{c:Code}{vs:Lv_}(am:b.roundOf=none)(O:P.funcs[f]?=some fn)(Y:(fn.name== "runtime.NumGoroutine")=false)(hb:fn.body=some c)(Z:(vs++caps).length<=fn.ntmps){s:St}
  (h:∀T,Has n L T->∀todo,JL J Q (baseD f) fn.ntmps (GQ 0 (vs++caps)) [] [.code c] (EJ b T ds todo::cs) s):JO J Q b n L (LJ f vs.toArray caps.toArray::ds) cs s:=λT ac todo=>by
 have ag:¬fn.name= "runtime.NumGoroutine" :=by simpa using Y
 refine Judge.Dv rfl (λw=>?_) (h T ac todo ((vs++caps).toArray++Array.replicate (fn.ntmps - (vs++caps).length) undef) ⟨by simp;simp at Z;omega,λt v ai=>?_⟩);rw[BV (b:=baseD f) rfl];have:=enter_atD (P:=P) (vs++caps).toArray O hb;simp only[rf] at this;rw[← this];simp[G,stepG,unwind,callDeferred,EJ,LJ,invoke,callFunc,O,ag,hb,GStep.after,seen_none]
 .let⟨_,K⟩:=KF ai;have al:t<(vs++caps).length:=by
   rcases mt t (vs++caps).length with U | U;exact U;simp only[ro] at K;have:=(fx.1 K).1;omega
  rw[pd,qC (by simpa using al)];simp only[ro] at K;rw[pR,K];rfl
theorem ZF{ops:Ao_}{i:Nat}{rest:List Nat}{d:Option Tmp}{x:Operand}{f:FuncId}{args:Array Operand}{ats:Array TypeId}{ty:TypeId}{p:String}{af:Ae_}{g:On_}{vs:Lv_}{s:St}
  (U:ops[i]?=some ⟨d,.defer ⟨.value x,args,ats⟩,ty,p,af,g⟩) (Y:b.roundOf=none) (hw:AY L ops ⟨d,.defer ⟨.value x,args,ats⟩,ty,p,af,g⟩=some true) (O:((b.kind != .early)&&Bo n d)=true)
  (Z:ev L x=some (.func (.func f) #[] caps.toArray)) (ac:evs L args.toList=some vs) (h:JL J Q b n (Ay L d undef) (LJ f vs.toArray caps.toArray::ds) (.inRegion ops rest::k) cs s):
  JL J Q b n L ds (.inRegion ops (i::rest)::k) cs s:=λT K=>by
 simp only[gQ] at O
 have ag:args.map (BL T)=vs.toArray:=by
  rw[← G7 K.GR ac];apply qS;simp
 refine Judge.oper U (Ck K hw) (by simpa using O.1) (.inl Y) ?_;have hd:execOp (BL T) ⟨d,.defer ⟨.value x,args,ats⟩,ty,p,af,g⟩=.pure (.defer (LJ f vs.toArray caps.toArray)):=by
  simp only[execOp,resolve,bind,Sem.bind,Deferred.ofValue,K.ev Z,pure,LJ];rw[ag];simp
 rw[hd];exact h _ (K.put O.2 undef)
end
variable {s:St}{ρ:Operand->Value}{x y z:Operand}{t u e:TypeId}{a:Option Addr}{c:Nat}
section
variable {p:String}
theorem OT(K:P.underlying t=some (.slice e))(O:ρ x=.slice a l c)(U:ρ (.const (.slice none 0 0))=.slice none 0 0):Yl P ⟨d,.binOp .eql t x (.const (.slice none 0 0)) u,ty,p,af,g⟩ ρ s (.bool a.isNone):=by
 refine Gp (sm:=do eqGuard .eql t x (.const (.slice none 0 0)) (ρ x) (ρ (.const (.slice none 0 0)));binOp .eql t (ρ x) (ρ (.const (.slice none 0 0)))) V ?_
 rw[O,U];have Y:lp P (eqGuard .eql t x (.const (.slice none 0 0)) (.slice a l c) (.slice none 0 0)) s (λ_ s'=>s'=s) (λ_ _=>False):=by
  simp[eqGuard,lp,pure]
 refine Az _ _ (EI _ Y ?_ (λ_ _ h=>h));rintro _ _ rfl;have hb:binOp .eql t (.slice a l c) (.slice none 0 0)=(do pure (.bool (← Op.equal t (.slice a l c) (.slice none 0 0)))):=V
 rw[hb];refine Az (x:=Op.equal t (.slice a l c) (.slice none 0 0)) _ ?_;unfold Op.equal Op.maxDepth Op.equalIn;refine Az _ _ (CG K ?_);cases a<;>exact⟨rfl,rfl⟩
end
section
variable {b:Frame}{n:Nat}
end
variable {listed:Array Bool}
variable {v:Value}
section
variable {b:Frame}{n m fuel:Nat}{H:LH}
variable {p:String}
end
def JF(P:Program)(d:Nat):GP:=λg _=>∃q,QuitsD P q d g
def MS(P:Program):Frame:={(default:Frame) with fn:=P.funcs.size,defers:=[],mode:=.panicking [goexitEntry]}
section
variable {P:Program}{F:Fam}{J:Judge P}{Q:GP}{n:Nat}{L L':Env}{ds:Ld_}{k:Li_}{cs:Lf_}{s s':St}{b:Frame}{main:Bool}
theorem Lv.quits{d:Nat}:∀{m:Nat}{g:Goroutine},Lv P (JF P d) m g->∃q,QuitsD P q d g
 | 0,_,h=>h
 | m+1,_,h=>by
  rcases h with h | ⟨K,g',O,h⟩;exact h;obtain⟨q,U⟩:=h.quits;exact⟨q+1,.ctl K O U⟩
theorem QT{d:Nat}{g:Goroutine}(h:(IM P).ok (JF P d) g .quiet):∃q,QuitsD P q d g:=by
 let⟨m,hm⟩:=h V;exact hm.quits
theorem Yq:(IM P).ok (JF P 0) (G (MS P) []) .quiet:=by
 refine Judge.Dv (g':={frame:=MS P,callers:=[],status:=.finished,dying:=none}) V (λw=>?_) ((IM P).stop ⟨0,V,V⟩);have K:(default:Frame).todo=[]:=V;have O:∀(m:FrameMode),Frame.catches P {fn:=P.funcs.size,tmps:=(default:Frame).tmps,todo:=[],defers:=[],mode:=m,kind:=(default:Frame).kind,roundOf:=(default:Frame).roundOf}=false:=λm=>by simp[Frame.catches]
 simp[G,stepG,unwind,MS,goexitEntry,K,O]
theorem Va{ops:Ao_}{i:Nat}{rest:List Nat}{d:Option Tmp}{f:FuncId}{args:Array Operand}{ats:Array TypeId}{ty:TypeId}{pp:String}{af:Ae_}{g:On_}{e:Av_->Sem Value}
  (K:ops[i]?=some ⟨d,.call ⟨.value (.func f),args,ats⟩,ty,pp,af,g⟩) (he:Cf P f e):mayWake P (G (fr b T ds (.inRegion ops (i::rest)::k)) cs)=true:=by
 obtain⟨fn,O,_,hb,_⟩:=he.h;have U:fn.body.isSome=false:=by cases h:fn.body<;>simp_all
 simp[mayWake,G,fr,K,Frame.eval,O,U]
theorem aa{v wt:Nat}(K:1<=v)(O:v<2147483648)(U:wt<=1):IntKind.u64.wrap (Fam.word v wt+18446744069414584320)=Fam.word (v - 1) wt:=by
 simp only[Fam.word,Fam.KK,IntKind.wrap,IntKind.bits,IntKind.signed];simp;omega
theorem bH{v:Nat}(h:v<2147483647):IntKind.u64.wrap (Fam.word v 0+4294967296)=Fam.word (v+1) 0:=by
 simp only[Fam.word,Fam.KK,IntKind.wrap,IntKind.bits,IntKind.signed];simp;omega
theorem word_inj{v wt:Nat}(h:Fam.word v wt=Fam.word v' wt):v=v':=by
 simp only[Fam.word,Fam.KK] at h;omega
theorem bN(ag:ops[i]?=some ⟨d,.call ⟨.value (.func f),#[x,y],ats⟩,ty,pp,af,g⟩)(Z:b.roundOf=none)(hw:AY L ops ⟨d,.call ⟨.value (.func f),#[x,y],ats⟩,ty,pp,af,g⟩=some true)(O:((b.kind != .early)&&Bo n d)=true)
  (he:Cf P f (Extern.Atomic.update (Op.intArith .add) .u64 true)) (ai:ev L x=some (.pointer (some F.sA))) (al:ev L y=some (.int .u64 18446744069414584320))
  (am:JL (A0 P false) (Stop P F .Hs) b n (Ay L d (.int .u64 (Fam.word 0 1))) ds (.inRegion ops rest::k) cs .quiet)
  (ap:∀v wt:Nat,v<2147483647->wt<=1->¬(v=0/\wt=1)->JL (IM P) (JF P 1) b n (Ay L d (.int .u64 (Fam.word v wt))) ds (.inRegion ops rest::k) cs .quiet):
  JL (A0 P false) (Stop P F .HS) b n L ds (.inRegion ops (i::rest)::k) cs .quiet:=λT K=>by
 simp only[gQ] at O
 obtain⟨fn,aq,av,hb,aw,he⟩:=he.h
 refine(A0 P _).stop (Jq rfl rfl rfl rfl (by simp) λv wt sm v' wt' sm' es ay U=>?_)
 simp only[Fam.act] at U
 split at U
 .rename_i Y
  cases U;refine⟨G (fr b (CV T d (.int .u64 (Fam.word (v - 1) wt))) ds (.inRegion ops rest::k)) cs,λw ac=>?_,rfl,?_⟩
  .let⟨c1,_,c3,_⟩:=Js ac;rw[BV Z,BV Z];show stepG P false _ w=_;rw[stepG_add_atomic (a:=⟨T,ds⟩) ag (Ck K hw) (by simpa using O.1) rfl aq av hb aw .u64 he (by rw[Fb];exact K.ev ai) (by rw[Fb];exact K.ev al) c1 c3,aa Y.1 Y.2.1 Y.2.2,OH ac,Et]
   rfl
  .split;rename_i e;obtain⟨rfl,rfl⟩:=e;exact am _ (K.put O.2 _);rename_i e;exact QT (ap (v - 1) wt (by omega) Y.2.2 (by omega) _ (K.put O.2 _))
 .cases U
theorem cB{j:Nat}(ag:s.q=false)(ai:ops[i]?=some ⟨d,.call ⟨.value (.func f),#[x,y],ats⟩,ty,pp,af,g⟩)(Z:b.roundOf=none)(hw:AY L ops ⟨d,.call ⟨.value (.func f),#[x,y],ats⟩,ty,pp,af,g⟩=some true)(O:((b.kind != .early)&&Bo n d)=true)
  (he:Cf P f (Extern.Atomic.update (Op.intArith .add) .u64 true)) (al:ev L x=some (.pointer (some F.sA))) (am:ev L y=some (.int .u64 4294967296))
  (ap:JL (A0 P true) (Stop P F (.Je j)) b n (Ay L d (.int .u64 (Fam.word 1 0))) ds (.inRegion ops rest::k) cs s)
  (aq:∀v:Nat,1<=v->v<2147483647->JL (A0 P true) (Stop P F (.Hy j)) b n (Ay L d (.int .u64 (Fam.word (v+1) 0))) ds (.inRegion ops rest::k) cs s):
  JL (A0 P true) (Stop P F (.I7 j)) b n L ds (.inRegion ops (i::rest)::k) cs s:=λT K=>by
 simp only[gQ] at O
 obtain⟨fn,av,aw,hb,ay,he⟩:=he.h
 refine(A0 P _).stop (Jq rfl rfl rfl ag (by simp) λv wt sm v' wt' sm' es az U=>?_)
 simp only[Fam.act] at U
 split at U
 .rename_i Y
  obtain⟨Y,rfl⟩:=Y;cases U;refine⟨G (fr b (CV T d (.int .u64 (Fam.word (v+1) 0))) ds (.inRegion ops rest::k)) cs,λw ac=>?_,rfl,?_⟩
  .let⟨c1,_,c3,_⟩:=Js ac;rw[BV Z,BV Z];show stepG P true _ w=_;rw[stepG_add_atomic (a:=⟨T,ds⟩) ai (Ck K hw) (by simpa using O.1) rfl av aw hb ay .u64 he (by rw[Fb];exact K.ev al) (by rw[Fb];exact K.ev am) c1 c3,bH Y,OH ac,Et]
   rfl
  .split;rename_i e;subst e;exact ap _ (K.put O.2 _);rename_i e;exact aq v (by omega) Y _ (K.put O.2 _)
 .cases U
theorem gL(ai:ME p=true)(al:if Fam.CZ p=true then s=.quiet else s.q=false)(am:p≠ .FJ)(ap:Fam.Kw p s=s)(aq:∀v wt sm r,F.act p v wt sm=some r->r.1=(v,wt,sm)/\r.2.1=#[Fam.Cn F.sA])
  (av:ops[i]?=some ⟨d,.call ⟨.value (.func f),#[x],ats⟩,ty,pp,af,g⟩) (U:b.roundOf=none) (hw:AY L ops ⟨d,.call ⟨.value (.func f),#[x],ats⟩,ty,pp,af,g⟩=some true) (K:((b.kind != .early)&&Bo n d)=true)
  (he:Cf P f (Extern.Atomic.loadT (.int .u64))) (aw:ev L x=some (.pointer (some F.sA)))
  (h:∀v wt sm r,F.act p v wt sm=some r->∃q,r.2.2=.ph q/\JL (A0 P (Fam.CN p)) (Stop P F q) b n (Ay L d (.int .u64 (Fam.word v wt))) ds (.inRegion ops rest::k) cs s):
  JL (A0 P (Fam.CN p)) (Stop P F p) b n L ds (.inRegion ops (i::rest)::k) cs s:=λT O=>by
 simp only[gQ] at K
 obtain⟨fn,ay,az,hb,a0,he⟩:=he.h
 refine(A0 P _).stop (Jq ai rfl rfl al (λe=>absurd e am) λv wt sm v' wt' sm' es a2 Y=>?_)
 let⟨Z,e2⟩:=aq _ _ _ _ Y
 let⟨q,ac,a1⟩:=h _ _ _ _ Y
 simp only at Z e2 ac
 cases Z
 subst e2 ac
 refine⟨_,λw ag=>?_,rfl,by rw[ap];exact a1 _ (O.put K.2 _)⟩
 let⟨c1,_,_,_⟩:=Js ag
 rw[BV U,BV U,stepG_load_atomic (a:=⟨T,ds⟩) av (Ck O hw) (by simpa using K.1) rfl ay az hb a0 .u64 he (by rw[Fb];exact O.ev aw) c1,Mx ag,Et]
 rfl
theorem gf(ac:ops[i]?=some ⟨d,.call ⟨.value (.func f),#[x,y],ats⟩,ty,pp,af,g⟩)(Y:b.roundOf=none)(hw:AY L ops ⟨d,.call ⟨.value (.func f),#[x,y],ats⟩,ty,pp,af,g⟩=some true)(U:((b.kind != .early)&&Bo n d)=true)
  (he:Cf P f Extern.Atomic.storeT) (ag:ev L x=some (.pointer (some F.sA))) (ai:ev L y=some (.int .u64 0))
  (h:JL (A0 P false) (Stop P F .FJ) b n (Ay L d (.tuple #[])) ds (.inRegion ops rest::k) cs .quiet):
  JL (A0 P false) (Stop P F .HL) b n L ds (.inRegion ops (i::rest)::k) cs .quiet:=λT K=>by
 simp only[gQ] at U
 obtain⟨fn,al,am,hb,ap,he⟩:=he.h
 refine(A0 P _).stop (Jq rfl rfl rfl rfl (by simp) λv wt sm v' wt' sm' es aw O=>?_)
 simp only[Fam.act] at O
 split at O
 .rename_i aq
  obtain⟨rfl,rfl⟩:=aq;cases O;refine⟨_,λw Z=>?_,rfl,h _ (K.put U.2 _)⟩;let⟨c1,_,c3,_⟩:=Js Z;have av:(.int .u64 0:Value)=.int .u64 (Fam.word 0 0):=by simp[Fam.word]
  rw[BV Y,BV Y];show stepG P false _ w=_;rw[stepG_store_atomic (a:=⟨T,ds⟩) ac (Ck K hw) (by simpa using U.1) rfl al am hb ap he (by rw[Fb];exact K.ev ag) (by rw[Fb];exact K.ev ai) c1 c3,av,OH Z,Et]
  rfl
 .cases O
theorem eM{m:Nat}(av:s.q=false)(ac:ops[i]?=some ⟨d,.call ⟨.value (.func f),#[x,y,z],ats⟩,ty,pp,af,g⟩)(Z:b.roundOf=none)(hw:AY L ops ⟨d,.call ⟨.value (.func f),#[x,y,z],ats⟩,ty,pp,af,g⟩=some true)(U:((b.kind != .early)&&Bo n d)=true)
  (he:Cf P f (Extern.Atomic.casT (.int .u64))) (ag:ev L x=some (.pointer (some F.sA))) (ai:ev L y=some (.int .u64 (Fam.word m 0))) (al:ev L z=some (.int .u64 (Fam.word m 1)))
  (aw:JL (A0 P true) (Stop P F .Jc) b n (Ay L d (.bool true)) ds (.inRegion ops rest::k) cs s)
  (ay:JL (A0 P true) (Stop P F (.Gu (m - 1))) b n (Ay L d (.bool false)) ds (.inRegion ops rest::k) cs s):
  JL (A0 P true) (Stop P F (.HV m)) b n L ds (.inRegion ops (i::rest)::k) cs s:=λT K=>by
 simp only[gQ] at U
 obtain⟨fn,am,ap,hb,aq,he⟩:=he.h
 refine(A0 P _).stop (Jq rfl rfl rfl av (by simp) λv wt sm v' wt' sm' es a0 O=>?_)
 simp only[Fam.act] at O
 split at O
 .rename_i az
  obtain⟨_,_,rfl⟩:=az;split at O
  .rename_i e;subst e;cases O;refine⟨_,λw Y=>?_,rfl,aw _ (K.put U.2 _)⟩;let⟨c1,_,c3,_⟩:=Js Y;rw[BV Z,BV Z];show stepG P true _ w=_;rw[stepG_cas_hit (a:=⟨T,ds⟩) ac (Ck K hw) (by simpa using U.1) rfl am ap hb aq .u64 he (by rw[Fb];exact K.ev ag) (by rw[Fb];exact K.ev ai) (by rw[Fb];exact K.ev al) c1 c3,OH Y,Et]
   rfl
  .rename_i e;cases O;refine⟨_,λw Y=>?_,rfl,ay _ (K.put U.2 _)⟩;let⟨c1,_,c3,_⟩:=Js Y;rw[BV Z,BV Z];show stepG P true _ w=_;rw[stepG_cas_miss (a:=⟨T,ds⟩) ac (Ck K hw) (by simpa using U.1) rfl am ap hb aq .u64 he (by rw[Fb];exact K.ev ag) (by rw[Fb];exact K.ev ai) (by rw[Fb];exact K.ev al) c1 c3 (λq=>e (word_inj q)),Mx Y,Et]
   rfl
 .cases O
theorem an{args:Array Operand}{vs:Lv_}(Y:ops[i]?=some ⟨d,.call ⟨.value (.func f),args,ats⟩,ty,pp,af,g⟩)(Z:b.roundOf=none)(hw:AY L ops ⟨d,.call ⟨.value (.func f),args,ats⟩,ty,pp,af,g⟩=some true)(O:((b.kind != .early)&&Bo n d)=true)
  (he:Cf P f Extern.Sync.semrelease) (ag:evs L args.toList=some vs) (ai:vs[0]?=some (.pointer (some F.mA)))
  (h:JL (IM P) (JF P 1) b n (Ay L d (.tuple #[])) ds (.inRegion ops rest::k) cs .quiet):
  JL (A0 P false) (Stop P F .FJ) b n L ds (.inRegion ops (i::rest)::k) cs .quiet:=λT U=>by
 simp only[gQ] at O
 have al:=Va (P:=P) (b:=b) (ds:=ds) (k:=k) (cs:=cs) (rest:=rest) (T:=T) Y he
 obtain⟨fn,am,ap,hb,aq,he⟩:=he.h
 refine(A0 P _).stop (Jq rfl rfl rfl rfl (λ_=>al) λv wt sm v' wt' sm' es ay K=>?_)
 simp only[Fam.act] at K
 split at K
 .rename_i av
  subst av;cases K;refine⟨_,λw ac=>?_,rfl,QT (h _ (U.put O.2 _))⟩;let⟨_,c2,_,c4⟩:=Js ac;rw[BV Z,BV Z];show stepG P false _ w=_;rw[stepG_semrelease (a:=⟨T,ds⟩) Y (Ck U hw) (by simpa using O.1) rfl am ap hb aq he (ad:=F.mA) (by rw[KZ U ag];simpa using ai) c2 c4,Et];have aw:IntKind.u32.wrap (((0:Nat):Int)+1)=((1:Nat):Int):=by decide
  rw[aw,TZ ac]
 .cases K
theorem YA{args:Array Operand}{vs:Lv_}(ap:s.q=false)(ac:ops[i]?=some ⟨d,.call ⟨.value (.func f),args,ats⟩,ty,pp,af,g⟩)(Y:b.roundOf=none)(hw:AY L ops ⟨d,.call ⟨.value (.func f),args,ats⟩,ty,pp,af,g⟩=some true)(Z:((b.kind != .early)&&Bo n d)=true)
  (he:Cf P f Extern.Sync.semacquire) (aq:evs L args.toList=some vs) (av:vs[0]?=some (.pointer (some F.mA)))
  (h:JL (A0 P true) (Stop P F .HM) b n (Ay L d (.tuple #[])) ds (.inRegion ops rest::k) cs s):
  JL (A0 P true) (Stop P F .FV) b n L ds (.inRegion ops (i::rest)::k) cs s:=λT K=>by
 simp only[gQ] at Z
 obtain⟨fn,ag,ai,hb,al,he⟩:=he.h
 have am:(args.map (⟨T,ds⟩:Act).eval)[0]?=some (.pointer (some F.mA)):=by rw[KZ K aq];simpa using av
 refine(A0 P _).stop (HC.stop {
  run:=rfl,offers:=rfl,quiet:=(by simp[Fam.CZ]),live:=λ_=>ap,act:=?_,JE:=(by simp),FF:=?_,go:=(by simp),lk:=(by simp),CI:=(by simp),store:=(by simp),fin:=(by simp)})
 .intro v wt sm v' wt' sm' es az O;simp only[Fam.act] at O;split at O
  .rename_i aw;subst aw;cases O;refine⟨_,λw U=>?_,rfl,h _ (K.put Z.2 _)⟩;let⟨_,c2,_,c4⟩:=Js U;rw[BV Y,BV Y];show stepG P true _ w=_;rw[stepG_semacquire (a:=⟨T,ds⟩) ac (Ck K hw) (by simpa using Z.1) rfl ag ai hb al he (ad:=F.mA) am c2 (by decide) c4,Et];have ay:(((1:Nat):Int) - 1)=((0:Nat):Int):=by decide
   rw[ay,TZ U]
  .cases O
 .intro _ w v wt U;let⟨_,c2,_,c4⟩:=Js U;rw[BV Y];exact stepG_semacquire_wait (a:=⟨T,ds⟩) ac (Ck K hw) rfl ag ai hb al he (ad:=F.mA) am c2
theorem VK{args:Array Operand}{vs:Lv_}(Y:s.q=false)(Z:ops[i]?=some ⟨d,.call ⟨.value (.func f),args,ats⟩,ty,pp,af,g⟩)(U:b.roundOf=none)(hw:AY L ops ⟨d,.call ⟨.value (.func f),args,ats⟩,ty,pp,af,g⟩=some true)(K:((b.kind != .early)&&Bo n d)=true)
  (he:Cf P f (Extern.Race.marked .acquire)) (ac:evs L args.toList=some vs) (ag:vs[0]?=some (.pointer (some F.sA)))
  (h:∀E' f,Le s.E E'->E' F.fd=none->(∀b,E' b≠none->s.H b=none)->(∀k,k<F.n->F.msg k (f k) E')->∀T,Has n (Ay L d (.tuple #[])) T->F.fin (G (fr b T ds (.inRegion ops rest::k)) cs) ⟨E',F.KR s.H f,false⟩):
  JL (A0 P true) (Stop P F .GV) b n L ds (.inRegion ops (i::rest)::k) cs s:=λT O=>by
 simp only[gQ] at K
 obtain⟨fn,ai,al,hb,am,he⟩:=he.h
 refine(A0 P _).stop (HC.stop {
  run:=rfl,offers:=rfl,quiet:=(by simp[Fam.CZ]),live:=λ_=>Y,act:=(by simp[Fam.act]),JE:=(by simp),FF:=(by simp),go:=(by simp),lk:=(by simp),CI:=(by simp),store:=(by simp),fin:=λ_=>?_})
 refine⟨_,λw=>?_,λE' f a1 ap aq av=>h E' f a1 ap aq av _ (O.put K.2 _)⟩
 rw[BV U,BV U,stepG_markAt (a:=⟨T,ds⟩) .acquire (by simp) Z (Ck O hw) (by simpa using K.1) rfl ai al hb am he (ad:=F.sA) (by rw[KZ O ac];simpa using ag),Et]
 rfl
end
variable{fi:Av_}{as:Lv_}
section
variable {P:Program}{F:Fam}{J:Judge P}{Q:GP}{n:Nat}{L L':Env}{ds:Ld_}{k:Li_}{cs:Lf_}{s s':St}{b:Frame}{main:Bool}
theorem Mp(T:Av_)(ds:Ld_):(⟨T,ds⟩:Act).eval=BL T:=funext λx=>Fb T ds x
theorem aT{X:GP}{c:Code}{vs:Lv_}{caps args:Av_}(O:P.funcs[f]?=some fn)(Z:(fn.name== "runtime.NumGoroutine")=false)(hb:fn.body=some c)(ac:args++caps=vs.toArray)(am:vs.length<=fn.ntmps)
  (h:JL (A0 P false) X (baseD f) fn.ntmps (GQ 0 vs) [] [.code c] [MS P] s):Way P false X (born P {target:=.fn (.func f) caps,args:=args}) s:=by
 have ag:¬fn.name= "runtime.NumGoroutine" :=by simpa using Z
 refine Judge.Dv (J:=A0 P false) V (λw=>?_) (h (vs.toArray++Array.replicate (fn.ntmps - vs.length) undef) ⟨by simp;omega,λt v ai=>?_⟩);show stepG P false _ w=_;have U:=enter_atD (P:=P) vs.toArray O hb;rw[BV (b:=baseD f) rfl];simp only[rf] at U;simp[G,born,stepG,unwind,callDeferred,invoke,callFunc,O,ag,hb,GStep.after,seen_none,ac,MS,U]
 .let⟨_,K⟩:=KF ai;have al:t<vs.length:=by
   rcases mt t vs.length with Y | Y;exact Y;simp at K;have:=(fx.1 K).1;omega
  rw[pd,qC (by simpa using al)];simp at K;simp[K]
theorem fu{args:Array Operand}{K:Go.Fn}{O:Av_}(U:Has n L T)(Y:ev L x=some (.func K fi O))(Z:evs L args.toList=some as):
  execOp (BL T) ⟨d,.go ⟨.value x,args,ats⟩,ty,pp,af,g⟩=.pure (.spawn {target:=.fn K O,args:=fi++as.toArray}):=by
 have ac:args.map (BL T)=as.toArray:=by
  rw[← G7 U.GR Z];apply qS;simp
 simp only[execOp,resolve,bind,Sem.bind,Deferred.ofValue,U.ev Y,pure,ac]
theorem fY{j:Nat}{args:Array Operand}{U:Av_}{Y:FuncId}(ag:s.q=false)(ai:ops[i]?=some ⟨d,.go ⟨.value x,args,ats⟩,ty,pp,af,g⟩)(Z:b.roundOf=none)(hw:AY L ops ⟨d,.go ⟨.value x,args,ats⟩,ty,pp,af,g⟩=some true)(K:((b.kind != .early)&&Bo n d)=true)
  (al:ev L x=some (.func (.func Y) fi U)) (am:evs L args.toList=some as)
  (ap:Way P false (Stop P F (F.start j)) (born P {target:=.fn (.func Y) U,args:=fi++as.toArray}) ⟨s.E,λ_=>none,false⟩)
  (aq:JL (A0 P true) (Stop P F (F.EZ j)) b n (Ay L d undef) ds (.inRegion ops rest::k) cs s):
  JL (A0 P true) (Stop P F (.Ge j)) b n L ds (.inRegion ops (i::rest)::k) cs s:=λT O=>by
 simp only[gQ] at K
 have ac:=fu (d:=d) (ats:=ats) (ty:=ty) (pp:=pp) (af:=af) (g:=g) O al am
 refine(A0 P _).stop (HC.stop {
  run:=rfl,offers:=rfl,quiet:=(by simp[Fam.CZ]),live:=λ_=>ag,act:=(by simp[Fam.act]),JE:=(by simp),FF:=(by simp),go:=λav e=>?_,lk:=(by simp),CI:=(by simp),store:=(by simp),fin:=(by simp)})
 cases e
 refine⟨G (fr b (CV T d undef) ds (.inRegion ops rest::k)) cs,_,rfl,rfl,λw=>?_,ap,aq _ (O.put K.2 _)⟩
 rw[BV Z,BV Z,stepG_spawn (a:=⟨T,ds⟩) (w':=w) ai (Ck O hw) (by simpa using K.1) (by rw[Mp,ac];rfl) rfl,listed_none (by rw[Mp,ac];simp[Sem.events_pure']),Et]
theorem JO.V9{j:Nat}(Y:s.q=false)(K:b.roundOf=none)(he:Cf P f (λ_=>do mark .enable;pure Extern.Race.none_))
  (h:JO (A0 P true) (Stop P F (.Ge j)) b n L ds cs s):JO (A0 P true) (Stop P F (.Hy j)) b n L (dcall f #[]::ds) cs s:=λT Z todo=>by
 obtain⟨fn,ac,ag,hb,ai,he⟩:=he.h
 refine(A0 P _).stop (Jq rfl rfl rfl Y (by simp) λv wt sm v' wt' sm' es am O=>?_)
 simp only[Fam.act] at O
 cases O
 refine⟨G (EJ b T ds todo) cs,λw al=>?_,rfl,h T Z todo⟩
 rw[Mz K,Mz K,Mx al]
 exact stepG_unwind_entry (a:=⟨T,dcall f #[]::ds⟩) (v:=.tuple #[]) (evs:=#[Fam.CR .enable]) rfl ac ag hb ai he (by simp[Extern.Race.none_]) (by simp;rfl) (by
  intro x U
  simp at U
  subst U
  exact⟨rfl,λg h=>by cases h⟩)
theorem JO.PD(K:b.roundOf=none)(he:Cf P f (λ_=>do mark .enable;pure Extern.Race.none_))
  (h:JO (IM P) (JF P 0) b n L ds cs .quiet):JO (IM P) (JF P 1) b n L (dcall f #[]::ds) cs .quiet:=λT U todo=>by
 obtain⟨fn,Y,Z,hb,ac,he⟩:=he.h
 refine(IM P).stop ?_
 let⟨q,O⟩:=QT (h T U todo)
 rw[Mz K] at O
 rw[Mz K]
 exact⟨q+1,QuitsD.unwind_mark (a:=⟨T,dcall f #[]::ds⟩) .enable rfl (by simp) rfl Y Z hb ac he O⟩
end
def Xy:BinOp->Int->Int->Option Bool
 | .lss,m,m'=>some (decide (m<m'))
 | .leq,m,m'=>some (decide (m<=m'))
 | .gtr,m,m'=>some (decide (m'<m))
 | .geq,m,m'=>some (decide (m'<=m))
 | .eql,m,m'=>some (decide (m=m'))
 | .neq,m,m'=>some (decide (m≠m'))
 | _,_,_=>none
def LV(L:Env):Op->Option Value
 | .move x=>ev L x
 | .assign x=>ev L x
 | .pick z x y=>match ev L z with
  | some (.bool true)=>ev L x
  | some (.bool false)=>ev L y
  | _=>none
 | .extract x i=>match ev L x with
  | some (.tuple vs)=>vs[i]?
  | _=>none
 | .nilCheck x=>match ev L x with
  | some (.pointer (some a))=>some (.pointer (some a))
  | _=>none
 | .binOp op _ x y _=>match ev L x with
  | some (.int kd m)=>match ev L y with
   | some (.int kd' m')=>if kd=kd' then(match Xy op m m' with | some t=>some (.bool t) | none=>none) else none
   | _=>none
  | _=>none
 | _=>none
theorem df{P:Program}{s:St}{ρ:Operand->Value}{d:Option Tmp}{x y:Operand}{t u ty:TypeId}{p:String}{af:Ae_}{g:On_}{kd:IntKind}{m m':Int}(K:ρ x=.int kd m)(O:ρ y=.int kd m'):Yl P ⟨d,.binOp .neq t x y u,ty,p,af,g⟩ ρ s (.bool (decide (m≠m'))):=by
 have h:=Yl.neq (P:=P) (s:=s) (d:=d) (t:=t) (u:=u) (ty:=ty) (p:=p) (af:=af) (g:=g) K O;simpa using h
theorem PC{P:Program}{L:Env}{ρ:Operand->Value}{s:St}{o:Oper}{v:Value}(K:FA L ρ)(h:LV L o.op=some v):Yl P o ρ s v:=by
 obtain⟨d,op,ty,p,af,g⟩:=o;simp only at h;unfold LV at h;split at h;exact Yl.move (K _ _ h);exact Yl.assign (K _ _ h);split at h;rename_i e;exact Ns (K _ _ e) (K _ _ h);rename_i e;exact Y9 (K _ _ e) (K _ _ h);cases h;split at h;rename_i e;exact Yl.extract (K _ _ e) h;cases h;split at h;rename_i e;cases h;exact Yl.nilCheck (K _ _ e);cases h;split at h;rename_i O;split at h;rename_i U;split at h;rename_i e;subst e;split at h;rename_i e;cases h;unfold Xy at e;split at e;cases e;exact Yl.lss (K _ _ O) (K _ _ U);cases e;exact Yl.leq (K _ _ O) (K _ _ U);cases e;exact Yl.gtr (K _ _ O) (K _ _ U);cases e;exact Yl.geq (K _ _ O) (K _ _ U);cases e;exact Yl.eql (K _ _ O) (K _ _ U);cases e;exact df (K _ _ O) (K _ _ U);cases e;cases h;cases h;cases h;cases h;cases h
def Kr:List Oper->Nat->Option Oper
 | [],_=>none
 | o::_,0=>some o
 | _::os,i+1=>Kr os i
theorem MF:∀(os:List Oper) (i:Nat),Kr os i=os[i]?
 | [],i=>by simp[Kr]
 | _::_,0=>rfl
 | _::os,i+1=>by simp[Kr,MF os i]
def SS(b:Frame)(n:Nat)(L:Env):Li_->Option (Li_×Env)
 | .code (.seq x y)::k=>some (.code x:: .code y::k,L)
 | .code (.block i c)::k=>some (.code c:: .inBlock i::k,L)
 | .code (.scope c)::k=>some (.code c:: .inScope c::k,L)
 | .code .skip::k=>some (k,L)
 | .code (.exit i)::k=>match exitTo i k with
  | some k'=>some (k',L)
  | none=>none
 | .code (.cond c x y)::k=>match ev L c with
  | some (.bool true)=>some (.code x::k,L)
  | some (.bool false)=>some (.code y::k,L)
  | _=>none
 | .code (.region _ ops false)::k=>some (.inRegion ops (List.range ops.size)::k,L)
 | .inBlock _::k=>some (k,L)
 | .inScope _::k=>some (k,L)
 | .inRegion _ []::k=>some (k,L)
 | .inRegion ops (i::rest)::k=>match Kr ops.toList i with
  | some ⟨d,op,ty,p,af,g⟩=>match AY L ops ⟨d,op,ty,p,af,g⟩ with
   | some true=>match BU b n ⟨d,op,ty,p,af,g⟩ with
    | true=>match LV L op with
     | some v=>match d with
      | some d=>some (.inRegion ops rest::k,(d,v)::L)
      | none=>some (.inRegion ops rest::k,L)
     | none=>none
    | false=>none
   | some false=>match Bo n d with
    | true=>match d with
     | some d=>some (.inRegion ops rest::k,(d,undef)::L)
     | none=>some (.inRegion ops rest::k,L)
    | false=>none
   | none=>none
  | none=>none
 | _=>none
def P2(b:Frame)(n:Nat):Nat->Li_->Env->Option (Li_×Env)
 | 0,k,L=>some (k,L)
 | m+1,k,L=>match SS b n L k with
  | some (k',L')=>P2 b n m k' L'
  | none=>none
variable {L':Env}{k':Li_}
section
variable {b:Frame}{n:Nat}
theorem gA(h:SS b n L k=some (k',L'))(K:JL J Q b n L' ds k' cs s):JL J Q b n L ds k cs s:=by
 unfold SS at h;split at h;cases h;exact JL.seq K;cases h;exact JL.block K;cases h;exact JL.scope K;cases h;exact JL.skip K;split at h;rename_i e;cases h;exact JL.exit e K;cases h;split at h;rename_i e;cases h;exact ZQ e K;rename_i e;cases h;exact ZT e K;cases h;cases h;exact JL.region K;cases h;exact OG K;cases h;exact Ya K;cases h;exact JL.done K
 .split at h
  .rename_i d op ty p af g O;rw[MF,qn] at O;split at h
   .rename_i hw;split at h
    .rename_i U;split at h
     .rename_i v Z;cases d with
      | none=>cases h;exact A9 O hw U (λρ Y=>PC Y Z) K
      | some d=>cases h;exact A9 O hw U (λρ Y=>PC Y Z) K
     .cases h
    .cases h
   .rename_i hw;split at h
    .rename_i U;cases d with
     | none=>cases h;exact I1 O hw U K
     | some d=>cases h;exact I1 O hw U K
    .cases h
   .cases h
  .cases h
 .cases h
theorem JL.go(m:Nat)(h:P2 b n m k L=some (k',L'))(K:JL J Q b n L' ds k' cs s):JL J Q b n L ds k cs s:=by
 induction m generalizing k L with
 | zero=>cases h;exact K
 | succ m O=>
  unfold P2 at h;split at h;rename_i e;exact gA e (O h);cases h
end
abbrev As(a o:Nat):Value:=.pointer (some ⟨a,o,none⟩)
abbrev sV{α:Type}(a:Option Addr)(l:List α)(c:Nat):Value:=.slice a l.length c
abbrev fV(n:Nat):Value:=.func (.func n) #[] #[]
abbrev nS:Value:=.slice none 0 0
abbrev A7(r:Nat):Option Addr:=some ⟨r,0,none⟩
open Go.Conc.Lib Go.ConcR.Gen
theorem GG{P:Program}{t:TypeId}{n:Nat}(h:∀w,Sem.run P (Go.sizeOf t) w=.ok n w):Bp P t=some n:=by
 have K:=h default;unfold Bp;simp only[Go.sizeOf,typeInfo,bind,Sem.bind,program,Sem.run] at K;cases hi:P.info? t with
 | none=>rw[hi] at K;simp[stuck,Sem.run,Sem.bind] at K
 | some i=>
  rw[hi] at K;simp[pure,Sem.bind,Sem.run] at K;simp[K]
section
variable {L:WgLink}(H:WgLib P L)
include H
theorem OF:Cf P L.disable (λ_=>do mark .disable;pure Extern.Race.none_):=⟨⟨_,H.f_disable,x_disable_n L,x_disable_b L,x_disable_x L,x_disable_f L⟩⟩
theorem J5:Cf P L.enable (λ_=>do mark .enable;pure Extern.Race.none_):=⟨⟨_,H.f_enable,x_enable_n L,x_enable_b L,x_enable_x L,x_enable_f L⟩⟩
theorem TB:Cf P L.relMerge (Extern.Race.marked .releaseMerge):=⟨⟨_,H.f_relMerge,x_relMerge_n L,x_relMerge_b L,x_relMerge_x L,x_relMerge_f L⟩⟩
theorem QW:Cf P L.acquire (Extern.Race.marked .acquire):=⟨⟨_,H.f_acquire,x_acquire_n L,x_acquire_b L,x_acquire_x L,x_acquire_f L⟩⟩
theorem bK:Cf P L.raceRead (Extern.Race.marked .read):=⟨⟨_,H.f_raceRead,x_raceRead_n L,x_raceRead_b L,x_raceRead_x L,x_raceRead_f L⟩⟩
theorem Y7:Cf P L.raceWrite (Extern.Race.marked .write):=⟨⟨_,H.f_raceWrite,x_raceWrite_n L,x_raceWrite_b L,x_raceWrite_x L,x_raceWrite_f L⟩⟩
theorem VQ:Cf P L.addU64 (Extern.Atomic.update (Op.intArith .add) .u64 true):=⟨⟨_,H.f_addU64,x_addU64_n L,x_addU64_b L,x_addU64_x L,x_addU64_f L⟩⟩
theorem ao:Cf P L.loadU64 (Extern.Atomic.loadT (.int .u64)):=⟨⟨_,H.f_loadU64,x_loadU64_n L,x_loadU64_b L,x_loadU64_x L,x_loadU64_f L⟩⟩
theorem Zt:Cf P L.storeU64 Extern.Atomic.storeT:=⟨⟨_,H.f_storeU64,x_storeU64_n L,x_storeU64_b L,x_storeU64_x L,x_storeU64_f L⟩⟩
theorem cf:Cf P L.casU64 (Extern.Atomic.casT (.int .u64)):=⟨⟨_,H.f_casU64,x_casU64_n L,x_casU64_b L,x_casU64_x L,x_casU64_f L⟩⟩
theorem Za:Cf P L.semrelease Extern.Sync.semrelease:=⟨⟨_,H.f_semrelease,x_semrelease_n L,x_semrelease_b L,x_semrelease_x L,x_semrelease_f L⟩⟩
theorem X7:Cf P L.semacquire Extern.Sync.semacquire:=⟨⟨_,H.f_semacquire,x_semacquire_n L,x_semacquire_b L,x_semacquire_x L,x_semacquire_f L⟩⟩
theorem T0:Cf P L.inBubble (λ_=>pure (.bool false)):=⟨⟨_,H.f_inBubble,x_inBubble_n L,x_inBubble_b L,x_inBubble_x L,x_inBubble_f L⟩⟩
end
variable {tw:TypeId}
section
variable {P:Program}{F:Fam}{J:Judge P}{Q:GP}{n:Nat}{L L':Env}{ds:Ld_}{k:Li_}{cs:Lf_}{s s':St}{b:Frame}{main:Bool}
theorem Yl.to{o:Oper}{ρ:Operand->Value}{v v':Value}(h:Yl P o ρ s v)(e:v=v'):Yl P o ρ s v':=e▸h
theorem NG(aq:ME p=true)(av:if Fam.CZ p=true then s=.quiet else s.q=false)(aw:p≠ .FJ)(ay:∀v wt sm,F.act p v wt sm=some ((v,wt,sm),#[],.ph q))(az:Fam.Kw p s=s)
  (a0:ops[i]?=some ⟨d,.convert t u x,ty,pp,af,g⟩) (U:b.roundOf=none) (hw:AY L ops ⟨d,.convert t u x,ty,pp,af,g⟩=some true) (K:((b.kind != .early)&&Bo n d)=true)
  (Y:P.underlying t=some (.pointer tw)) (hu:P.underlying u=some .unsafePointer) (Z:(P.info? tw).map (λi=>decide (i.size=0))=some false) (a1:ev L x=some (.pointer (some ad))) (hb:ad=F.sA∨ad=F.mA)
  (h:JL (A0 P (Fam.CN p)) (Stop P F q) b n (Ay L d (.pointer (some ad))) ds (.inRegion ops rest::k) cs s):
  JL (A0 P (Fam.CN p)) (Stop P F p) b n L ds (.inRegion ops (i::rest)::k) cs s:=λT O=>by
 simp only[gQ] at K
 refine(A0 P _).stop (Jq aq rfl rfl av (λe=>absurd e aw) λv wt sm v' wt' sm' es a3 ac=>?_)
 rw[ay] at ac;cases ac
 refine⟨_,λw ag=>?_,rfl,by rw[az];exact h _ (O.put K.2 _)⟩
 obtain⟨ai,al⟩:∃ai,w.cell? ad=some ai:=by
  let⟨c1,c2,_,_⟩:=Js ag;rcases hb with e | e<;>rw[e];exact⟨_,c1⟩;exact⟨_,c2⟩
 have am:=run_convert_to_unsafe (P:=P) (w:=w) Y hu Z al;have a2:=events_convert_to_unsafe (P:=P) (w:=w) Y hu Z al;have ap:execOp (⟨T,ds⟩:Act).eval ⟨d,.convert t u x,ty,pp,af,g⟩=(do pure (Next.value (← Go.convert t u (.pointer (some ad))))):=by
  rw[Mp];simp only[execOp,O.ev a1]
 rw[BV U,BV U,stepG_value (a:=⟨T,ds⟩) (v:=.pointer (some ad)) (w':=w) a0 (Ck O hw) (by simpa using K.1) (by rw[ap];simp[am,Result.andThen]),Mx ag,Et];have e2:listed P b.fn ⟨T,ds⟩ ⟨d,.convert t u x,ty,pp,af,g⟩ w=#[]:=by
  unfold listed;rw[ap];simp[am,a2,Result.evThen,seen_none]
 rw[e2]
end
section
variable {P:Program}{F:Fam}{J:Judge P}{Q:GP}{n:Nat}{L L':Env}{ds:Ld_}{k:Li_}{cs:Lf_}{s s':St}{b:Frame}{main:Bool}
def jc(P:Program)(b:Frame)(n:Nat)(L:Env)(d:Option Tmp)(ds:Ld_)(todo:Li_)(cs:Lf_)(U:Frame):Prop:=
 ∀(K:Judge P) (O:GP) (v:Value) (s':St),JL K O b n (Ay L d v) ds todo cs s'->K.ok O (G (U.finish v) cs) s'
theorem HJ{c:Code}(Y:ops[i]?=some ⟨d,.call ⟨.value (.func f),args,ats⟩,ty,pp,af,g⟩)(hw:AY L ops ⟨d,.call ⟨.value (.func f),args,ats⟩,ty,pp,af,g⟩=some true)(O:((b.kind != .early)&&Bo n d)=true)
  (Z:P.funcs[f]?=some fn) (ai:(fn.name== "runtime.NumGoroutine")=false) (hb:fn.body=some c) (al:evs L args.toList=some vs) (az:vs.length<=fn.ntmps)
  (h:∀ac:Frame,jc P b n L d ds (.inRegion ops rest::k) cs ac->JL J Q (base f) fn.ntmps (GQ 0 vs) [] [.code c] (ac::cs) s):
  JL J Q b n L ds (.inRegion ops (i::rest)::k) cs s:=λT U=>by
 simp only[gQ] at O
 have am:args.map (BL T)=vs.toArray:=by
  rw[← G7 U.GR al];apply qS;simp
 refine Judge.oper Y (Ck U hw) (by simpa using O.1) (.inr λc ap=>by cases ap) ?_;have aq:Ef P f=true:=by unfold Ef;rw[Z];simp[ai,hb]
 have hd:lp P (execOp (BL T) ⟨d,.call ⟨.value (.func f),args,ats⟩,ty,pp,af,g⟩) s (upon J Q b T ds ops i rest k cs d) (MO J Q b T ds ops i rest k cs):=by
  simp only[execOp,resolve,bind,Sem.bind,Deferred.ofValue,BL,pure,invoke];have e: #[]++args.map (BL T)++ #[]=vs.toArray:=by rw[am];simp
  rw[e];refine J4 aq ?_;have he:Frame.enter P f vs.toArray .normal=fr (base f) (vs.toArray++Array.replicate (fn.ntmps - vs.length) undef) [] [.code c]:=by
   simp[Frame.enter,fr,Z,hb,base];rfl
  show J.ok Q (G (Frame.enter P f vs.toArray .normal) _) s;rw[he];refine h _ (λa0 a1 v s' av=>?_) _ ⟨by simp;omega,λt v aw=>?_⟩;rw[G6 (o:=⟨d,.call ⟨.value (.func f),args,ats⟩,ty,pp,af,g⟩) _ _ _ _ _ Y];exact av _ (U.put O.2 v)
  .let⟨_,K⟩:=KF aw;have ay:t<vs.length:=by
    rcases mt t vs.length with ag | ag;exact ag;simp at K;have:=(fx.1 K).1;omega
   rw[pd,qC (by simpa using ay)];simp at K;simp[K]
 exact hd
theorem Yl.ext{e:Av_->Sem Value}{v:Value}{ρ:Operand->Value}(he:Cf P f e)(O:args.map ρ=vs.toArray)(h:e vs.toArray=.pure v):Yl P ⟨d,.call ⟨.value (.func f),args,ats⟩,ty,pp,af,g⟩ ρ s v∨ρ (.func f)≠ .func (.func f) #[] #[]:=by
 by_cases K:ρ (.func f)=.func (.func f) #[] #[]
 .left;obtain⟨fn,U,Y,Z,ac,ag⟩:=he.h;unfold Yl;simp only[execOp,resolve,bind,Sem.bind,Deferred.ofValue,K,pure,invoke];have ai: #[]++args.map ρ++ #[]=vs.toArray:=by rw[O];simp
  rw[ai];have al:fn.body=none:=by simpa using Z
  simp only[callFunc,bind,Sem.bind,program,lp,U,Y,al,Option.isNone_none,px,qp,qs,mark,ac,ag,h,pure];exact⟨.inr ⟨f,V⟩,trivial,trivial⟩
 .exact .inr K
theorem JL.ext{e:Av_->Sem Value}{v:Value}(O:ops[i]?=some ⟨d,.call ⟨.value (.func f),args,ats⟩,ty,pp,af,g⟩)(hw:AY L ops ⟨d,.call ⟨.value (.func f),args,ats⟩,ty,pp,af,g⟩=some true)(U:BU b n ⟨d,.call ⟨.value (.func f),args,ats⟩,ty,pp,af,g⟩=true)
  (he:Cf P f e) (Y:evs L args.toList=some vs) (Z:e vs.toArray=.pure v) (h:JL J Q b n (Ay L d v) ds (.inRegion ops rest::k) cs s):JL J Q b n L ds (.inRegion ops (i::rest)::k) cs s:=
 A9 O hw U (λρ K=>by
  have ac:args.map ρ=vs.toArray:=by
   rw[← G7 K Y]
   apply qS;simp
  rcases Yl.ext (s:=s) (d:=d) (ats:=ats) (ty:=ty) (pp:=pp) (af:=af) (g:=g) he ac Z with q | q;exact q
  .exact absurd (K (.func f) _ rfl) q) h
end
section
variable {P:Program}{L:WgLink}(H:WgLib P L){F:Fam}{n:Nat}{M:Env}{ds:Ld_}{k:Li_}{cs:Lf_}{s:St}{b:Frame}
include H
theorem bh(K:ops[i]?=some ⟨d,.call ⟨.value (.func L.uAdd),#[x,y],ats⟩,ty,pp,af,g⟩)(hw:AY M ops ⟨d,.call ⟨.value (.func L.uAdd),#[x,y],ats⟩,ty,pp,af,g⟩=some true)(O:((b.kind != .early)&&Bo n d)=true)
  (U:ev M x=some (.pointer (some F.sA))) (Y:ev M y=some (.int .u64 18446744069414584320))
  (Z:JL (A0 P false) (Stop P F .Hs) b n (Ay M d (.int .u64 (Fam.word 0 1))) ds (.inRegion ops rest::k) cs .quiet)
  (ac:∀v wt:Nat,v<2147483647->wt<=1->¬(v=0/\wt=1)->JL (IM P) (JF P 1) b n (Ay M d (.int .u64 (Fam.word v wt))) ds (.inRegion ops rest::k) cs .quiet):
  JL (A0 P false) (Stop P F .HS) b n M ds (.inRegion ops (i::rest)::k) cs .quiet:=by
 refine HJ (vs:=[.pointer (some F.sA),.int .u64 18446744069414584320]) K hw O H.f_uAdd (nm_uAdd L) V (by simp[evs,U,Y]) (pt V) λam back=>JL.go 8 V (A9 V V V (λρ h=>Yl.fieldAddr H.underlying_tAU V (GG H.sizeOf_tU64) (h _ _ V)) ?_);refine JL.go 1 V (bN V V V V (VQ H) V V ?_ λv wt ag ai al=>?_);refine A9 V V V (λρ h=>Yl.assign (h _ _ V)) (JL.done ?_);exact JL.ret V V (BO.one H.f_uAdd V V) (back _ _ _ _ Z);refine A9 V V V (λρ h=>Yl.assign (h _ _ V)) (JL.done ?_);exact JL.ret V V (BO.one H.f_uAdd V V) (back _ _ _ _ (ac v wt ag ai al))
theorem aZ{j:Nat}(K:s.q=false)(O:ops[i]?=some ⟨d,.call ⟨.value (.func L.uAdd),#[x,y],ats⟩,ty,pp,af,g⟩)(hw:AY M ops ⟨d,.call ⟨.value (.func L.uAdd),#[x,y],ats⟩,ty,pp,af,g⟩=some true)(U:((b.kind != .early)&&Bo n d)=true)
  (Y:ev M x=some (.pointer (some F.sA))) (Z:ev M y=some (.int .u64 4294967296))
  (ac:JL (A0 P true) (Stop P F (.Je j)) b n (Ay M d (.int .u64 (Fam.word 1 0))) ds (.inRegion ops rest::k) cs s)
  (ag:∀v:Nat,1<=v->v<2147483647->JL (A0 P true) (Stop P F (.Hy j)) b n (Ay M d (.int .u64 (Fam.word (v+1) 0))) ds (.inRegion ops rest::k) cs s):
  JL (A0 P true) (Stop P F (.I7 j)) b n M ds (.inRegion ops (i::rest)::k) cs s:=by
 refine HJ (vs:=[.pointer (some F.sA),.int .u64 4294967296]) O hw U H.f_uAdd (nm_uAdd L) V (by simp[evs,Y,Z]) (pt V) λam back=>JL.go 8 V (A9 V V V (λρ h=>Yl.fieldAddr H.underlying_tAU V (GG H.sizeOf_tU64) (h _ _ V)) ?_);refine JL.go 1 V (cB K V V V V (VQ H) V V ?_ λv ai al=>?_);refine A9 V V V (λρ h=>Yl.assign (h _ _ V)) (JL.done ?_);exact JL.ret V V (BO.one H.f_uAdd V V) (back _ _ _ _ ac);refine A9 V V V (λρ h=>Yl.assign (h _ _ V)) (JL.done ?_);exact JL.ret V V (BO.one H.f_uAdd V V) (back _ _ _ _ (ag v ai al))
theorem JL.uLoad(K:ME p=true)(O:if Fam.CZ p=true then s=.quiet else s.q=false)(U:p≠ .FJ)(Y:Fam.Kw p s=s)(Z:∀v wt sm r,F.act p v wt sm=some r->r.1=(v,wt,sm)/\r.2.1=#[Fam.Cn F.sA])(ac:ops[i]?=some ⟨d,.call ⟨.value (.func L.uLoad),#[x],ats⟩,ty,pp,af,g⟩)(hw:AY M ops ⟨d,.call ⟨.value (.func L.uLoad),#[x],ats⟩,ty,pp,af,g⟩=some true)(ag:((b.kind != .early)&&Bo n d)=true)
  (ai:ev M x=some (.pointer (some F.sA)))
  (h:∀v wt sm r,F.act p v wt sm=some r->∃q,r.2.2=.ph q/\JL (A0 P (Fam.CN p)) (Stop P F q) b n (Ay M d (.int .u64 (Fam.word v wt))) ds (.inRegion ops rest::k) cs s):
  JL (A0 P (Fam.CN p)) (Stop P F p) b n M ds (.inRegion ops (i::rest)::k) cs s:=by
 refine HJ (vs:=[.pointer (some F.sA)]) ac hw ag H.f_uLoad (nm_uLoad L) V (by simp[evs,ai]) (pt V) λaq back=>JL.go 8 V (A9 V V V (λρ h=>Yl.fieldAddr H.underlying_tAU V (GG H.sizeOf_tU64) (h _ _ V)) ?_);refine gL K O U Y Z V V V V (ao H) V λv wt sm r al=>?_;let⟨q,am,ap⟩:=h v wt sm r al;refine⟨q,am,?_⟩;refine A9 V V V (λρ h=>Yl.assign (h _ _ V)) (JL.done ?_);exact JL.ret V V (BO.one H.f_uLoad V V) (back _ _ _ _ ap)
theorem JL.uStore(K:ops[i]?=some ⟨d,.call ⟨.value (.func L.uStore),#[x,y],ats⟩,ty,pp,af,g⟩)(hw:AY M ops ⟨d,.call ⟨.value (.func L.uStore),#[x,y],ats⟩,ty,pp,af,g⟩=some true)(O:((b.kind != .early)&&Bo n d)=true)
  (U:ev M x=some (.pointer (some F.sA))) (Y:ev M y=some (.int .u64 0))
  (h:JL (A0 P false) (Stop P F .FJ) b n (Ay M d (.tuple #[])) ds (.inRegion ops rest::k) cs .quiet):
  JL (A0 P false) (Stop P F .HL) b n M ds (.inRegion ops (i::rest)::k) cs .quiet:=by
 refine HJ (vs:=[.pointer (some F.sA),.int .u64 0]) K hw O H.f_uStore (nm_uStore L) V (by simp[evs,U,Y]) (pt V) λZ back=>JL.go 3 V (A9 V V V (λρ h=>Yl.fieldAddr H.underlying_tAU V (GG H.sizeOf_tU64) (h _ _ V)) ?_);refine JL.go 1 V (gf V V V V (Zt H) V V ?_);exact JL.done (JL.fin V V (BO.none H.f_uStore V) (back _ _ _ _ h))
theorem JL.uCas{m:Nat}(K:s.q=false)(O:ops[i]?=some ⟨d,.call ⟨.value (.func L.uCas),#[x,y,z],ats⟩,ty,pp,af,g⟩)(hw:AY M ops ⟨d,.call ⟨.value (.func L.uCas),#[x,y,z],ats⟩,ty,pp,af,g⟩=some true)(U:((b.kind != .early)&&Bo n d)=true)
  (Y:ev M x=some (.pointer (some F.sA))) (Z:ev M y=some (.int .u64 (Fam.word m 0))) (ac:ev M z=some (.int .u64 (Fam.word m 1)))
  (ag:JL (A0 P true) (Stop P F .Jc) b n (Ay M d (.bool true)) ds (.inRegion ops rest::k) cs s)
  (ai:JL (A0 P true) (Stop P F (.Gu (m - 1))) b n (Ay M d (.bool false)) ds (.inRegion ops rest::k) cs s):
  JL (A0 P true) (Stop P F (.HV m)) b n M ds (.inRegion ops (i::rest)::k) cs s:=by
 refine HJ (vs:=[.pointer (some F.sA),.int .u64 (Fam.word m 0),.int .u64 (Fam.word m 1)]) O hw U H.f_uCas (nm_uCas L) V (by simp[evs,Y,Z,ac]) (pt V) λal back=>JL.go 8 V (A9 V V V (λρ h=>Yl.fieldAddr H.underlying_tAU V (GG H.sizeOf_tU64) (h _ _ V)) ?_);refine JL.go 2 V (eM (m:=m) K V V V V (cf H) V V V ?_ ?_);refine A9 V V V (λρ h=>Yl.assign (h _ _ V)) (JL.done ?_);exact JL.ret V V (BO.one H.f_uCas V V) (back _ _ _ _ ag);refine A9 V V V (λρ h=>Yl.assign (h _ _ V)) (JL.done ?_);exact JL.ret V V (BO.one H.f_uCas V V) (back _ _ _ _ ai)
end
theorem MJ{v wt:Nat}(K:v<2147483648)(O:wt<=1):IntKind.u64.wrap (BitVec.ofInt IntKind.u64.bits (Fam.word v wt)&&& BitVec.ofInt IntKind.u64.bits 2147483648).toNat=0:=by
 have:=Go.ConcN.st_flag v wt K O;simpa [bits,Fam.word,Fam.KK] using this
theorem MV{v wt:Nat}(K:v<2147483648)(O:wt<=1):IntKind.u64.wrap (BitVec.ofInt IntKind.u64.bits (Fam.word v wt)&&& BitVec.ofInt IntKind.u64.bits 2147483647).toNat=(wt:Int):=by
 have:=Go.ConcN.st_waiters v wt K O;simpa [bits,Fam.word,Fam.KK] using this
theorem Mv{v wt:Nat}(K:wt<=1):(Fam.word v wt).fdiv (2^(min (32:Int).toNat IntKind.u64.bits))=(v:Int):=by
 have e:(2:Int)^(min (32:Int).toNat IntKind.u64.bits)=4294967296:=by decide
 rw[e,rr _ (by decide)];simp only[Fam.word,Fam.KK];omega
theorem wrap_i32{v:Nat}(K:v<2147483648):IntKind.i32.wrap (v:Int)=v:=by
 simp only[IntKind.wrap,IntKind.bits,IntKind.signed];simp;split<;>omega
theorem wrap_u32{v:Nat}(K:v<=1):IntKind.u32.wrap (v:Int)=v:=by
 simp only[IntKind.wrap,IntKind.bits,IntKind.signed];simp;omega
theorem ZB{F:Fam}:∀v wt sm r,F.act .Hs v wt sm=some r->r.1=(v,wt,sm)/\r.2.1=#[Fam.Cn F.sA]:=by
 intro v wt sm r h;simp only[Fam.act] at h;split at h;rename_i K;obtain⟨rfl,rfl⟩:=K;cases h;exact⟨V,V⟩;cases h
theorem Z9{F:Fam}{v wt:Nat}{r}(h:F.act .Hs v wt sm=some r):v=0/\wt=1/\r.2.2=.ph .HL:=by
 simp only[Fam.act] at h;split at h;rename_i K;cases h;exact⟨K.1,K.2,V⟩;cases h
section
variable {P:Program}{L:WgLink}(H:WgLib P L){F:Fam}{n:Nat}{M:Env}{ds:Ld_}{k:Li_}{cs:Lf_}{s:St}{b:Frame}
include H
theorem Y5(U:s.q=false)(Y:ops[i]?=some ⟨d,.call ⟨.value (.func L.add),#[x,y],ats⟩,ty,pp,af,g⟩)(hw:AY M ops ⟨d,.call ⟨.value (.func L.add),#[x,y],ats⟩,ty,pp,af,g⟩=some true)(Z:((b.kind != .early)&&Bo n d)=true)
  (ac:ev M x=some (.pointer (some F.sA))) (ag:ev M y=some (.int .i64 (-1)))
  (h:JL (IM P) (JF P 0) b n (Ay M d (.tuple #[])) ds (.inRegion ops rest::k) cs .quiet):
  JL (A0 P false) (Stop P F .Iu) b n M ds (.inRegion ops (i::rest)::k) cs s:=by
 refine HJ (vs:=[.pointer (some F.sA),.int .i64 (-1)]) Y hw Z H.f_add (nm_add L) V (by simp[evs,ac,ag]) (pt V) λal back=>JL.go 11 V (NG (p:=.Iu) (q:=.Hc) (ad:=F.sA) V U (by simp) (λ_ _ _=>V) V V V V V H.underlying_tWgP H.underlying_tUP H.room_tWg V (.inl V) ?_)
 refine Q7 (p:=.Hc) (q:=.Jz) (mk:=.releaseMerge) (ad:=F.sA) (vs:=[.pointer (some F.sA)]) V U (by simp) (λ_ _ _=>V) V V V V (by simp) (TB H) V V (JL.go 3 V ?_);refine Ny (p:=.Jz) (q:=.HS) V V (by simp) (λ_ _ _=>V) V V V V V (by simp) (OF H) (JL.go 2 V ?_);refine JL.defer (vs:=[]) V V V V V (JL.go 8 V ?_);refine JL.ext (vs:=[]) V V V (T0 H) V V (JL.go 7 V ?_);refine A9 V V V (λρ h=>Yl.fieldAddr H.underlying_tWg V (GG H.sizeOf_tAU) (h _ _ V)) (JL.go 1 V ?_);refine A9 V V V (λρ h=>FI H.underlying_t3 H.underlying_tU64 (h _ _ V)) ?_
 refine A9 (v:=.int .u64 18446744069414584320) V V V (λρ h=>(Yl.shl (h _ _ V) (h _ _ V) (by decide)).to (pB _ (by decide))) (bh H V V V V V ?_ λv wt am K ap=>?_)
 .refine A9 V V V (λρ h=>Yl.assign (h _ _ V)) (JL.go 5 V ?_);refine A9 (v:=.int .u64 0) V V V (λρ h=>(Yl.and (h _ _ V) (h _ _ V)).to (pB _ (MJ (v:=0) (wt:=1) (by decide) (by decide)))) (A9 V V V (λρ h=>Yl.neq (h _ _ V) (h _ _ V)) ?_);refine JL.go 10 V (A9 (v:=.int .u64 (0:Nat)) V V V (λρ h=>(Yl.shr (h _ _ V) (h _ _ V) (by decide)).to (pB _ (Mv (v:=0) (wt:=1) (by decide)))) ?_);refine A9 (v:=.int .i32 (0:Nat)) V V V (λρ h=>(FI H.underlying_tU64 H.underlying_t21 (h _ _ V)).to (pB _ (wrap_i32 (by decide)))) ?_
  refine JL.go 5 V (A9 (v:=.int .u64 (1:Nat)) V V V (λρ h=>(Yl.and (h _ _ V) (h _ _ V)).to (pB _ (MV (v:=0) (wt:=1) (by decide) (by decide)))) ?_);refine A9 (v:=.int .u32 (1:Nat)) V V V (λρ h=>(FI H.underlying_tU64 H.underlying_tU32 (h _ _ V)).to (pB _ (wrap_u32 (by decide)))) ?_
  refine JL.go 30 V (A9 V V V (λρ h=>Yl.neq (h _ _ V) (h _ _ V)) ?_);refine JL.go 30 V (A9 V V V (λρ h=>Yl.fieldAddr H.underlying_tWg V (GG H.sizeOf_tAU) (h _ _ V)) ?_);refine JL.uLoad H (p:=.Hs) V V (by simp) V ZB V V V V λv wt sm r ai=>?_;obtain⟨rfl,rfl,e⟩:=Z9 ai;refine⟨.HL,e,?_⟩;refine JL.go 1 V (A9 (v:=.bool false) V V V (λρ h=>(Yl.neq (h _ _ V) (h _ _ V)).to (by simp)) ?_);refine JL.go 7 V (A9 V V V (λρ h=>Yl.fieldAddr H.underlying_tWg V (GG H.sizeOf_tAU) (h _ _ V)) ?_);refine JL.uStore H V V V V V (JL.go 9 V ?_);refine Jo (JL.go 4 V ?_);refine A9 V V V (λρ h=>Yl.neq (h _ _ V) (h _ _ V)) (JL.go 8 V ?_);refine A9 V V V (λρ h=>Yl.fieldAddr H.underlying_tWg V (GG H.sizeOf_tU32) (h _ _ V)) (an (vs:=[.pointer (some F.mA),.bool false,.int .i64 0]) V V V V (Za H) V V ?_);refine JL.go 4 V (A9 (v:=.int .u32 ((0:Nat):Int)) V V V (λρ h=>(Yl.sub (h _ _ V) (h _ _ V)).to (pB _ (by decide))) ?_);refine JL.go 2 V (JL.again ?_);refine JL.go 4 V (A9 V V V (λρ h=>Yl.neq (h _ _ V) (h _ _ V)) ?_);refine JL.go 3 V (JL.out V (JO.PD V (J5 H) (JO.leave V (BO.none H.f_add V) (back _ _ _ _ h))))
 .refine A9 V V V (λρ h=>Yl.assign (h _ _ V)) (JL.go 5 V ?_);refine A9 (v:=.int .u64 0) V V V (λρ h=>(Yl.and (h _ _ V) (h _ _ V)).to (pB _ (MJ (v:=v) (wt:=wt) (by omega) K))) (A9 V V V (λρ h=>Yl.neq (h _ _ V) (h _ _ V)) ?_);refine JL.go 10 V (A9 (v:=.int .u64 (v:Nat)) V V V (λρ h=>(Yl.shr (h _ _ V) (h _ _ V) (by decide)).to (pB _ (Mv (v:=v) (wt:=wt) K))) ?_);refine A9 (v:=.int .i32 (v:Nat)) V V V (λρ h=>(FI H.underlying_tU64 H.underlying_t21 (h _ _ V)).to (pB _ (wrap_i32 (by omega)))) ?_
  refine JL.go 5 V (A9 (v:=.int .u64 (wt:Nat)) V V V (λρ h=>(Yl.and (h _ _ V) (h _ _ V)).to (pB _ (MV (v:=v) (wt:=wt) (by omega) K))) ?_);refine A9 (v:=.int .u32 (wt:Nat)) V V V (λρ h=>(FI H.underlying_tU64 H.underlying_tU32 (h _ _ V)).to (pB _ (wrap_u32 K))) ?_
  refine JL.go 22 V (A9 (v:=.bool false) V V V (λρ h=>(Yl.lss (h _ _ V) (h _ _ V)).to (by simp)) ?_);refine JL.go 6 V ?_;by_cases O:wt=0;refine A9 V V V (λρ h=>Yl.move (h _ _ V)) (A9 (v:=.bool false) V V V (λρ h=>(Yl.neq (h _ _ V) (h _ _ V)).to (by simp[O])) ?_);refine JL.go 16 V ?_;by_cases aq:0<v;refine A9 V V V (λρ h=>Yl.move (h _ _ V)) (A9 (v:=.bool true) V V V (λρ h=>(Yl.gtr (h _ _ V) (h _ _ V)).to (by simp<;>omega)) ?_);refine JL.go 6 V (IJ V (JO.PD V (J5 H) (JO.leave V (BO.none H.f_add V) (back _ _ _ _ h))));refine A9 V V V (λρ h=>Yl.move (h _ _ V)) (A9 (v:=.bool false) V V V (λρ h=>(Yl.gtr (h _ _ V) (h _ _ V)).to (by simp<;>omega)) ?_);refine JL.go 2 V (A9 (v:=.bool true) V V V (λρ h=>(Yl.eql (h _ _ V) (h _ _ V)).to (by simp[O])) ?_);refine JL.go 3 V (IJ V (JO.PD V (J5 H) (JO.leave V (BO.none H.f_add V) (back _ _ _ _ h))));refine A9 V V V (λρ h=>Yl.move (h _ _ V)) (A9 (v:=.bool true) V V V (λρ h=>(Yl.neq (h _ _ V) (h _ _ V)).to (by simp[O])) ?_);refine JL.go 17 V (A9 (v:=.bool true) V V V (λρ h=>(Yl.gtr (h _ _ V) (h _ _ V)).to (by simp<;>omega)) ?_);refine JL.go 6 V (IJ V (JO.PD V (J5 H) (JO.leave V (BO.none H.f_add V) (back _ _ _ _ h))))
theorem Zw{j:Nat}(K:s.q=false)(O:ops[i]?=some ⟨d,.call ⟨.value (.func L.add),#[x,y],ats⟩,ty,pp,af,g⟩)(hw:AY M ops ⟨d,.call ⟨.value (.func L.add),#[x,y],ats⟩,ty,pp,af,g⟩=some true)(U:((b.kind != .early)&&Bo n d)=true)
  (Y:ev M x=some (.pointer (some F.sA))) (Z:ev M y=some (.int .i64 1))
  (h:JL (A0 P true) (Stop P F (.Ge j)) b n (Ay M d (.tuple #[])) ds (.inRegion ops rest::k) cs s):
  JL (A0 P true) (Stop P F (.GW j)) b n M ds (.inRegion ops (i::rest)::k) cs s:=by
 refine HJ (vs:=[.pointer (some F.sA),.int .i64 1]) O hw U H.f_add (nm_add L) V (by simp[evs,Y,Z]) (pt V) λac back=>JL.go 12 V (Ny (p:=.GW j) (q:=.I7 j) V K (by simp) (λ_ _ _=>V) V V V V V (by simp) (OF H) ?_);refine JL.go 2 V (JL.defer (vs:=[]) V V V V V ?_);refine JL.go 8 V (JL.ext (vs:=[]) V V V (T0 H) V V ?_);refine JL.go 7 V (A9 V V V (λρ h=>Yl.fieldAddr H.underlying_tWg V (GG H.sizeOf_tAU) (h _ _ V)) ?_);refine JL.go 1 V (A9 V V V (λρ h=>FI H.underlying_t3 H.underlying_tU64 (h _ _ V)) ?_)
 refine A9 (v:=.int .u64 4294967296) V V V (λρ h=>(Yl.shl (h _ _ V) (h _ _ V) (by decide)).to (pB _ (by decide))) (aZ H K V V V V V ?_ λv ag ai=>?_)
 .refine A9 V V V (λρ h=>Yl.assign (h _ _ V)) (JL.go 5 V ?_);refine A9 (v:=.int .u64 0) V V V (λρ h=>(Yl.and (h _ _ V) (h _ _ V)).to (pB _ (MJ (v:=1) (wt:=0) (by decide) (by decide)))) (A9 V V V (λρ h=>Yl.neq (h _ _ V) (h _ _ V)) ?_);refine JL.go 10 V (A9 (v:=.int .u64 (1:Nat)) V V V (λρ h=>(Yl.shr (h _ _ V) (h _ _ V) (by decide)).to (pB _ (Mv (v:=1) (wt:=0) (by decide)))) ?_);refine A9 (v:=.int .i32 (1:Nat)) V V V (λρ h=>(FI H.underlying_tU64 H.underlying_t21 (h _ _ V)).to (pB _ (wrap_i32 (by decide)))) ?_
  refine JL.go 5 V (A9 (v:=.int .u64 (0:Nat)) V V V (λρ h=>(Yl.and (h _ _ V) (h _ _ V)).to (pB _ (MV (v:=1) (wt:=0) (by decide) (by decide)))) ?_);refine A9 (v:=.int .u32 (0:Nat)) V V V (λρ h=>(FI H.underlying_tU64 H.underlying_tU32 (h _ _ V)).to (pB _ (wrap_u32 (by decide)))) ?_
  refine JL.go 12 V (A9 (v:=.int .i32 1) V V V (λρ h=>(FI H.underlying_t3 H.underlying_t21 (h _ _ V)).to (pB _ (by decide))) ?_)
  refine A9 (v:=.bool true) V V V (λρ h=>(Yl.eql (h _ _ V) (h _ _ V)).to (by simp)) (JL.go 6 V ?_);refine A9 V V V (λρ h=>Yl.fieldAddr H.underlying_tWg V (GG H.sizeOf_tU32) (h _ _ V)) (NG (p:=.Je j) (q:=.Im j) (ad:=F.mA) V K (by simp) (λ_ _ _=>V) V V V V V H.underlying_tPU32 H.underlying_tUP H.room_tU32 V (.inr V) ?_)
  refine Q7 (p:=.Im j) (q:=.Hy j) (mk:=.read) (ad:=F.mA) (vs:=[.pointer (some F.mA)]) V K (by simp) (λ_ _ _=>V) V V V V (by simp) (bK H) V V (JL.go 5 V ?_);refine A9 (v:=.bool false) V V V (λρ h=>(Yl.lss (h _ _ V) (h _ _ V)).to (by simp)) (JL.go 7 V ?_);refine A9 (v:=.bool false) V V V (λρ h=>(Yl.neq (h _ _ V) (h _ _ V)).to (by simp)) (JL.go 17 V ?_);refine A9 (v:=.bool true) V V V (λρ h=>(Yl.gtr (h _ _ V) (h _ _ V)).to (by simp)) (JL.go 6 V ?_);exact IJ V (JO.V9 K V (J5 H) (JO.leave V (BO.none H.f_add V) (back _ _ _ _ h)))
 .refine A9 V V V (λρ h=>Yl.assign (h _ _ V)) (JL.go 5 V ?_);refine A9 (v:=.int .u64 0) V V V (λρ h=>(Yl.and (h _ _ V) (h _ _ V)).to (pB _ (MJ (v:=(v+1)) (wt:=0) (by omega) (by decide)))) (A9 V V V (λρ h=>Yl.neq (h _ _ V) (h _ _ V)) ?_);refine JL.go 10 V (A9 (v:=.int .u64 ((v+1):Nat)) V V V (λρ h=>(Yl.shr (h _ _ V) (h _ _ V) (by decide)).to (pB _ (Mv (v:=(v+1)) (wt:=0) (by decide)))) ?_);refine A9 (v:=.int .i32 ((v+1):Nat)) V V V (λρ h=>(FI H.underlying_tU64 H.underlying_t21 (h _ _ V)).to (pB _ (wrap_i32 (by omega)))) ?_
  refine JL.go 5 V (A9 (v:=.int .u64 (0:Nat)) V V V (λρ h=>(Yl.and (h _ _ V) (h _ _ V)).to (pB _ (MV (v:=(v+1)) (wt:=0) (by omega) (by decide)))) ?_);refine A9 (v:=.int .u32 (0:Nat)) V V V (λρ h=>(FI H.underlying_tU64 H.underlying_tU32 (h _ _ V)).to (pB _ (wrap_u32 (by decide)))) ?_
  refine JL.go 12 V (A9 (v:=.int .i32 1) V V V (λρ h=>(FI H.underlying_t3 H.underlying_t21 (h _ _ V)).to (pB _ (by decide))) ?_)
  refine A9 (v:=.bool false) V V V (λρ h=>(Yl.eql (h _ _ V) (h _ _ V)).to (by simp<;>omega)) (JL.go 8 V ?_);refine A9 (v:=.bool false) V V V (λρ h=>(Yl.lss (h _ _ V) (h _ _ V)).to (by simp<;>omega)) (JL.go 7 V ?_);refine A9 (v:=.bool false) V V V (λρ h=>(Yl.neq (h _ _ V) (h _ _ V)).to (by simp)) (JL.go 17 V ?_);refine A9 (v:=.bool true) V V V (λρ h=>(Yl.gtr (h _ _ V) (h _ _ V)).to (by simp<;>omega)) (JL.go 6 V ?_);exact IJ V (JO.V9 K V (J5 H) (JO.leave V (BO.none H.f_add V) (back _ _ _ _ h)))
omit H in
theorem Zu{m:Nat}:∀v wt sm r,F.act (.Gu m) v wt sm=some r->r.1=(v,wt,sm)/\r.2.1=#[Fam.Cn F.sA]:=by
 intro v wt sm r h;simp only[Fam.act] at h;split at h;rename_i K;obtain⟨_,rfl⟩:=K;cases h;exact⟨V,V⟩;cases h
omit H in
theorem aN{m v wt:Nat}{r}(h:F.act (.Gu m) v wt sm=some r):v<=m/\wt=0/\r.2.2=if v=0 then .ph .GA else .ph (.HV v):=by
 simp only[Fam.act] at h;split at h;rename_i K;cases h;exact⟨K.1,K.2,V⟩;cases h
omit H in
theorem Yr:∀v wt sm r,F.act .HM v wt sm=some r->r.1=(v,wt,sm)/\r.2.1=#[Fam.Cn F.sA]:=by
 intro v wt sm r h;simp only[Fam.act] at h;split at h;rename_i K;obtain⟨rfl,rfl⟩:=K;cases h;exact⟨V,V⟩;cases h
omit H in
theorem Zg{v wt:Nat}{r}(h:F.act .HM v wt sm=some r):v=0/\wt=0/\r.2.2=.ph .GA:=by
 simp only[Fam.act] at h;split at h;rename_i K;cases h;exact⟨K.1,K.2,V⟩;cases h
omit H in
theorem ZH{v:Nat}(K:v<2147483648):IntKind.u64.wrap (Fam.word v 0+1)=Fam.word v 1:=by
 simp only[Fam.word,Fam.KK,IntKind.wrap,IntKind.bits,IntKind.signed];simp;omega
theorem JL.wait(am:F.n<2147483648)(K:s.q=false)(ap:ops[i]?=some ⟨d,.call ⟨.value (.func L.wait),#[x],ats⟩,ty,pp,af,g⟩)(hw:AY M ops ⟨d,.call ⟨.value (.func L.wait),#[x],ats⟩,ty,pp,af,g⟩=some true)(aq:((b.kind != .early)&&Bo n d)=true)
  (av:ev M x=some (.pointer (some F.sA)))
  {Q:GP}(ai:∀g s,(Ho P).ok Q g s->F.fin g s)
  (h:∀E' f,Le s.E E'->E' F.fd=none->(∀b,E' b≠none->s.H b=none)->(∀k,k<F.n->F.msg k (f k) E')->JL (Ho P) Q b n (Ay M d (.tuple #[])) ds (.inRegion ops rest::k) cs ⟨E',F.KR s.H f,false⟩):
  JL (A0 P true) (Stop P F .DF) b n M ds (.inRegion ops (i::rest)::k) cs s:=by
 refine HJ (vs:=[.pointer (some F.sA)]) ap hw aq H.f_wait (nm_wait L) V (by simp[evs,av]) (pt V) λaz back=>JL.go 3 V (Ny (p:=.DF) (q:=.Gu F.n) V K (by simp) (λ_ _ _=>V) V V V V V (by simp) (OF H) ?_);refine JL.go 2 V (Jo ?_);refine Fz (L':=[(0,.pointer (some F.sA))]) ⟨V,trivial⟩ ?_;generalize F.n=m at am ⊢
 induction m using Nat.strongRecOn with
 | _ m aw=>?_
 refine JL.go 5 V (A9 V V V (λρ h=>Yl.fieldAddr H.underlying_tWg V (GG H.sizeOf_tAU) (h _ _ V)) ?_);refine JL.uLoad H (p:=.Gu m) V K (by simp) V Zu V V V V λv wt sm r U=>?_;obtain⟨a0,rfl,e⟩:=aN U;have O:v<2147483648:=by omega
 by_cases al:v=0
 .subst al;refine⟨.GA,e,?_⟩;refine JL.go 5 V (A9 (v:=.int .u64 (0:Nat)) V V V (λρ h=>(Yl.shr (h _ _ V) (h _ _ V) (by decide)).to (pB _ (Mv (v:=0) (wt:=0) (by decide)))) ?_);refine A9 (v:=.int .i32 (0:Nat)) V V V (λρ h=>(FI H.underlying_tU64 H.underlying_t21 (h _ _ V)).to (pB _ (wrap_i32 (by decide)))) ?_
  refine JL.go 5 V (A9 (v:=.int .u64 ((0:Nat):Int)) V V V (λρ h=>(Yl.and (h _ _ V) (h _ _ V)).to (pB _ (MV (v:=0) (wt:=0) (by decide) (by decide)))) ?_);refine A9 (v:=.int .u32 ((0:Nat):Int)) V V V (λρ h=>(FI H.underlying_tU64 H.underlying_tU32 (h _ _ V)).to (pB _ (wrap_u32 (by decide)))) ?_
  refine JL.go 6 V (A9 (v:=.bool true) V V V (λρ h=>(Yl.eql (h _ _ V) (h _ _ V)).to (by simp)) ?_);refine JL.go 6 V (Ny (p:=.GA) (q:=.I9) V K (by simp) (λ_ _ _=>V) V V V V V (by simp) (J5 H) ?_);refine JL.go 3 V (NG (p:=.I9) (q:=.GV) (ad:=F.sA) V K (by simp) (λ_ _ _=>V) V V V V V H.underlying_tWgP H.underlying_tUP H.room_tWg V (.inl V) ?_)
  refine VK (vs:=[.pointer (some F.sA)]) K V V V V (QW H) V V λE' Y z1 Z ac ag T ay=>ai _ _ ?_;revert T;refine(?_:JL (Ho P) Q _ _ _ _ _ _ _);refine JL.go 5 V (A9 (v:=.bool true) V V V (λρ h=>(Yl.eql (h _ _ V) (h _ _ V)).to (by simp)) ?_);refine JL.go 2 V (A9 (v:=.int .u64 0) V V V (λρ h=>(Yl.and (h _ _ V) (h _ _ V)).to (pB _ (MJ (v:=0) (wt:=0) (by decide) (by decide)))) ?_);refine A9 (v:=.bool false) V V V (λρ h=>(Yl.neq (h _ _ V) (h _ _ V)).to (by simp)) (JL.go 8 V ?_);exact JL.ret V V (BO.none H.f_wait V) (back _ _ _ _ (h E' Y z1 Z ac ag))
 .refine⟨.HV v,by rw[e,d9 al],?_⟩;refine JL.go 5 V (A9 (v:=.int .u64 (v:Nat)) V V V (λρ h=>(Yl.shr (h _ _ V) (h _ _ V) (by decide)).to (pB _ (Mv (v:=v) (wt:=0) (by decide)))) ?_);refine A9 (v:=.int .i32 (v:Nat)) V V V (λρ h=>(FI H.underlying_tU64 H.underlying_t21 (h _ _ V)).to (pB _ (wrap_i32 O))) ?_
  refine JL.go 5 V (A9 (v:=.int .u64 ((0:Nat):Int)) V V V (λρ h=>(Yl.and (h _ _ V) (h _ _ V)).to (pB _ (MV (v:=v) (wt:=0) O (by decide)))) ?_);refine A9 (v:=.int .u32 ((0:Nat):Int)) V V V (λρ h=>(FI H.underlying_tU64 H.underlying_tU32 (h _ _ V)).to (pB _ (wrap_u32 (by decide)))) ?_
  refine JL.go 6 V (A9 (v:=.bool false) V V V (λρ h=>(Yl.eql (h _ _ V) (h _ _ V)).to (by simp<;>omega)) ?_);refine JL.go 7 V (A9 V V V (λρ h=>Yl.fieldAddr H.underlying_tWg V (GG H.sizeOf_tAU) (h _ _ V)) ?_);refine JL.go 2 V (A9 (v:=.int .u64 (Fam.word v 1)) V V V (λρ h=>(Yl.add (h _ _ V) (h _ _ V)).to (pB _ (ZH O))) ?_);refine JL.uCas H (m:=v) K V V V V V V ?_ ?_
  .refine JL.done (JL.go 6 V ?_);refine A9 (v:=.bool true) V V V (λρ h=>(Yl.eql (h _ _ V) (h _ _ V)).to (by simp)) (JL.go 6 V ?_);refine A9 V V V (λρ h=>Yl.fieldAddr H.underlying_tWg V (GG H.sizeOf_tU32) (h _ _ V)) (NG (p:=.Jc) (q:=.Ix) (ad:=F.mA) V K (by simp) (λ_ _ _=>V) V V V V V H.underlying_tPU32 H.underlying_tUP H.room_tU32 V (.inr V) ?_)
   refine Q7 (p:=.Ix) (q:=.FV) (mk:=.write) (ad:=F.mA) (vs:=[.pointer (some F.mA)]) V K (by simp) (λ_ _ _=>V) V V V V (by simp) (Y7 H) V V (JL.go 9 V ?_);refine A9 (v:=.int .u64 0) V V V (λρ h=>(Yl.and (h _ _ V) (h _ _ V)).to (pB _ (MJ (v:=v) (wt:=0) O (by decide)))) (A9 (v:=.bool false) V V V (λρ h=>(Yl.neq (h _ _ V) (h _ _ V)).to (by simp)) ?_);refine JL.go 10 V (A9 V V V (λρ h=>Yl.fieldAddr H.underlying_tWg V (GG H.sizeOf_tU32) (h _ _ V)) ?_);refine JL.go 1 V (YA (vs:=[.pointer (some F.mA),.bool false]) K V V V V (X7 H) V V ?_);refine JL.go 5 V (A9 V V V (λρ h=>Yl.fieldAddr H.underlying_tWg V (GG H.sizeOf_tAU) (h _ _ V)) ?_);refine JL.uLoad H (p:=.HM) V K (by simp) V Yr V V V V λv wt sm r U=>?_;obtain⟨rfl,rfl,e⟩:=Zg U;refine⟨.GA,e,?_⟩;refine A9 (v:=.bool false) V V V (λρ h=>(Yl.neq (h _ _ V) (h _ _ V)).to (by simp[Fam.word])) (JL.go 6 V ?_);refine Ny (p:=.GA) (q:=.I9) V K (by simp) (λ_ _ _=>V) V V V V V (by simp) (J5 H) (JL.go 3 V ?_);refine NG (p:=.I9) (q:=.GV) (ad:=F.sA) V K (by simp) (λ_ _ _=>V) V V V V V H.underlying_tWgP H.underlying_tUP H.room_tWg V (.inl V) ?_
   refine VK (vs:=[.pointer (some F.sA)]) K V V V V (QW H) V V λE' Y z1 Z ac ag T ay=>ai _ _ ?_;revert T;refine(?_:JL (Ho P) Q _ _ _ _ _ _ _);exact JL.go 8 V (JL.ret V V (BO.none H.f_wait V) (back _ _ _ _ (h E' Y z1 Z ac ag)))
  .refine JL.done (JL.go 3 V ?_);refine JL.again (Fz (L':=[(0,.pointer (some F.sA))]) ⟨V,trivial⟩ ?_);exact aw (v - 1) (by omega) (by omega)
theorem JO.iJ(K:b.roundOf=none)(O:s.q=false)(h:JO (IM P) (JF P 0) b n M ds cs .quiet):
  JO (A0 P false) (Stop P F .Iu) b n M (dcall L.done #[.pointer (some F.sA)]::ds) cs s:=by
 refine JO.enter (vs:=[.pointer (some F.sA)]) K H.f_done (nm_done L) V (pt V) λT U todo=>JL.go 2 V (Y5 H O V V V V V ?_);exact JL.done (JL.out V (JO.leaveD V H.f_done V (.inl V) (h T U todo)))
end
end Pal
namespace Pal
open Go Go.Conc
variable {P:Program}{J:Judge P}{Q:Gs_}{g:Goroutine}{cs:Lf_}{c:Frame}{E:LH}{S S':List Seg}
variable{f:FuncId}{vs:Lv_}{seg:Seg}{R:Value->LH->Seg->Prop}
section
variable {H:LH}
theorem Pr(K:S.flatten.Perm S'.flatten)(O:Aq E H S)(h:Aq E H S'->J.ok Q g (Aj E H S')):J.ok Q g (Aj E H S):=by
 have U:Aj E H S=Aj E H S':=FH O K;rw[U];exact h (Nd.perm O K)
theorem RJ(K:S'.flatten=S.flatten)(O:Aq E H S)(h:Aq E H S'->J.ok Q g (Aj E H S')):J.ok Q g (Aj E H S):=Pr (by rw[K]) O h
theorem bu(j:Nat)(ai:A6 J f vs E seg R)(K:Aq E H S)(O:S[j]?=some seg)
  (al:∀v E' seg',Le E E'->R v E' seg'->Aq E' H (S.set j seg')->J.ok Q (G (c.finish v) cs) (Aj E' H (S.set j seg'))):
  J.ok Q (G (Frame.enter P f vs.toArray .normal) (c::cs)) (Aj E H S):=by
 have U:S.flatten.Perm (seg++(S.set j []).flatten):=(Ds (seg':=seg) O).1.trans pr;have Y:Nd E H (seg++(S.set j []).flatten):=Nd.perm K U;have am:Aj E H S=mk E (Bn (S.set j []).flatten H) seg:=by
  rw[show Aj E H S=mk E H S.flatten from rfl,FH K U];unfold mk;rw[Gq]
 have Z:=Fh.M7 (ai (Bn (S.set j []).flatten H) (Nd.front Y)) (by rintro v s' ⟨E',B',_,_,_,rfl⟩;rfl);rw[← am] at Z;refine Z Q c cs ?_;rintro v a3 ⟨⟨E',B',hle,ap,aq,rfl⟩,w,av⟩;have e2:mk E' (Bn (S.set j []).flatten H) B'=mk E' H (B'++(S.set j []).flatten):=by unfold mk;rw[Gq]
 have aw:Nd E H (S.set j []).flatten:=by
  have:=Y;rw[Nd.iff] at this ⊢;rw[ql,qx] at this;exact⟨this.1.2.1,λq ay=>this.2 q (qd _ ay)⟩
 have az:Nd E' H (S.set j []).flatten:=aw.grow λx a0=>by
  have a1:=av.d x a0;have a2:Bn B' (Bn (S.set j []).flatten H) x=none:=a1;exact(IE a2).1
 have ac:Nd E' H (B'++(S.set j []).flatten):=Nd.glue aq az;rw[e2];have ag:(B'++(S.set j []).flatten).Perm (S.set j B').flatten:=pr.trans (Ds O).2.symm;rw[FH ac ag];exact al v E' B' hle ap (Nd.perm ac ag)
end
variable {L:Env}{ds:Ld_}{k:Li_}{ops:Ao_}{i:Nat}{rest:List Nat}{d:Option Tmp}{t ty e:TypeId}{p:String}{af:Ae_}
section
variable {b:Frame}{n:Nat}{H:LH}{g:On_}
end
theorem YJ{E H:LH}{a b c:Nat}{K O U:Obj}(ac:Aq E H [[(a,K)],[(b,O)],[(c,U)]]):(⟨E,KP (Aj E H [[(a,K)],[(b,O)],[(c,U)]]).H b a c,false⟩:St)=Aj E H []:=by
 have h:=Nd.iff.1 ac;have ag:H a=none:=(h.2 (a,K) (by simp)).2;have ai:H b=none:=(h.2 (b,O) (by simp)).2;have al:H c=none:=(h.2 (c,U) (by simp)).2;unfold Aj mk;congr 1;funext x;simp only[KP,Aj,mk,pY,sJ,pG,qQ,qr,Bn];by_cases Y:x=a;subst Y;simp[ag];by_cases e2:x=b;subst e2;simp[ai];by_cases Z:x=c;subst Z;simp[al];simp[Y,e2,Z]
theorem Hm{P:Program}{J:Judge P}{Q:Gs_}{b:Frame}{n:Nat}{L:Env}{ds:Ld_}{cs:Lf_}{E H:LH}{S:List Seg}{todo:Li_}{A B:Seg}(j K:Nat)(O:S[j]?=some A)(Z:(S.set j [])[K]?=some B)(ac:Aq E H S)
  (h:Aq E H (((S.set j []).set K []).set j (A++B))->JL J Q b n L ds todo cs (Aj E H (((S.set j []).set K []).set j (A++B)))):JL J Q b n L ds todo cs (Aj E H S):=by
 refine JS.perm ?_ ac h;have U:j<S.length:=(fx.1 O).1;have ag:=(Ds (seg':=A) O).1;have ai:=(Ds (seg':=B) Z).1;have al:((S.set j []).set K [])[j]?=some []:=by
  by_cases e:K=j;subst e;rw[qh (by simpa using U)];rw[qa e,qh U]
 have Y:=(Ds (seg':=A++B) al).2;have am:(((S.set j []).set K []).set j [])=(S.set j []).set K []:=by
  by_cases e:K=j;subst e;simp;rw[s9 _ _ e];simp
 rw[am] at Y;refine ag.trans (List.Perm.trans ?_ Y.symm);refine(List.Perm.append_right A ai).trans ?_;rw[pF];exact q3 _ pr
def WL{α:Type}(e:TypeId)(pp:Rp α)(E:LH)(bk c n:Nat)(f:Av_)(xs:List α):Prop:=
 OL e pp E (some ⟨bk,0,none⟩) c [(bk,.cells f e (0,0))] xs/\xs.length=n
variable{α:Type}
theorem WL.M{e:TypeId}{pp:Rp α}{E E':LH}{bk c n:Nat}{f:Av_}{xs:List α}(h:WL e pp E bk c n f xs)(hle:Le E E'):WL e pp E' bk c n f xs:=⟨h.1.M hle,h.2⟩
theorem WL.at{e:TypeId}{pp:Rp α}{E:LH}{bk c n:Nat}{f:Av_}{xs:List α}{m:Int}{x:α}(h:WL e pp E bk c n f xs)(hm:ix xs m=some x):
  ∃ws,pp.r E ws x/\(∀j w,ws[j]?=some w->f[m.toNat*pp.n+j]?=some w):=by
 let⟨ws,K,O,_,_⟩:=OL.again h.1 hm V;exact⟨ws,K,O⟩
theorem WL.put{e:TypeId}{pp:Rp α}{E:LH}{bk c n:Nat}{f:Av_}{xs O:List α}{m:Int}{x0 x':α}{ws':Lv_}(h:WL e pp E bk c n f xs)(U:O.length=n)(hm:ix O m=some x0)(Y:pp.r E ws' x'):
  WL e pp E bk c n (A3 f (m.toNat*pp.n) ws') (xs.set m.toNat x')/\m.toNat*pp.n+pp.n<=f.size:=by
 obtain⟨K,rfl,Z⟩:=F8 hm;have ac:K<xs.length:=by rw[h.2,← U];exact(fx.1 Z).1
 have ag:ix xs (K:Int)=some xs[K]:=by simp[ix,ac]
 let⟨ws,am,ap,ai,al⟩:=OL.again h.1 ag V;exact⟨⟨al x' ws' Y,by rw[pE];exact h.2⟩,ai⟩
theorem OL.cases{e:TypeId}{pp:Rp α}{E:LH}{a:Option Addr}{c:Nat}{xs:List α}(h:OL e pp E a c seg xs):
  (a=none/\c=0/\seg=[]/\xs=[])∨∃bk f,a=some ⟨bk,0,none⟩/\seg=[(bk,.cells f e (0,0))]/\WL e pp E bk c xs.length f xs:=by
 have Y:=h;obtain⟨wss,Z,ag,ai⟩:=h;rcases Z with⟨K,O,U,ac,al⟩ | ⟨bk,f,K,O,U⟩;exact .inl ⟨K,U,ac,rE.1 O⟩;subst K O;exact .inr ⟨bk,f,V,V,Y,V⟩
variable{sz:Nat}
theorem EH{P:Program}{s:St}{ρ:Operand->Value}{x y:Operand}{d:Option Tmp}{t ty e:TypeId}{p:String}{af:Ae_}{g:On_}{kd:IntKind}{xs:List α}{xv:α}{m:Int}{bk c n:Nat}(K:xs.length=n)(hm:ix xs m=some xv)(O:P.underlying t=some (.slice e))(U:Bp P e=some sz)(Y:ρ x=.slice (some ⟨bk,0,none⟩) n c)(Z:ρ y=.int kd m):
  Yl P ⟨d,.indexAddr t x y,ty,p,af,g⟩ ρ s (.pointer (some ⟨bk,m.toNat*sz,none⟩)):=by
 subst K;exact Rl hm O U Y Z
variable{ats:Array TypeId}
theorem V7{P:Program}{s:St}{ρ:Operand->Value}{x:Operand}{d:Option Tmp}{t ty e:TypeId}{p:String}{af:Ae_}{g:On_}{xs:List α}{a:Option Addr}{n c:Nat}(K:xs.length=n)(O:ats[0]?=some t)(U:P.underlying t=some (.slice e))(Y:ρ x=.slice a n c):
  Yl P ⟨d,.call ⟨.builtin .len,#[x],ats⟩,ty,p,af,g⟩ ρ s (.int .i64 (xs.length:Int)):=by
 subst K;exact Yl.len O U Y
variable {D:Nat->Bool}{listed:Array Bool}{s:St}{E':LH}
variable {x y:Operand}{u:TypeId}{v:Value}{kd:IntKind}
variable{args:Array Operand}
section
variable {b:Frame}{n m fuel:Nat}{H:LH}
variable {g:On_}
theorem Y8{R:Value->St->Prop}(U:s.q=false)(Y:Region.ready .any ops listed=[i])
  (Z:ops[i]?=some ⟨d,.call ⟨.value x,args,ats⟩,ty,p,af,g⟩) (ac:ev L x=some (.func (.func f) #[] #[])) (ag:Bo n d=true) (hw:AY L ops ⟨d,.call ⟨.value x,args,ats⟩,ty,p,af,g⟩=some true) (hb:Ef P f=true) (ai:evs L args.toList=some vs)
  (al:Fh J f vs.toArray s R) (h:∀v K,R v K->K.q=false/\(∀x o,(BA D s).E x=some o->(BA D K).E x=some o)/\AT J Q b n ds ops k cs m D fuel (Bf listed i) (Ay L d v) K):
  AT J Q b n ds ops k cs m D (fuel+1) listed L s:=by
 refine AT.one U Y Z (by simp[EM,ag]) hw λρ O=>?_;have am:args.map ρ=vs.toArray:=by
  rw[← G7 O ai];apply qS;simp
 have ap:ρ x=.func (.func f) #[] #[]:=O _ _ ac;simp only[execOp,resolve,bind,Sem.bind,Deferred.ofValue,ap,pure,invoke];have e: #[]++args.map ρ++ #[]=vs.toArray:=by rw[am];simp
 rw[e];refine J4 hb ?_;rw[Mo];exact⟨R,al,h⟩
theorem II{bks:List Nat}(al:Il S bks)(am:A6 J f vs E [] R)(ap:Region.ready .any ops listed=[i])
  (aq:ops[i]?=some ⟨d,.call ⟨.value x,args,ats⟩,ty,p,af,g⟩) (K:ev L x=some (.func (.func f) #[] #[])) (av:Bo n d=true) (hw:AY L ops ⟨d,.call ⟨.value x,args,ats⟩,ty,p,af,g⟩=some true) (hb:Ef P f=true) (aw:evs L args.toList=some vs) (Z:Aq E H S)
  (ay:∀v E' seg',Le E E'->R v E' seg'->Aq E' H (S++ [seg'])->AT J Q b n ds ops k cs m (AI bks) fuel (Bf listed i) (Ay L d v) (Aj E' H (S++ [seg']))):
  AT J Q b n ds ops k cs m (AI bks) (fuel+1) listed L (Aj E H S):=by
 have az:=Fh.M7 (am (Bn S.flatten H) trivial) (by rintro v s' ⟨E',B',_,_,_,rfl⟩;rfl);refine Y8 V ap aq K av hw hb aw az ?_;rintro v a7 ⟨⟨E',B',hle,a0,a1,rfl⟩,w,a2⟩;have e2:mk E' (Bn S.flatten H) B'=mk E' H (B'++S.flatten):=by unfold mk;rw[Gq]
 have a3:Nd E' H S.flatten:=Nd.grow Z λx K=>by
  have a4:=a2.d x K;have U:Bn B' (Bn S.flatten H) x=none:=a4;exact(IE U).1
 have ac:Nd E' H (B'++S.flatten):=Nd.glue a1 a3;have ag:(B'++S.flatten).Perm (S++ [B']).flatten:=by rw[GJ];exact pr
 have ai:Aq E' H (S++ [B']):=Nd.perm ac ag;rw[e2,FH ac ag];refine⟨V,λx o K=>?_,ay v E' B' hle a0 ai⟩;by_cases hd:AI bks x=true
 .obtain⟨j,o',Y⟩:=al.mem x (by simpa [AI] using hd);have U:(Aj E H S).get x=some o':=DU (i:=0) Z Y V;have a5:j<S.length:=(fx.1 Y).1;have a6:(Aj E' H (S++ [B'])).get x=some o':=DU (i:=0) ai (by rw[po a5];exact Y) rfl;have O:(if AI bks x then(Aj E H S).get x else E x)=some o:=K
  show(if AI bks x then(Aj E' H (S++ [B'])).get x else E' x)=some o
  rw[eS hd] at O ⊢;rw[a6,← U];exact O
 .have O:(if AI bks x then(Aj E H S).get x else E x)=some o:=K
  show(if AI bks x then(Aj E' H (S++ [B'])).get x else E' x)=some o
  rw[d9 hd] at O ⊢;exact hle _ _ O
end
section
variable {b:Frame}{n:Nat}{H:LH}
variable {g:On_}
theorem Lq
  (O:A6 J f vs E [] R) (U:ops[i]?=some ⟨d,.call ⟨.value x,args,ats⟩,ty,p,af,g⟩) (Y:ev L x=some (.func (.func f) #[] ([]:Lv_).toArray)) (hw:AY L ops ⟨d,.call ⟨.value x,args,ats⟩,ty,p,af,g⟩=some true) (Z:((b.kind != .early)&&Bo n d)=true) (hb:Ef P f=true)
  (ac:evs L args.toList=some vs) (ag:Aq E H S) (ai:∀v E' seg',Le E E'->R v E' seg'->Aq E' H (S++ [seg'])->JL J Q b n (Ay L d v) ds (.inRegion ops rest::k) cs (Aj E' H (S++ [seg']))):
  JL J Q b n L ds (.inRegion ops (i::rest)::k) cs (Aj E H S):=by
 have al:Hz J (.func (.func f) #[] ([]:Lv_).toArray) vs E [] R:=Hz.ofFn hb (by rw[pG];exact O);have am:Aq E H (S++ [[]]):=by unfold Aq at*;rw[GJ,pG];exact ag
 have ap:Aj E H S=Aj E H (S++ [[]]):=by unfold Aj;rw[GJ,pG]
 rw[ap];refine MA (seg:=[]) S.length al U hw Z Y ac am (by simp) λv E' seg' hle aq K=>?_;have av:(S++ [([]:Seg)]).set S.length seg'=S++ [seg']:=IQ _ _ _ _;rw[av] at K ⊢;exact ai v E' seg' hle aq K
end
def I4(a b:Int):Option Int:=if b=0 then none else Au (a.tdiv b)
def S7(l:List Nat)(i:Int):Option Nat:=if 0<=i then l[i.toNat]? else none
variable {ρ:Operand->Value}{z:Operand}{kd':IntKind}{m':Int}{a:Nat}
variable{r:Int}
section
variable {g:On_}{m:Int}{b:Nat}
theorem Lu(K:ρ x=iV m)(O:ρ y=iV m')(h:I4 m m'=some r):Yl P ⟨d,.binOp .quo t x y u,ty,p,af,g⟩ ρ s (iV r):=by
 unfold I4 at h;split at h;cases h
 .rename_i U;obtain⟨rfl,hb⟩:=Mq h;have:=Yl.quo (P:=P) (s:=s) (d:=d) (t:=t) (u:=u) (ty:=ty) (p:=p) (af:=af) (g:=g) K O U
  rwa[KH hb] at this
theorem jw{a:Nat}:IntKind.u8.wrap (a:Int)=((a%256:Nat):Int):=by
 simp only[IntKind.wrap,IntKind.bits,IntKind.signed];simp
theorem cA(K:P.underlying t=some (.int .u64))(hu:P.underlying u=some (.int .u8))(O:ρ x=.int .u64 (a:Int)):Yl P ⟨d,.convert t u x,ty,p,af,g⟩ ρ s (.int .u8 ((a%256:Nat):Int)):=by
 have h:=FI (P:=P) (s:=s) (d:=d) (ty:=ty) (p:=p) (af:=af) (g:=g) K hu O
 rw[jw] at h;exact h
theorem b9(K:P.underlying t=some (.int .u8))(hu:P.underlying u=some (.int .i64))(O:ρ x=.int .u8 (a:Int))(h:Au ((a:Nat):Int)=some r):Yl P ⟨d,.convert t u x,ty,p,af,g⟩ ρ s (iV r):=by
 obtain⟨rfl,hb⟩:=Mq h;have h:=FI (P:=P) (s:=s) (d:=d) (ty:=ty) (p:=p) (af:=af) (g:=g) K hu O
 rwa[KH hb] at h
theorem Zr{l:List Nat}{bs:ByteArray}{r:Nat}(O:(bs.data.toList.map UInt8.toNat==l)=true)(U:P.underlying t=some .string)(Y:ρ y=.int kd m)(Z:ρ (.const (.string bs))=.string bs)(h:S7 l m=some r):Yl P ⟨d,.index t (.const (.string bs)) y,ty,p,af,g⟩ ρ s (.int .u8 (r:Int)):=by
 unfold S7 at h;split at h
 .rename_i ac;have ag:=eq_of_beq O;rw[← ag,qe] at h;obtain⟨K,hb,rfl⟩:=p7.1 h;have ai:bs[m.toNat]?=some K:=by
   have al:bs.data[m.toNat]?=some K:=by rw[← qn];exact hb
   let⟨am,ap⟩:=f8.1 al;rw[getElem?_pos bs m.toNat am];exact pB some ap
  simp[Yl,execOp,lp,pure,bind,Sem.bind,Z,Y,Instr.index,underlying,program,U,ac,ai,asIntOf]
 .cases h
end
variable{s':St}{oi:Oper}{pure w:Bool}
section
variable (J:Judge P)(Q:Gs_)(b:Frame)(ds:Ld_)(ops:Ao_)(k:Li_)(cs:Lf_)(X D D0:Nat->Bool)
def JB:Nat->Array Bool->Av_->St->Prop
 | 0,listed,T,s=>Region.ready .any ops listed=[]/\J.ok Q (G (fr b T ds (.inRegion ops []::k)) cs) s
 | fuel+1,listed,T,s=>
  Region.ready .any ops listed≠ []/\s.q=false/\∀i∈Region.ready .any ops listed,∀o,ops[i]?=some o->(∀c,o.op≠ .defer c)/\
   (Region.wanted o (yielded ops T)=false->JB fuel (Bf listed i) (CV T o.dst undef) s)/\
   (Region.wanted o (yielded ops T)=true->X i=true->lp P (execOp (BL T) o) s (λK s'=>(∀x u,D0 x=true->s.get x=some u->s'.get x=some u)/\match K with
    | .value v=>JB fuel (Bf listed i) (CV T o.dst v) s'
    | .skip=>JB fuel (Bf listed i) (CV T o.dst undef) s'
    | _=>False) (λ_ _=>False))/\
   (Region.wanted o (yielded ops T)=true->X i=false->lp P (execOp (BL T) o) (BA D s) (λK s'=>match K with
    | .value v=>JB fuel (Bf listed i) (CV T o.dst v) (CB D s s')
    | .skip=>JB fuel (Bf listed i) (CV T o.dst undef) (CB D s s')
    | _=>False) (λ_ _=>False))
variable {J Q b ds ops k cs X D D0}
theorem bF(Z:b.kind≠ .early):∀(fuel t:Nat) (listed:Array Bool) (T:Av_) (s:St),JB J Q b ds ops k cs X D D0 fuel listed T s->
  J.ok Q (G (fr b T ds (.inRegion ops (Region.linearise.go .any ops fuel t listed [])::k)) cs) s:=by
 intro fuel
 induction fuel with
 | zero=>intro t listed T s h;simpa [Region.linearise.go] using h.2
 | succ fuel O=>
  intro t listed T s h;obtain⟨ai,al,h⟩:=h;obtain⟨i,hi⟩:∃i,(Region.ready .any ops listed)[t%(Region.ready .any ops listed).length]?=some i:=by
   have:0<(Region.ready .any ops listed).length:=r9.2 ai;exact⟨_,d6 (sE _ this)⟩
  have ac:=pC hi;have hgo:Region.linearise.go .any ops (fuel+1) t listed []=i::Region.linearise.go .any ops fuel (t/(Region.ready .any ops listed).length) (Bf listed i) []:=by
   simp only[Region.linearise.go];change (match(Region.ready .any ops listed)[t%(Region.ready .any ops listed).length]? with
    | some i=>Region.linearise.go .any ops fuel (t/(Region.ready .any ops listed).length) (listed.setIfInBounds i true) [i]
    | none=>[].reverse)=_
   rw[hi];simp only;rw[linearise_go_acc];rfl
  rw[hgo];let⟨_,o,U,_⟩:=mem_ready.1 ac;let⟨hd,am,ap,aq⟩:=h i ac o U;cases hw:Region.wanted o (yielded ops T) with
  | false=>exact Judge.unwanted U hw (O _ _ _ _ (am hw))
  | true=>
   cases ag:X i with
   | true=>
    refine Judge.oper U hw Z (.inr hd) (EI _ (ap hw ag) ?_ (λ_ _ h=>h.elim));rintro Y s' ⟨_,K⟩;cases Y with
    | value v=>exact O _ _ _ _ K
    | skip=>exact O _ _ _ _ K
    | _=>exact K.elim
   | false=>
    refine Judge.VC D U hw Z hd al (EI _ (aq hw ag) ?_ (λ_ _ h=>h));intro Y s' K;cases Y with
    | value v=>exact O _ _ _ _ K
    | skip=>exact O _ _ _ _ K
    | _=>exact K.elim
def waitAll(ops:Ao_)(X:Nat->Bool)(i:Nat):Bool:=(List.range ops.size).all λj=> !X j || waits ops ops.size j i
theorem dC{D:Nat->Bool}{s:St}(K:s'.E=(BA D s).E){x:Nat}{o:Obj}(h:s.E x=some o):(CB D s s').E x=some o:=by
 by_cases hd:D x;simp[CB,hd,h];have:=tO K x;simp[BA,hd] at this;simp[CB,hd,this,h]
theorem dk{D0 D:Nat->Bool}{s:St}(h:∀x,D0 x=true->D x=true):∀x o,(BA D0 s).E x=some o->(BA D s).E x=some o:=λx o K=>by
 simp only[BA] at K ⊢
 split;split at K;exact K;unfold St.get;rw[K];rename_i hd;rw[d9 (λe=>hd (h x e))] at K;exact K
theorem aG{D0:Nat->Bool}{s:St}(h:∀x u,D0 x=true->s.get x=some u->s'.get x=some u)(O:s'.E=s.E):∀x o,(BA D0 s).E x=some o->(BA D0 s').E x=some o:=λx o K=>by
 simp only[BA] at K ⊢
 split;rename_i hd;rw[eS hd] at K;exact h x o hd K;rename_i hd;rw[d9 hd] at K;rw[O];exact K
theorem Tq{D0 D:Nat->Bool}{s:St}(h:∀x,D0 x=true->D x=true)(O:s'.E=(BA D s).E):∀x o,(BA D0 s).E x=some o->(BA D0 (CB D s s')).E x=some o:=λx o K=>by
 simp only[BA] at K ⊢
 split
 .rename_i hd;rw[eS hd] at K
  unfold St.get CB;simp only[h x hd,qs];exact K
 .rename_i hd;rw[d9 hd] at K;exact dC O K
theorem bp{i:Nat}{v:Value}(bx:∀x,D0 x=true->D x=true)(hi:ops[i]?=some oi)(c2:X i=false)(cc:(pure || waitAll ops X i)=true)(c3:Region.noSelect ops=true)(c4:∀c,oi.op≠ .defer c):
  ∀(fuel:Nat) (listed:Array Bool) (T:Av_) (s:St),Jx ops listed i oi=true->Ih ops listed=true->listed.size=ops.size->i∈Region.ready .any ops listed->s.q=false->Region.wanted oi (yielded ops T)=w->
   (w=true->∀s',s'.q=false->(∀x o,(BA D0 s).E x=some o->s'.E x=some o)->(pure=false->∀x o,(BA D s).E x=some o->s'.E x=some o)->Yl P oi (BL T) s' v)->
   JB J Q b ds ops k cs X D D0 fuel (Bf listed i) (CV T oi.dst (if w then v else undef)) s->JB J Q b ds ops k cs X D D0 (fuel+1) listed T s:=by
 have aq:∀(j:Nat) (ai:Oper),ops[j]?=some ai->∀cs b,ai.op≠Op.select cs b:=λj ai h cs b=>Region.noSelect_spec c3 j ai cs b h;intro fuel
 induction fuel with
 | zero=>?_
 | succ fuel a0=>?_
 all_goals
  intro listed T s ce ci a2 bo a3 hw av h;refine⟨λe=>(by rw[e] at bo;cases bo),a3,λj co ai U=>?_⟩;by_cases a4:j=i
  .subst a4;obtain rfl:ai=oi:=by rw[hi] at U;exact(f5 U).symm
   refine⟨c4,λO=>?_,λaw K=>?_,λaw K=>?_⟩;rw[O] at hw;subst hw;exact h;rw[c2] at K;cases K;rw[aw] at hw;subst hw;refine EI _ (av V (BA D s) a3 (dk bx) λ_ _ _ h=>h).out ?_ (λ_ _ h=>h);rintro bv s' ⟨rfl,rfl⟩;rw[Mo];exact h
  ·
   have cp:j∈Region.ready .any ops (Bf listed i):=ready_mono co a4;let⟨ay,Y,ct,bz⟩:=mem_ready.1 co;obtain rfl:Y=ai:=by rw[U] at ct;exact(f5 ct).symm
   have b0:=(mem_ready.1 bo).1;have c5:(Y.after.any λe=>Region.binds .any e&&e.on==i)=false:=by
    rw[Array.any_eq_false];intro e he K;simp only[gQ,rb] at K;have:=bz _ (Array.getElem_mem he) K.1;rw[K.2] at this;have az:listed.getD i true=listed.getD i false∨listed.size<=i:=by
     rcases mt i listed.size with q | q;left;simp[pd,q];exact .inr q
    rcases az with az | az;rw[b0,this] at az;cases az;rw[pd,py az] at this;simp at this
   have c6:oi.apart ops Y=true:=by
    have b1:j<ops.size:=(f8.1 U).1;have:=pJ.1 ce j (pw.2 b1);simp only[qz,rb] at this;rcases this with(q | q) | q;exact absurd q a4;rw[ay] at q;cases q;rw[U] at q;simp only[qz] at q;rw[c5] at q;exact q.resolve_left (by simp)
   let⟨a1,a5,a6⟩:=Oper.apart_spec c6;let⟨p1,p2⟩:=IH (ops:=ops) (T:=T) (v:=if w then v else undef) (aq j Y U) a1
   first
    | exact absurd cp (by rw[h.1];simp)
    | (
     obtain⟨ee,_,h⟩:=h
     let⟨hd,O,c7,c8⟩:=h j cp Y U
     have a7:Bf (Bf listed i) j=Bf (Bf listed j) i:=by
      unfold Bf;exact ss _ _ (p6 a4)
     have a8:i∈Region.ready .any ops (Bf listed j):=ready_mono bo (p6 a4)
     have a9:Jx ops (Bf listed j) i oi=true:=by
      refine pJ.2 λx K=>?_
      have:=pJ.1 ce x K
      simp only[qz,rb] at this ⊢
      rcases this with(q | q) | q;exact .inl (.inl q)
      .left;right
       by_cases e:j=x;subst e;rw[ay] at q;cases q;rw[Bf,getD_set_ne true e];exact q
      .exact .inr q
     have bb:(Bf listed j).size=ops.size:=by unfold Bf;simpa using a2
     have be:Ih ops (Bf listed j)=true:=by
      refine pJ.2 λx K=>?_
      cases b2:ops[x]? with
      | none=>simp
      | some c9=>
       simp only[qz,ru]
       by_cases e:j=x
       .subst e
        obtain rfl:c9=Y:=by rw[U] at b2;exact(f5 b2).symm
        right
        refine rm.2 λe he=>?_
        cases hb:Region.binds .any e with
        | false=>simp
        | true=>
         have:=bz e he hb
         by_cases e2:j=e.on
         .rw [← e2] at this
          have b3:j<listed.size:=by rw[a2];exact(f8.1 U).1
          simp[pd,b3] at this ay
          rw[ay] at this;cases this
         .rw [Bf,getD_set_ne false e2];simpa using this
       .cases cw:(Bf listed j).getD x false with
        | false=>exact .inl rfl
        | true=>
         right
         have dd:listed.getD x false=true:=by rw[Bf,getD_set_ne false e] at cw;exact cw
         refine rm.2 λb4 he=>?_
         cases hb:Region.binds .any b4 with
         | false=>simp
         | true=>
          have:=QU ci b2 dd b4 he hb
          by_cases e2:j=b4.on
          .rw [← e2] at this
           have b3:j<listed.size:=by rw[a2];exact(f8.1 U).1
           simp[pd,b3] at this ay
           rw[ay] at this;cases this
          .rw [Bf,getD_set_ne false e2];simpa using this
     refine⟨hd,λdj=>?_,λb5 bw=>?_,λb5 bw=>?_⟩
     .have:=O (by rw[p2];exact dj)
      rw[a7,J6 a5] at this
      let⟨Z,ac⟩:=IH (ops:=ops) (T:=T) (d:=Y.dst) (v:=undef) (o:=oi) (aq i oi hi) a6
      exact a0 _ _ _ a9 be bb a8 a3 (by rw[ac];exact hw) (λag s' ea O al=>by unfold Yl;rw[Z];exact(av ag s' ea O al).out) this
     ·
      have eb:pure=true:=by
       cases ec:pure with
       | true=>rfl
       | false=>
        exfalso
        rw[ec,s7] at cc
        have b1:j<ops.size:=(f8.1 U).1
        have aw:=pJ.1 cc j (pw.2 b1)
        rw[bw] at aw
        simp only[s6,s7] at aw
        rcases Tv ci _ j Y U (λe he hb=>bz e he hb) aw with q | ⟨x,Z,ac⟩
        .have ed:i<listed.size:=by rw[a2];exact(f8.1 hi).1
         simp[pd,ed] at q b0
         rw[b0] at q;cases q
        .have:¬x<listed.size:=by rw[a2];intro K;simp[K] at Z
         simp[pd,this] at ac
      have bi:=QA _ (c7 (by rw[p2];exact b5) bw)
      rw[p1] at bi
      refine EI _ bi ?_ (λ_ _ h=>h)
      rintro bv s' ⟨⟨b6,K⟩,al,ca⟩
      have cy:=aG b6 al
      have bn:s'.q=false:=ca.trans a3
      have c0:pure=false->∀{α:Prop},α:=λe=>by rw[eb] at e;cases e
      cases bv with
      | value u=>
       simp only at K ⊢
       rw[a7,J6 a5] at K
       let⟨Z,ac⟩:=IH (ops:=ops) (T:=T) (d:=Y.dst) (v:=u) (o:=oi) (aq i oi hi) a6
       exact⟨b6,a0 _ _ _ a9 be bb a8 bn (by rw[ac];exact hw) (λag s2 am O ap=>by unfold Yl;rw[Z];exact(av ag s2 am (λx o h=>O x o (cy x o h)) (λe=>c0 e)).out) K⟩
      | skip=>
       simp only at K ⊢
       rw[a7,J6 a5] at K
       let⟨Z,ac⟩:=IH (ops:=ops) (T:=T) (d:=Y.dst) (v:=undef) (o:=oi) (aq i oi hi) a6
       exact⟨b6,a0 _ _ _ a9 be bb a8 bn (by rw[ac];exact hw) (λag s2 am O ap=>by unfold Yl;rw[Z];exact(av ag s2 am (λx o h=>O x o (cy x o h)) (λe=>c0 e)).out) K⟩
      | _=>exact K.elim
     .have bi:=QA _ (c8 (by rw[p2];exact b5) bw)
      rw[p1] at bi
      refine EI _ bi ?_ (λ_ _ h=>h)
      rintro bv s' ⟨K,al,ca⟩
      have c1:=TL (D:=D) al
      have bn:(CB D s s').q=false:=by show s'.q=false;rw[ca];exact a3
      cases bv with
      | value u=>
       simp only at K ⊢
       rw[a7,J6 a5] at K
       let⟨Z,ac⟩:=IH (ops:=ops) (T:=T) (d:=Y.dst) (v:=u) (o:=oi) (aq i oi hi) a6
       exact a0 _ _ _ a9 be bb a8 bn (by rw[ac];exact hw) (λag s2 am O ap=>by unfold Yl;rw[Z];exact(av ag s2 am (λx o h=>O x o (Tq bx al x o h)) (λe=>by rw[c1] at ap;exact ap e)).out) K
      | skip=>
       simp only at K ⊢
       rw[a7,J6 a5] at K
       let⟨Z,ac⟩:=IH (ops:=ops) (T:=T) (d:=Y.dst) (v:=undef) (o:=oi) (aq i oi hi) a6
       exact a0 _ _ _ a9 be bb a8 bn (by rw[ac];exact hw) (λag s2 am O ap=>by unfold Yl;rw[Z];exact(av ag s2 am (λx o h=>O x o (Tq bx al x o h)) (λe=>by rw[c1] at ap;exact ap e)).out) K
      | _=>exact K.elim)
end
section
variable (J:Judge P)(Q:Gs_)(b:Frame)(n:Nat)(ds:Ld_)(ops:Ao_)(k:Li_)(cs:Lf_)(X D D0:Nat->Bool)
def GY(fuel:Nat)(listed:Array Bool)(L:Env)(s:St):Prop:=∀T,Has n L T->JB J Q b ds ops k cs X D D0 fuel listed T s
end
theorem JB.take{i:Nat}{v:Value}{P:Program}{J:Judge P}{Q:Gs_}{b:Frame}{ds:Ld_}{ops:Ao_}{k:Li_}{cs:Lf_}{X D D0:Nat->Bool}(K:∀x,D0 x=true->D x=true)(hi:ops[i]?=some oi)(O:X i=false)(U:(pure || waitAll ops X i)=true)(Y:Region.noSelect ops=true)(Z:∀c,oi.op≠ .defer c)
  (fuel:Nat) (listed:Array Bool) (T:Av_) (s:St) (ac:Jx ops listed i oi=true) (ag:Ih ops listed=true) (ai:listed.size=ops.size) (al:i∈Region.ready .any ops listed) (am:s.q=false) (ap:Region.wanted oi (yielded ops T)=w)
  (aq:w=true->∀s',s'.q=false->(pure=false->∀x o,(BA D s).E x=some o->s'.E x=some o)->Yl P oi (BL T) s' v)
  (h:JB J Q b ds ops k cs X D D0 fuel (Bf listed i) (CV T oi.dst (if w then v else undef)) s):JB J Q b ds ops k cs X D D0 (fuel+1) listed T s:=
 bp K hi O U Y Z fuel listed T s ac ag ai al am ap (λe s' av _ aw=>aq e s' av aw) h
def MX(ops:Ao_)(listed:Array Bool)(xs:List Nat)(pure:Bool)(i:Nat):Bool:=match ops[i]? with
 | some oi=> !AI xs i&&(pure || waitAll ops (AI xs) i)&&Region.noSelect ops&& !EM oi.op&&Jx ops listed i oi&&Ih ops listed&&listed.size==ops.size&&(Region.ready .any ops listed).contains i
 | none=>false
variable {X:Nat->Bool}{l0 xl bks:List Nat}
section
variable {b:Frame}{n fuel:Nat}{H:LH}
variable {g:On_}
theorem GK(xl bks l0:List Nat){id:Nat}(hm:P.follows .mixedOrders=true)(K:(b.kind != .early)=true)
  (h:GY J Q b n ds ops k cs (AI xl) (AI (l0++bks)) (AI l0) ops.size (Array.replicate ops.size false) L (Aj E H S)):JL J Q b n L ds (.code (.region id ops true)::k) cs (Aj E H S):=
 VY V hm λt T O=>bF (by simpa using K) ops.size t _ T _ (h T O)
theorem fh:∀x,AI l0 x=true->AI (l0++bks) x=true:=λx h=>by
 simp only[AI,List.contains_iff_mem,pg] at h ⊢;exact .inl h
theorem JB.val(i:Nat)(pure:Bool)(hi:ops[i]?=some oi)(K:MX ops listed xl pure i=true)(Y:s.q=false)
  (hw:AY L ops oi=some true) (Z:Bo n oi.dst=true) (ac:∀ρ,FA L ρ->∀s':St,(pure=false->∀x o,(BA (AI (l0++bks)) s).E x=some o->s'.E x=some o)->Yl P oi ρ s' v)
  (h:GY J Q b n ds ops k cs (AI xl) (AI (l0++bks)) (AI l0) fuel (Bf listed i) (Ay L oi.dst v) s):GY J Q b n ds ops k cs (AI xl) (AI (l0++bks)) (AI l0) (fuel+1) listed L s:=λT O=>by
 simp only[MX,hi,gQ] at K
 obtain⟨⟨⟨⟨⟨⟨⟨ag,ai⟩,al⟩,U⟩,am⟩,ap⟩,aq⟩,av⟩:=K
 refine JB.take (w:=true) (v:=v) (pure:=pure) fh hi (by simpa using ag) ai al (λc K=>by rw[K] at U;simp[EM] at U) fuel listed T s am ap (by simpa using aq) (by simpa using av) Y (Ck O hw) (λ_ s' ay aw=>ac _ O.GR s' aw) ?_
 exact h _ (O.put Z v)
theorem JB.fin{l0:List Nat}(K:Region.ready .any ops listed=[])(h:JL J Q b n L ds k cs s):GY J Q b n ds ops k cs X D (AI l0) 0 listed L s:=λT O=>⟨K,JL.done h T O⟩
def Oh(S:List Seg)(j:Nat):List Nat->Prop
 | []=>True
 | bk::l=>(∃(i:Nat) (o:Obj),(i==j)=false/\S[i]?=some [(bk,o)])/\Oh S j l
theorem Oh.mem{S:List Seg}{j:Nat}:∀{l:List Nat},Oh S j l->∀bk∈l,∃(i:Nat) (o:Obj),i≠j/\S[i]?=some [(bk,o)]
 | [],_,_,h=>by cases h
 | b::l,⟨⟨i,o,hi,h⟩,K⟩,bk,hb=>by
  rcases iO.1 hb with rfl | hb;exact⟨i,o,by simpa using hi,h⟩;exact K.mem bk hb
theorem JB.store{bk off:Nat}{c:Av_}(i j:Nat)(Y:Region.ready .any ops listed=[i])(aq:AI xl i=true)(av:ops[i]?=some ⟨d,.store t x y,ty,p,af,g⟩)(hw:AY L ops ⟨d,.store t x y,ty,p,af,g⟩=some true)(aw:Bo n d=true)(Z:Aq E H S)
  (O:ev L x=some (.pointer (some ⟨bk,off,none⟩))) (ay:ev L y=some v) (az:Bp P t=some v.cells.size) (a0:∀u∈v.cells.toList,C5 u=true) (ac:S[j]?=some [(bk,.cells c e (0,0))]) (a1:Oh S j l0) (hle:off+v.cells.size<=c.size)
  (h:Aq E H (S.set j [(bk,.cells (A3 c off v.cells.toList) e (0,0))])->GY J Q b n ds ops k cs (AI xl) (AI (l0++bks)) (AI l0) fuel (Bf listed i) (Ay L d undef) (Aj E H (S.set j [(bk,.cells (A3 c off v.cells.toList) e (0,0))]))):
  GY J Q b n ds ops k cs (AI xl) (AI (l0++bks)) (AI l0) (fuel+1) listed L (Aj E H S):=λT K=>by
 refine⟨by rw[Y];simp,rfl,λbb U o' ag=>?_⟩
 rw[Y] at U
 simp at U
 subst U
 obtain rfl:o'=⟨d,.store t x y,ty,p,af,g⟩:=by rw[av] at ag;exact(f5 ag).symm
 have a2:=Ck K hw;refine⟨λc a3=>(by cases a3),λe=>?_,λ_ _=>?_,λ_ e=>?_⟩;rw[a2] at e;cases e
 .let⟨ai,a4⟩:=HI Z ac;rw[ai];show lp P (do Instr.storeAt t (BL T x) (BL T y);pure Next.skip) _ _ _
  rw[K.ev O,K.ev ay];refine Az _ _ ?_;unfold Instr.storeAt;simp only[Instr.sureAddr,bind,Sem.bind,pure];refine TH (pl:=(S.set j []).flatten.length) az a0 a4 (c:=c) (e:=e) (by simp) hle λal=>?_;have a5:((S.set j []).flatten++ [(bk,Obj.cells c e (0,0))]).set (S.set j []).flatten.length (bk,.cells (A3 c off v.cells.toList) e (0,0))=(S.set j []).flatten++ [(bk,.cells (A3 c off v.cells.toList) e (0,0))]:=IQ _ _ _ _;rw[a5] at al ⊢;let⟨a6,am⟩:=Kg ac al;rw[a6];refine⟨λx u O a7=>?_,h am _ (K.put aw undef)⟩;obtain⟨be,o',a8,ap⟩:=a1.mem x (by simpa [AI] using O);have a9:(Aj E H S).get x=some o':=DU (i:=0) Z ap rfl;have g2:(Aj E H (S.set j [(bk,.cells (A3 c off v.cells.toList) e (0,0))])).get x=some o':=DU (i:=0) am (by rw[qa (p6 a8)];exact ap) rfl;have g0:(Aj E H S).get x=some u:=by rw[ai];exact a7
  rw[a9] at g0;rw[g2];exact g0
 .rw [aq] at e;cases e
end
theorem ON{E H:LH}{S:List Seg}{bks:List Nat}{bk o:Nat}{l ws:Lv_}{e:TypeId}{f:Nat×Nat}{w:Value}(j:Nat)(K:Aq E H S)(O:S[j]?=some [(bk,.cells (l++ws).toArray e f)])(U:AI bks bk=true)(Y:∀x o,(BA (AI bks) (Aj E H S)).E x=some o->s'.E x=some o)(Z:ws[o]?=some w):s'.cell? ⟨bk,l.length+o,none⟩=some w:=by
 have:=aB j K O U Y o w Z
 rwa[Ek rfl] at this
variable {B:List (Nat×Obj)}
variable{cx l:Nat}{ax:Option Addr}
section
variable {H:LH}
theorem Tt{a:Option Addr}{K m:Nat}{xs ys:Lv_}{z:Value}{Q:Value->St->Prop}{X:Halt->St->Prop}
  (ay:ats[0]?=some t) {t1 az:TypeId}(a0:ats[1]?=some t1) (a1:P.underlying t1=some (.slice az)) (a2:P.underlying t=some (.slice e)) (a3:Bp P e=some sz) (hb:FY P e=some K) (a4:zeroOf P e=some z) (a5:z.cells.size=sz)
  (a6:Nd E H B) (ag:Ik (mk E H B) (.slice a l l) sz xs)
  (Y:Ik (mk E H B) (.slice ax m cx) sz ys) (bv:∀w∈ys,C5 w=true) (bw:0<K) (bx:l+m<=2^40) (a7:K<=64)
  (av:m=0->Q (.slice a (l+m) l) (mk E H B))
  (a8:∀r Z ai,l+m<=ai->Z.size=ai*sz->Z.toList.take ((l+m)*sz)=xs++ys->Nd E H (B++ [(r,.cells Z e (0,0))])->Q (.slice (some ⟨r,0,none⟩) (l+m) ai) (mk E H (B++ [(r,.cells Z e (0,0))]))):
  lp P (Builtin.append_ ats ty #[.slice a l l,.slice ax m cx]) (mk E H B) Q X:=by
 unfold Builtin.append_;simp only[ay,a0,pR,qD,qX];refine Az _ _ (CG a2 ?_);refine Az _ _ (Fp a3 ?_);refine Az _ _ (CG a1 ?_);simp only[IF,px,qp,Builtin.lenOf,tB,qs];have ac:ys.length=m*sz:=by
  cases ax with
  | none=>obtain⟨O,U⟩:=Y;subst O U;simp
  | some ad=>exact Y.2.1
 have al:xs.length=l*sz:=by
  cases a with
  | none=>obtain⟨O,U⟩:=ag;subst O U;simp
  | some ad=>exact ag.2.1
 obtain⟨c,bz⟩:∃c,c=l:=⟨_,V⟩;split
 .rename_i b0;have hm:m=0:=by omega
  have a9:ys=[]:=pL (by rw[ac,hm];simp);refine Az _ _ (Lc ⟨ax,cx,V⟩ Y ?_);subst a9;cases a with
  | none=>exact av hm
  | some ad=>exact av hm
 .rename_i b1;have O:¬(((l+m:Nat):Int)>IntKind.i64.max/\(False∨K=0)):=by rintro⟨_,h | h⟩<;>omega
  have U:¬(Builtin.nextslicecap (l+m) l*K>2^48):=by
   have:=TT (need:=l+m) (old:=l) (by omega);have b2:Builtin.nextslicecap (l+m) l*K<=(2*(l+m)+768)*64:=Nat.mul_le_mul this a7;omega
  let⟨inf,am,ap⟩:=Q9 hb;refine Az _ _ (Lf am ?_);rw[ap,d9 O];refine Az _ _ (Lf am ?_);rw[ap,d9 U];refine Az _ _ ?_;simp only[choose,lp,Question.forced,px,qp];refine⟨V,λbb=>?_⟩;generalize be:(Question.appendCap (l+m) l e).cut bb=aq;have bi:l+m<=aq:=by rw[← be];simp[Question.cut]
  refine Az _ _ (Lf am ?_);rw[ap];have bn:∀{α:Type}{f:Unit->Sem α}{Q:α->St->Prop},lp P (f ()) (mk E H B) Q X->lp P (askRoom (aq*K)>>=f) (mk E H B) Q X:=by
   intro α f Q aw;refine Az _ _ ?_;unfold askRoom;split;exact⟨.inl ⟨V,V⟩,aw⟩;exact aw
  refine bn (Az _ _ (Lc ⟨a,l,V⟩ ag ?_));refine Az _ _ (Lc ⟨ax,cx,V⟩ Y ?_);refine Az _ _ (H8 a4 ?_);refine Az _ _ (J8 a6 λr bo=>?_);refine a8 r _ aq bi ?_ ?_ bo;simp only[Array.size_append,rf,To,a5,al,ac];rw[← q8,← q8];congr 1;omega;simp only[Array.toList_append];rw[sT (by simp[al,ac,q8])];rw[qJ (by simp[al,ac,q8])]
end
theorem Ap.spot{pp:Rp α}{E:LH}{a:Option Addr}{c:Nat}{xs:List α}(h:Ap pp E a c xs):∀ad,a=some ad->ad.spot=none∨c=0:=λad K=>by
 rcases h.2 with⟨_,h⟩ | ⟨bk,off,h,_⟩;exact h ad K;rw[h] at K;cases K;exact .inl rfl
theorem Ap.full{pp:Rp α}{E:LH}{a:Option Addr}{c:Nat}{xs:List α}(h:Ap pp E a c xs):Ap pp E a xs.length xs:=⟨no _,h.2.imp (λ⟨h,_⟩=>⟨h,λ_ _=>.inr (by rw[h];rfl)⟩) id⟩
theorem Ap.NB{pp:Rp α}{E H:LH}{B:List (Nat×Obj)}{a:Option Addr}{c:Nat}{ys:List α}(ac:Ap pp E a c ys):
  ∃K:List (Lv_),K.length=ys.length/\(∀(i:Nat) x ws,ys[i]?=some x->K[i]?=some ws->pp.r E ws x)/\Ik (mk E H B) (.slice a ys.length c) pp.n K.flatten/\∀w∈K.flatten,C5 w=true:=by
 obtain⟨K,U,Z,Y⟩:=ac.rows;have ag:=IN U Z;refine⟨K,U,Z,?_,λw hw=>?_⟩
 .rcases Y with⟨Y,av⟩ | ⟨bk,off,rfl,Y⟩
  .subst Y;have:K=[]:=pL U;subst this;cases a with
   | none=>exact⟨rfl,rfl⟩
   | some ad=>exact⟨.inr rfl,by simp,qc _,λq w O=>by simp at O⟩
  .refine⟨.inl V,by rw[Nn ag,U],ac.1,λq w O=>?_⟩;let⟨ai,m,ws,al,e2,am⟩:=QX ag O;have:=(Y ai ws al).cell (H:=H) (B:=B) e2;subst am;rw[← rt];exact this
 .let⟨us,ap,hw⟩:=rg.1 hw;let⟨q,O⟩:=pS.1 ap;have aq:q<ys.length:=by rw[← U];exact(fx.1 O).1
  exact pp.one (Z q _ us (d6 aq) O) w hw
variable {z1:Operand}
section
variable {b:Frame}{n:Nat}{H:LH}
variable {g:On_}
theorem TS{a:Option Addr}{c:Nat}(K:∀ad,a=some ad->ad.spot=none∨c=0)(O:l<=c)(U:P.underlying t=some (.slice e))(Y:Bp P e=some sz)(Z:ρ x=.slice a l c)(ac:ρ y=iV (l:Int))(ag:ρ z1=iV (l:Int)):
  Yl P ⟨d,.slice t x none (some y) (some z1),ty,p,af,g⟩ ρ s (.slice a l l):=by
 have h:=Yl.slice (P:=P) (s:=s) (d:=d) (ty:=ty) (p:=p) (af:=af) (g:=g) (olo:=none) (ohi:=some y) (omx:=some z1) (lo:=0) (hi:=l) (mx:=l) U Y Z ag ac V O (no _) (qc _);have ai:(if l=0 then a else a.map (·.add (0*sz)))=a:=by
  split;rfl
  .cases a with
   | none=>rfl
   | some ad=>
    have:=(K ad rfl).resolve_right (by omega);simp only[qH,rl];rw[Ek this];obtain⟨b,o,sp⟩:=ad;simp only at this;subst this;simp
 rw[ai] at h;simpa using h
theorem YF{pp:Rp α}{t1:TypeId}{c:Nat}{a:Option Addr}{xs ys Z:List α}{z:Value}(U:Ey xs ys=some Z)
  (av:ops[i]?=some ⟨d,.call ⟨.builtin .append,#[x,y],ats⟩,ty,p,af,g⟩) (hw:AY L ops ⟨d,.call ⟨.builtin .append,#[x,y],ats⟩,ty,p,af,g⟩=some true) (aw:BU b n ⟨d,.call ⟨.builtin .append,#[x,y],ats⟩,ty,p,af,g⟩=true)
  (ay:ev L x=some (.slice a xs.length xs.length)) (az:ev L y=some (.slice ax ys.length cx)) (a0:ats[0]?=some t) (a1:ats[1]?=some t1) (a2:P.underlying t=some (.slice e)) (a3:P.underlying t1=some (.slice e)) (a4:Bp P e=some pp.n) (hb:FY P e=some sz) (a5:zeroOf P e=some z) (a6:z.cells.size=pp.n)
  (a7:0<sz) (a8:sz<=64) (ac:Ap pp E a c xs) (a9:Ap pp E ax cx ys) (ag:Aq E H S)
  (h:∀E' ai K,Le E E'->Ap pp E' ai K Z->Aq E' H (S++ [[]])->JL J Q b n (Ay L d (.slice ai Z.length K)) ds (.inRegion ops rest::k) cs (Aj E' H (S++ [[]]))):
  JL J Q b n L ds (.inRegion ops (i::rest)::k) cs (Aj E H S):=by
 unfold Ey at U;split at U
 rotate_left
 .cases U
 rename_i bb;cases U;let⟨wss,al,be,bi,ce⟩:=Ap.NB (H:=H) (B:=S.flatten) ac.full;let⟨bn,bo,bv,bw,bx⟩:=Ap.NB (H:=H) (B:=S.flatten) a9;have hlen:(xs++ys).length=xs.length+ys.length:=by simp
 show JL J Q b n L ds (.inRegion ops (i::rest)::k) cs (mk E H S.flatten);refine JL.op av hw aw λρ am=>?_;rw[Nm,am x _ ay,am y _ az];refine Az _ _ (Tt a0 a1 a3 a2 a4 hb a5 a6 ag bi bw bx a7 bb a8 ?_ ?_)
 .intro hm;have bz:ys=[]:=pL hm;subst bz;have b0:Aq E H (S++ [[]]):=by unfold Aq at*;rw[GJ,pG];exact ag
  have b1:mk E H S.flatten=Aj E H (S++ [[]]):=by unfold Aj;rw[GJ,pG]
  rw[b1];have:=h E a xs.length (Le.refl _) (by rw[pG];exact ac.full) b0;rw[hlen] at this;exact this
 .intro r O K b2 b3 b4 b5;have b6:OL e pp E (some ⟨r,0,none⟩) K [(r,.cells O e (0,0))] (xs++ys):=
   ⟨wss++bn,.inr ⟨r,O,rfl,rfl,b3,by rw[hlen];exact b2,by rw[hlen,qR];exact b4.symm⟩,by simp[al,bo],OI al be bv⟩
  have ap:=F4 (S:=S) (seg:=[(r,.cells O e (0,0))]) b5;show JL J Q b n _ ds _ cs (mk E H (S.flatten++ [(r,.cells O e (0,0))]));rw[ap.1];refine CH S.length b6 ap.2 (by simp) λE' hle ca aq=>?_;have cc:(S++ [[(r,Obj.cells O e (0,0))]]).set S.length []=S++ [[]]:=IQ _ _ _ _;rw[cc] at aq ⊢;have:=h E' (some ⟨r,0,none⟩) K hle ca aq;rw[hlen] at this;exact this
end
end Pal
