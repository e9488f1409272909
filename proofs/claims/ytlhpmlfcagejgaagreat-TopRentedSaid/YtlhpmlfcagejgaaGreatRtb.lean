/- TopRented is true for every input: if each string that is put owes the steward a pound for each place: a part (2 of 8) of the proof of its row. -/
import Derived.Test.YtlhpmlfcagejgaaGreatRta
import Derived.Conc.CrowdComm
import Derived.Conc.TokenWalk
import Derived.Conc.MarkLaws
import Derived.Conc.AtomicLaws2
import Derived.Conc.WgLib
import Derived.Conc.WgArith
import Derived.Conc.WgGenW
set_option linter.all false
set_option maxRecDepth 100000
namespace Pal
open Go Go.Conc
open Go.ConcN (upd upd_same upd_ne sumTo sumTo_upd)
abbrev GP:=Gs_
inductive Ph where
 | B7 (k:Nat) | Gr | Ii | Hm | Gp | GN | Et
 | Cv | FI (m:Nat) | Ho (v:Nat) | Ht | CY | GO | Ft | GV | Dh
 | EX (j:Nat) | HS (j:Nat) | GU (j:Nat) | Ga (j:Nat) | Fb (j:Nat) | Fo | BP (ks:List Nat) (vs:Lv_)
 | CF | HU | HT | Hu (j:Nat)
inductive Nx where
 | ph (p:Ph) | gone (d:Nat)
structure Fam where
 wg:Nat
 ch:Nat
 ty:TypeId
 n:Nat
 has:Nat->Bool
 msg:Nat->Value->LH->Prop
 fin:GP
namespace Fam
variable (F:Fam)
def KK:Int:=4294967296
def G0(st sm:Int):Obj:=.cells #[.int .u64 st,.int .u32 sm] F.ty (0,0)
def word(v wt:Nat):Int:=(v:Int)*KK+wt
def WG(w:World)(v wt sm:Nat):Prop:=w.heap[F.wg]?=some (F.G0 (word v wt) sm)
def put(w:World)(v wt sm:Nat):World:={w with heap:=w.heap.setIfInBounds F.wg (F.G0 (word v wt) sm)}
def sA:Addr:=⟨F.wg,0,none⟩
def mA:Addr:=⟨F.wg,1,none⟩
def Fc(a:Addr):Event:=⟨.cell a,false,true⟩
def IT(a:Addr):Event:=⟨.cell a,true,true⟩
def Em(m:Mark):Event:=⟨.mark m,false,true⟩
def ChanAt(w:World)(closed:Bool)(k:Nat):Prop:=w.heap[F.ch]?=some (.chan 0 #[] closed k k false)
def act:Ph->Nat->Nat->Nat->Option ((Nat×Nat×Nat)×Array Event×Nx)
 | .Gr,v,wt,sm=>some ((v,wt,sm),#[Em (.releaseMerge F.sA)],.ph .Ii)
 | .Ii,v,wt,sm=>some ((v,wt,sm),#[Em .disable],.ph .Hm)
 | .Hm,v,wt,sm=>if 1<=v/\v<2147483648/\wt<=1 then some ((v - 1,wt,sm),#[Fc F.sA,IT F.sA],if v=1/\wt=1 then .ph .Gp else .gone 1) else none
 | .Gp,v,wt,sm=>if v=0/\wt=1 then some ((0,1,sm),#[Fc F.sA],.ph .GN) else none
 | .GN,v,wt,sm=>if v=0/\wt=1 then some ((0,0,sm),#[IT F.sA],.ph .Et) else none
 | .Et,v,wt,sm=>if sm=0 then some ((v,wt,1),semEvents F.mA,.gone 1) else none
 | .Cv,v,wt,sm=>some ((v,wt,sm),#[Em .disable],.ph (.FI F.n))
 | .FI m,v,wt,sm=>if v<=m/\wt=0 then some ((v,0,sm),#[Fc F.sA],if v=0 then .ph .Ft else .ph (.Ho v)) else none
 | .Ho m,v,wt,sm=>if v<=m/\1<=m/\wt=0 then some (if v=m then((v,1,sm),#[Fc F.sA,IT F.sA],.ph .HU) else((v,0,sm),#[Fc F.sA],.ph (.FI (m - 1)))) else none
 | .Ht,v,wt,sm=>some ((v,wt,sm),#[Em (.write F.mA)],.ph .CY)
 | .CY,v,wt,sm=>if sm=1 then some ((v,wt,0),semEvents F.mA,.ph .GO) else none
 | .GO,v,wt,sm=>if v=0/\wt=0 then some ((0,0,sm),#[Fc F.sA],.ph .Ft) else none
 | .Ft,v,wt,sm=>some ((v,wt,sm),#[Em .enable],.ph .HT)
 | .CF,v,wt,sm=>some ((v,wt,sm),#[],.ph .Gr)
 | .HU,v,wt,sm=>some ((v,wt,sm),#[],.ph .Ht)
 | .HT,v,wt,sm=>some ((v,wt,sm),#[],.ph .GV)
 | .Hu j,v,wt,sm=>some ((v,wt,sm),#[],.ph (.GU j))
 | .GV,v,wt,sm=>some ((v,wt,sm),#[Em (.acquire F.sA)],.ph .Dh)
 | .EX j,v,wt,sm=>some ((v,wt,sm),#[Em .disable],.ph (.HS j))
 | .HS j,v,wt,sm=>if v<2147483647/\wt=0 then some ((v+1,0,sm),#[Fc F.sA,IT F.sA],if v=0 then .ph (.Hu j) else .ph (.Ga j)) else none
 | .GU j,v,wt,sm=>some ((v,wt,sm),#[Em (.read F.mA)],.ph (.Ga j))
 | .Ga j,v,wt,sm=>some ((v,wt,sm),#[Em .enable],.ph (.Fb j))
 | _,_,_,_=>none
def C5:Ph->Bool
 | .EX _ | .HS _ | .GU _ | .Ga _ | .Fb _ | .Fo | .BP _ _ | .Hu _=>true
 | _=>false
def DU:Ph->Bool
 | .Ii | .Hm | .Gp | .GN | .Et=>true
 | _=>false
def GZ:Ph->St->St
 | .Gr,_=>.quiet
 | _,s=>s
def start(k:Nat):Ph:=if F.has k then .B7 k else .CF
def DX(j:Nat):Ph:=if j+1=F.n then .Fo else .EX (j+1)
end Fam
def Way(P:Program)(main:Bool)(X:GP):GP:=(Bc P main).ok X
theorem Jr.Ad{P:Program}{main:Bool}{Q Q':GP}(h:∀g s,Q g s->Q' g s):∀{r:Rk}{g:Goroutine}{s:St},Jr P main Q r g s->Jr P main Q' r g s
 | .leaf,_,_,x=>h _ _ x
 | .node _,_,_,.inl x=>.inl (h _ _ x)
 | .node _,_,_,.inr ⟨K,x⟩=>.inr ⟨K,λw f=>let ⟨g',s',w',es,O,U,Y⟩:=x w f;⟨g',s',w',es,O,Jr.Ad h U,Y⟩⟩
variable{main:Bool}{g:Goroutine}{s:St}
theorem Way.Ad{P:Program}{Q Q':GP}(h:∀g s,Q g s->Q' g s)(x:Way P main Q g s):Way P main Q' g s:=
 let ⟨r,K⟩:=x;⟨r,Jr.Ad (λg s ⟨s₀,a,b⟩=>⟨s₀,a,h g s₀ b⟩) K⟩
variable{X:Ph->GP}{p:Ph}
section
variable (P:Program)(F:Fam)
def LJ(X:Ph->GP)(main:Bool):Nx->GP
 | .ph p,g,s=>Way P main (X p) g s
 | .gone d,g,_=>∃q,QuitsD P q d g
structure FO (X:Ph->GP) (p:Ph) (g:Goroutine) (s:St):Prop where
 run:g.status=.running
 offers:g.offers=none
 quiet:Fam.DU p=true->s=.quiet
 live:Fam.DU p=false->s.q=false
 act:∀v wt sm v' wt' sm' es K,F.act p v wt sm=some ((v',wt',sm'),es,K)->
  ∃g',(∀w,F.WG w v wt sm->stepG P (Fam.C5 p) g w=.go g' (F.put w v' wt' sm') es)/\g'.status=.running/\LJ P X (Fam.C5 p) K g' (Fam.GZ p s)
 Hn:p=.Et∨p=.Dh->mayWake P g=true
 EA:p=.CY->∀w v wt,F.WG w v wt 0->stepG P false g w=.go {g with status:=.blocked} w #[]
 close:p=.Dh->∃g',g'.status=.running/\(∀w k,F.ChanAt w false k->stepG P false g w=.go g' (w.setChan F.ch 0 #[] true k k false) (closeEvents F.ch))/\∃q,QuitsD P q 0 g'
 send:∀k,p=.B7 k->∃v z,F.msg k v s.E/\(∀w,stepG P false g w=.comm g #[scase F.ch v z] true .send w #[])/\Way P false (X .CF) (served g undef) s
 go:∀j,p=.Fb j->∃g' child,g'.status=.running/\child.status=.running/\(∀w,stepG P true g w=.spawn g' child w #[])/\Way P false (X (F.start j)) child ⟨s.E,λ_=>none,false⟩/\Way P true (X (F.DX j)) g' s
 GY:p=.Fo->∃g' child,g'.status=.running/\child.status=.running/\(∀w,stepG P true g w=.spawn g' child w #[])/\Way P false (X .Cv) child ⟨s.E,λ_=>none,false⟩/\Way P true (X (.BP [] [])) g' s
 recv:∀ks vs,p=.BP ks vs->∃z,(∀w,stepG P true g w=.comm g #[rcase F.ch z] true (.recv true) w #[])/\
  (∀k v E',k<F.n->F.has k=true->k ∉ ks->Le s.E E'->(∀b,E' b≠none->s.H b=none)->F.msg k v E'->Way P true (X (.BP (ks++ [k]) (vs++ [v]))) (served g (.tuple #[v,.bool true])) ⟨E',s.H,false⟩)/\
  ((∀k,k<F.n->F.has k=true->k∈ks)->F.fin (served g (.tuple #[z,.bool false])) s)
theorem LJ.Ad{O:Ph->GP}(h:∀p g s,X p g s->O p g s){K:Nx}(x:LJ P X main K g s):LJ P O main K g s:=by
 cases K with
 | ph p=>exact Way.Ad (h p) x
 | gone d=>exact x
theorem FO.Ad{aa:Ph->GP}(h:∀p g s,X p g s->aa p g s)(x:FO P F X p g s):FO P F aa p g s where
 run:=x.run
 offers:=x.offers
 quiet:=x.quiet
 live:=x.live
 act v wt sm v' wt' sm' es ab e:=let ⟨g',K,O,U⟩:=x.act v wt sm v' wt' sm' es ab e;⟨g',K,O,U.Ad P h⟩
 Hn:=x.Hn
 EA:=x.EA
 close:=x.close
 send k e:=let ⟨v,z,K,O,U⟩:=x.send k e;⟨v,z,K,O,U.Ad (h _)⟩
 go j e:=let ⟨g',c,K,O,U,Y,Z⟩:=x.go j e;⟨g',c,K,O,U,Y.Ad (h _),Z.Ad (h _)⟩
 GY e:=let ⟨g',c,K,O,U,Y,Z⟩:=x.GY e;⟨g',c,K,O,U,Y.Ad (h _),Z.Ad (h _)⟩
 recv ks vs e:=let ⟨z,K,O,U⟩:=x.recv ks vs e;⟨z,K,λk v E' a b c d e f=>(O k v E' a b c d e f).Ad (h _),U⟩
def Stop(p:Ph)(g:Goroutine)(s:St):Prop:=∃X:Ph->GP,(∀p g s,X p g s->FO P F X p g s)/\X p g s
variable {P F}
theorem Stop.law(h:Stop P F p g s):FO P F (Stop P F) p g s:=by
 obtain⟨X,O,K⟩:=h;exact(O p g s K).Ad P F λp g s K=>⟨X,O,K⟩
theorem FO.stop(h:FO P F (Stop P F) p g s):Stop P F p g s:=
 ⟨λp g s=>FO P F (Stop P F) p g s,λ_ _ _ x=>x.Ad P F λ_ _ _ y=>y.law,h⟩
end
end Pal
namespace Pal
open Go Go.Conc
open Go.ConcN (upd upd_same upd_ne sumTo sumTo_upd sumTo_upd_out sumTo_congr le_sumTo sumTo_le)
def cU:Nx->Nat
 | .ph (.B7 _) | .ph .CF | .ph .Gr | .ph .Ii | .ph .Hm=>1
 | _=>0
def cL:Nx->Nat
 | .ph .Gp | .ph .GN=>1
 | _=>0
def cS:Nx->Nat
 | .ph .Et=>1
 | _=>0
def pend:Nx->Nat
 | .ph (.Hu _) | .ph (.GU _) | .ph (.Ga _) | .ph (.Fb _)=>1
 | _=>0
def got:Nx->List Nat
 | .ph (.BP ks _)=>ks
 | _=>[]
def EV:Nx->Prop
 | .gone _=>True
 | _=>False
def HG(n j:Nat)(c:Bool):Ph->Prop
 | .EX K | .HS K | .Hu K | .GU K | .Ga K | .Fb K=>K=j/\j<n/\c=false
 | .Fo=>j=n/\c=false
 | .BP _ _=>j=n/\c=true
 | _=>False
def Ih(F:Fam)(k:Nat):Nx->Prop
 | .gone _=>True
 | .ph (.B7 k')=>k'=k/\F.has k=true
 | .ph .CF | .ph .Gr | .ph .Ii | .ph .Hm | .ph .Gp | .ph .GN | .ph .Et=>True
 | _=>False
def HO:Nx->Prop
 | .gone _=>True
 | .ph .Cv | .ph (.FI _) | .ph (.Ho _) | .ph .HU | .ph .Ht | .ph .CY | .ph .GO | .ph .Ft | .ph .HT | .ph .GV | .ph .Dh=>True
 | _=>False
def Cs(x:Nx)(v wt sm L S:Nat)(cl:Bool):Prop:=
 match x with
 | .ph .Cv=>L=0/\S=0/\sm=0/\wt=0/\cl=false
 | .ph (.FI m)=>L=0/\S=0/\sm=0/\wt=0/\cl=false/\v<=m
 | .ph (.Ho m)=>L=0/\S=0/\sm=0/\wt=0/\cl=false/\v<=m/\1<=m
 | .ph .HU | .ph .Ht | .ph .CY=>L+S+sm+min v 1=1/\wt=L+min v 1/\cl=false
 | .ph .GO | .ph .Ft | .ph .HT | .ph .GV | .ph .Dh=>L=0/\S=0/\sm=0/\wt=0/\v=0/\cl=false
 | .gone _=>L=0/\S=0/\sm=0/\wt=0/\v=0/\cl=true
 | _=>False
structure BL (F:Fam) (N0 N j:Nat) (c:Bool) (φ:Nat->Nx) (v wt sm:Nat) (cl:Bool):Prop where
 pos:0<N0
 n1:1<=F.n
 IX:F.n<2147483647
 size:N=N0+j+c.toNat
 jn:j<=F.n
 cj:c=true->j=F.n
 main:∃p,φ 0=.ph p/\HG F.n j c p
 old:∀i,0<i->i<N0->EV (φ i)
 work:∀k,k<j->Ih F k (φ (N0+k))
 cls:c=true->HO (φ (N0+F.n))
 cnt:v=sumTo N (λi=>cU (φ i))+pend (φ 0)
 Ip:v<=j+pend (φ 0)
 mode:Cs (if c=true then φ (N0+F.n) else .ph .Cv) v wt sm (sumTo N λi=>cL (φ i)) (sumTo N λi=>cS (φ i)) cl
 Hr:∀k,k<j->F.has k=true->(φ (N0+k)=.ph (.B7 k)↔k ∉ got (φ 0))
 nd:(got (φ 0)).Nodup
 sub:∀k∈got (φ 0),k<j/\F.has k=true
variable{i:Nat}{x:Nx}{p:Ph}{es:Array Event}
section
variable {F:Fam}{N0 N j:Nat}{c:Bool}{φ:Nat->Nx}{v wt sm v' wt' sm':Nat}{cl cl':Bool}
theorem BL.Fs(h:BL F N0 N j c φ v wt sm cl)(hi:i<N):i=0∨(0<i/\i<N0)∨(∃k,k<j/\i=N0+k)∨(c=true/\i=N0+F.n):=by
 have:=h.size;rcases mj i with K | K;exact .inl K
 rcases lb i N0 with U | U;exact .inr (.inl ⟨K,U⟩)
 rcases lb i (N0+j) with Y | Y;exact .inr (.inr (.inl ⟨i - N0,by omega,by omega⟩))
 .cases O:c with
  | false=>rw[O] at this;simp at this;omega
  | true=>have e:=h.cj O;rw[O] at this;simp at this;exact .inr (.inr (.inr ⟨rfl,by omega⟩))
theorem BL.Se(h:BL F N0 N j c φ v wt sm cl):v<=F.n:=by
 have K:=h.Ip;obtain⟨p,O,hm⟩:=h.main;have:=h.jn;rw[O] at K;cases p<;>simp[HG] at hm<;>simp[pend] at K<;>omega
theorem BL.Ij(h:BL F N0 N j c φ v wt sm cl){k:Nat}(ae:k<j)(ag:Ih F k x)(ah:∀k',φ (N0+k)≠ .ph (.B7 k'))(ai:∀k',x≠ .ph (.B7 k'))
  (ar:v'+cU (φ (N0+k))=v+cU x)
  (hm:∀L S,L+cL (φ (N0+k))=(sumTo N λi=>cL (φ i))+cL x->S+cS (φ (N0+k))=(sumTo N λi=>cS (φ i))+cS x->Cs (if c=true then φ (N0+F.n) else .ph .Cv) v' wt' sm' L S cl'):
  BL F N0 N j c (upd φ (N0+k) x) v' wt' sm' cl':=by
 have au:=h.size;have av:=h.jn;have aw:=h.pos;have Y:N0+k<N:=by omega
 have K:upd φ (N0+k) x 0=φ 0:=upd_ne _ _ (by omega);have aj:(if c=true then upd φ (N0+k) x (N0+F.n) else .ph .Cv)=(if c=true then φ (N0+F.n) else .ph .Cv):=by
  cases O:c with
  | false=>rfl
  | true=>have:=h.cj O;simp only[lQ];exact upd_ne _ _ (by omega)
 have s1:=sumTo_upd φ x cU Y;have s2:=sumTo_upd φ x cL Y;have ak:=sumTo_upd φ x cS Y;have ay:=h.cnt;have az:=h.Ip;refine⟨h.pos,h.n1,h.IX,h.size,h.jn,h.cj,by rw[K];exact h.main,λi al am=>by rw[upd_ne _ _ (by omega)];exact h.old i al am,λk' U=>?_,λO=>?_,by rw[K];omega,?_,?_,λk' U hh=>?_,by rw[K];exact h.nd,by rw[K];exact h.sub⟩;by_cases e:k'=k;subst e;rw[upd_same];exact ag;rw[upd_ne _ _ (by omega)];exact h.work k' U;have:=h.cj O;rw[upd_ne _ _ (by omega)];exact h.cls O
 .rw [K];have:cU x<=1:=by cases x with
   | gone d=>simp[cU]
   | ph p=>cases p<;>simp[cU]
  have hw:=h.work k ae;have key:cU x<=cU (φ (N0+k))∨cU (φ (N0+k))<cU x:=by omega
  rcases key with hle | aA;omega
  ·
   have:(sumTo N λa=>cU (upd φ (N0+k) x a))<=j:=by
    have hb:∀M,M<=N->(sumTo M λa=>cU (upd φ (N0+k) x a))<=min (M - N0) j:=by
     intro M
     induction M with
     | zero=>intro _;simp[sumTo]
     | succ M an=>
      intro aB;have:=an (by omega);simp only[sumTo];have aC:cU (upd φ (N0+k) x M)<=1:=by
       generalize upd φ (N0+k) x M=y;cases y with
       | gone d=>simp[cU]
       | ph p=>cases p<;>simp[cU]
      have aa:(M<N0∨N0+j<=M)->cU (upd φ (N0+k) x M)=0:=by
       intro aD;rw[upd_ne _ _ (by omega)];rcases h.Fs (i:=M) (by omega) with rfl | ⟨a,b⟩ | ⟨k',a,rfl⟩ | ⟨a,rfl⟩;obtain⟨p,ao,hm⟩:=h.main;rw[ao];cases p<;>simp[HG] at hm<;>rfl
       .have:=h.old M a b;cases Z:φ M with
        | gone d=>rfl
        | ph p=>rw[Z] at this;exact this.elim
       .omega
       .have:=h.cls a;cases Z:φ (N0+F.n) with
        | gone d=>rfl
        | ph p=>rw[Z] at this;cases p<;>simp[HO] at this<;>rfl
      rcases lb M N0 with q | q;rw[aa (.inl q)];omega;rcases lb M (N0+j) with ab | ab;omega;rw[aa (.inr ab)];omega
    have:=hb N (la _);omega
   omega
 rw[aj];exact hm _ _ s2 ak;rw[K];by_cases e:k'=k;subst e;rw[upd_same];have:=h.Hr k' U hh;constructor;intro ap;exact absurd ap (ai k');intro aq;exact absurd (this.2 aq) (ah k');rw[upd_ne _ _ (by omega)];exact h.Hr k' U hh
theorem BL.F3(h:BL F N0 N j c φ v wt sm cl)(O:c=true)(Z:HO x)
  (hm:Cs x v wt' sm' (sumTo N λi=>cL (φ i)) (sumTo N λi=>cS (φ i)) cl'):
  BL F N0 N j c (upd φ (N0+F.n) x) v wt' sm' cl':=by
 have aa:=h.size;have ai:=h.pos;have aj:=h.cj O;have U:N0+F.n<N:=by rw[O] at aa;simp at aa;omega
 have K:upd φ (N0+F.n) x 0=φ 0:=upd_ne _ _ (by omega);have z:∀y,HO y->cU y=0/\cL y=0/\cS y=0:=by
  intro y ab;cases y with
  | gone d=>exact⟨rfl,rfl,rfl⟩
  | ph p=>cases p<;>simp[HO] at ab<;>exact⟨rfl,rfl,rfl⟩
 have z1:=z _ (h.cls O);have ak:=z x Z;have s1:=sumTo_upd φ x cU U;have s2:=sumTo_upd φ x cL U;have al:=sumTo_upd φ x cS U;have am:=h.cnt;refine⟨h.pos,h.n1,h.IX,h.size,h.jn,h.cj,by rw[K];exact h.main,λi ae ag=>by rw[upd_ne _ _ (by omega)];exact h.old i ae ag,λk' Y=>?_,λO=>?_,by rw[K];omega,by rw[K];exact h.Ip,?_,λk' Y hh=>?_,by rw[K];exact h.nd,by rw[K];exact h.sub⟩;rw[upd_ne _ _ (by omega)];exact h.work k' Y;rw[upd_same];exact Z
 .rw [d5 O,upd_same];have e2:(sumTo N λi=>cL (upd φ (N0+F.n) x i))=sumTo N λi=>cL (φ i):=by omega
  have ah:(sumTo N λi=>cS (upd φ (N0+F.n) x i))=sumTo N λi=>cS (φ i):=by omega
  rw[e2,ah];exact hm
 .rw [K,upd_ne _ _ (by omega)];exact h.Hr k' Y hh
theorem P6{n j:Nat}{c:Bool}(h:HG n j c p):cU (.ph p)=0/\cL (.ph p)=0/\cS (.ph p)=0:=by
 cases p<;>simp[HG] at h<;>exact⟨rfl,rfl,rfl⟩
theorem BL.Kt(h:BL F N0 N j c φ v wt sm cl)(Y:HG F.n j c p)(K:got (.ph p)=got (φ 0))(ak:v'+pend (φ 0)=v+pend (.ph p))(Z:v'<=j+pend (.ph p))
  (hm:Cs (if c=true then φ (N0+F.n) else .ph .Cv) v' wt' sm' (sumTo N λi=>cL (φ i)) (sumTo N λi=>cS (φ i)) cl'):
  BL F N0 N j c (upd φ 0 (.ph p)) v' wt' sm' cl':=by
 have al:=h.size;have am:=h.pos;have O:0<N:=by omega
 obtain⟨an,aa,ab⟩:=h.main;have z1:=P6 ab;have ao:=P6 Y;rw[← aa] at z1;have s1:=sumTo_upd φ (.ph p) cU O;have s2:=sumTo_upd φ (.ph p) cL O;have ap:=sumTo_upd φ (.ph p) cS O;have aq:=h.cnt;have ae:(if c=true then upd φ 0 (.ph p) (N0+F.n) else .ph .Cv)=(if c=true then φ (N0+F.n) else .ph .Cv):=by rw[upd_ne _ _ (by omega)]
 refine⟨h.pos,h.n1,h.IX,h.size,h.jn,h.cj,⟨p,upd_same _ _ _,Y⟩,λi ag ah=>by rw[upd_ne _ _ (by omega)];exact h.old i ag ah,λk' U=>by rw[upd_ne _ _ (by omega)];exact h.work k' U,λai=>by rw[upd_ne _ _ (by omega)];exact h.cls ai,by rw[upd_same];omega,by rw[upd_same];exact Z,?_,λk' U hh=>?_,by rw[upd_same,K];exact h.nd,by rw[upd_same,K];exact h.sub⟩
 .rw [ae];have e2:(sumTo N λi=>cL (upd φ 0 (.ph p) i))=sumTo N λi=>cL (φ i):=by omega
  have aj:(sumTo N λi=>cS (upd φ 0 (.ph p) i))=sumTo N λi=>cS (φ i):=by omega
  rw[e2,aj];exact hm
 .rw [upd_same,K,upd_ne _ _ (by omega)];exact h.Hr k' U hh
theorem BL.act(h:BL F N0 N j c φ v wt sm cl)(hi:i<N)(U:φ i=.ph p){ar:Nx}(K:F.act p v wt sm=some ((v',wt',sm'),es,ar)):
  BL F N0 N j c (upd φ i ar) v' wt' sm' cl:=by
 have O:=h.mode;have av:=h.Se;rcases h.Fs hi with rfl | ⟨a,b⟩ | ⟨k,aj,rfl⟩ | ⟨aa,rfl⟩
 ·
  obtain⟨an,au,ak⟩:=h.main;have:an=p:=by rw[au] at U;exact Nx.ph.inj U
  subst this;have aw:∀q,HG F.n j c q->(∀ks vs,q≠ .BP ks vs)->c=false:=by
   intro q ao ap;cases q<;>simp[HG] at ao<;>first | exact ao.2.2 | exact ao.2 | exact absurd rfl (ap _ _)
  have ah:=h.Ip;cases an<;>simp only[HG] at ak<;>(try exact ak.elim)<;>simp only[Fam.act] at K<;>(try (cases K;done));cases K;obtain⟨rfl,ai,rfl⟩:=ak;exact h.Kt (p:=.HS _) ⟨V,ai,V⟩ (by rw[U];rfl) (by rw[U];rfl) (by rw[U] at ah;exact ah) (by simpa [Cs] using O);split at K;rename_i ab;cases K;obtain⟨rfl,ai,rfl⟩:=ak;rw[U] at ah;simp only[pend,lT] at ah;simp only[ld,lK,Cs] at O;split;exact h.Kt (p:=.Hu _) ⟨V,ai,V⟩ (by rw[U];rfl) (by rw[U];simp[pend]) (by simp[pend];omega) ⟨O.1,O.2.1,O.2.2.1,V,O.2.2.2.2⟩;exact h.Kt (p:=.Ga _) ⟨V,ai,V⟩ (by rw[U];rfl) (by rw[U];simp[pend]) (by simp[pend];omega) ⟨O.1,O.2.1,O.2.2.1,V,O.2.2.2.2⟩;cases K;cases K;obtain⟨rfl,ai,rfl⟩:=ak;exact h.Kt (p:=.Ga _) ⟨V,ai,V⟩ (by rw[U];rfl) (by rw[U];rfl) (by rw[U] at ah;exact ah) (by simpa [Cs] using O);cases K;obtain⟨rfl,ai,rfl⟩:=ak;exact h.Kt (p:=.Fb _) ⟨V,ai,V⟩ (by rw[U];rfl) (by rw[U];rfl) (by rw[U] at ah;exact ah) (by simpa [Cs] using O);cases K;obtain⟨rfl,ai,rfl⟩:=ak;exact h.Kt (p:=.GU _) ⟨V,ai,V⟩ (by rw[U];rfl) (by rw[U];rfl) (by rw[U] at ah;exact ah) (by simpa [Cs] using O)
 .have:=h.old i a b;rw[U] at this;exact this.elim
 ·
  have hw:=h.work k aj;rw[U] at hw;have ay:∀q k',q=Nx.ph p->(∀k',p≠ .B7 k')->q≠ .ph (.B7 k'):=by
   rintro q k' rfl ap e;exact ap k' (Nx.ph.inj e)
  cases p<;>simp only[Ih] at hw<;>(try exact hw.elim)<;>simp only[Fam.act] at K<;>(try (cases K;done));cases K;refine h.Ij aj (x:=.ph .Ii) trivial (λk'=>by rw[U];simp) (by simp) (by rw[U];rfl) λL S Y Z=>?_;rw[U] at Y Z;simp only[cL,cS,lT] at Y Z;subst Y Z;exact O;cases K;refine h.Ij aj (x:=.ph .Hm) trivial (λk'=>by rw[U];simp) (by simp) (by rw[U];rfl) λL S Y Z=>?_;rw[U] at Y Z;simp only[cL,cS,lT] at Y Z;subst Y Z;exact O
  .split at K
   .rename_i ab;cases K;have am:∀y ae ag L S,y=(if c=true then φ (N0+F.n) else .ph .Cv)->Cs y v wt sm ae ag cl->(if v=1/\wt=1 then L=ae+1 else L=ae)->S=ag->Cs y (v - 1) wt sm L S cl:=by
     intro y ae ag L S az hm Y Z;cases y with
     | gone d=>simp only[Cs] at hm ⊢;split at Y<;>omega
     | ph q=>
      cases q<;>simp only[Cs] at hm ⊢<;>(try exact hm)<;>(try (split at Y<;>omega));split at Y;exfalso;omega;exact⟨by omega,by omega,by omega,by omega,hm.2.2.2.2⟩;split at Y;exfalso;omega;exact⟨by omega,by omega,by omega,by omega,hm.2.2.2.2.1,by omega⟩;split at Y;exfalso;omega;exact⟨by omega,by omega,by omega,by omega,hm.2.2.2.2.1,by omega,by omega⟩;split at Y;exact⟨by omega,by omega,hm.2.2⟩;exact⟨by omega,by omega,hm.2.2⟩;split at Y;exact⟨by omega,by omega,hm.2.2⟩;exact⟨by omega,by omega,hm.2.2⟩;split at Y;exact⟨by omega,by omega,hm.2.2⟩;exact⟨by omega,by omega,hm.2.2⟩
    split;rename_i al;refine h.Ij aj (x:=.ph .Gp) trivial (λk'=>by rw[U];simp) (by simp) (by rw[U];simp[cU];omega) λL S Y Z=>?_;rw[U] at Y Z;simp only[cL,cS,lT] at Y Z;exact am _ _ _ L S V O (by rw[d5 al];exact Y) Z;rename_i al;refine h.Ij aj (x:=.gone 1) trivial (λk'=>by rw[U];simp) (by simp) (by rw[U];simp[cU];omega) λL S Y Z=>?_;rw[U] at Y Z;simp only[cL,cS,lT] at Y Z;exact am _ _ _ L S V O (by rw[d7 al];exact Y) Z
   .cases K
  .split at K
   .rename_i ab;cases K;refine h.Ij aj (x:=.ph .GN) trivial (λk'=>by rw[U];simp) (by simp) (by rw[U];simp[cU];omega) λL S Y Z=>?_;rw[U] at Y Z;simp only[cL,cS,lT] at Y Z;have e:L=sumTo N λi=>cL (φ i):=by
     have aA:L+1=(sumTo N λi=>cL (φ i))+1:=Y;omega
    obtain⟨al,aq⟩:=ab;subst e Z al aq;exact O
   .cases K
  .split at K
   .rename_i ab;cases K;obtain⟨al,aq⟩:=ab;subst al aq;refine h.Ij aj (x:=.ph .Et) trivial (λk'=>by rw[U];simp) (by simp) (by rw[U];simp[cU]) λL S Y Z=>?_;rw[U] at Y Z;simp only[cL,cS,lT] at Y Z;have am:∀y ae ag,Cs y 0 1 sm ae ag cl->L+1=ae->S=ag+1->Cs y 0 0 sm L S cl:=by
     intro y ae ag hm Y Z;cases y with
     | gone d=>simp only[Cs] at hm ⊢;omega
     | ph q=>
      cases q<;>simp only[Cs] at hm ⊢<;>(try exact hm)<;>(try (exfalso;omega));exact⟨by omega,by omega,hm.2.2⟩;exact⟨by omega,by omega,hm.2.2⟩;exact⟨by omega,by omega,hm.2.2⟩
    exact am _ _ _ O Y Z
   .cases K
  .split at K
   .rename_i ab;cases K;subst ab;refine h.Ij aj (x:=.gone 1) trivial (λk'=>by rw[U];simp) (by simp) (by rw[U];simp[cU]) λL S Y Z=>?_;rw[U] at Y Z;simp only[cL,cS,lT] at Y Z;have am:∀y ae ag,Cs y v wt 0 ae ag cl->L=ae->S+1=ag->Cs y v wt 1 L S cl:=by
     intro y ae ag hm Y Z;cases y with
     | gone d=>simp only[Cs] at hm ⊢;omega
     | ph q=>
      cases q<;>simp only[Cs] at hm ⊢<;>(try exact hm)<;>(try (exfalso;omega));exact⟨by omega,by omega,hm.2.2⟩;exact⟨by omega,by omega,hm.2.2⟩;exact⟨by omega,by omega,hm.2.2⟩
    exact am _ _ _ O Y Z
   .cases K
  .cases K;refine h.Ij aj (x:=.ph .Gr) trivial (λk'=>by rw[U];simp) (by simp) (by rw[U];rfl) λL S Y Z=>?_;rw[U] at Y Z;simp only[cL,cS,lT] at Y Z;subst Y Z;exact O
 ·
  have hw:=h.cls aa;rw[d5 aa,U] at O;rw[U] at hw;obtain⟨an,au,ak⟩:=h.main;cases p<;>simp only[HO] at hw<;>(try exact hw.elim)<;>simp only[Fam.act] at K<;>(try (cases K;done))<;>simp only[Cs] at O;cases K;exact h.F3 aa (x:=.ph (.FI F.n)) trivial ⟨O.1,O.2.1,O.2.2.1,O.2.2.2.1,O.2.2.2.2,av⟩;split at K;rename_i m ab;cases K;split;exact h.F3 aa (x:=.ph .Ft) trivial ⟨O.1,O.2.1,O.2.2.1,V,by assumption,O.2.2.2.2.1⟩;exact h.F3 aa (x:=.ph (.Ho _)) trivial ⟨O.1,O.2.1,O.2.2.1,V,O.2.2.2.2.1,la _,by omega⟩;cases K;split at K;rename_i m ab;split at K;cases K;exact h.F3 aa (x:=.ph .HU) trivial ⟨by omega,by omega,O.2.2.2.2.1⟩;cases K;exact h.F3 aa (x:=.ph (.FI _)) trivial ⟨O.1,O.2.1,O.2.2.1,V,O.2.2.2.2.1,by omega⟩;cases K;cases K;exact h.F3 aa (x:=.ph .CY) trivial O;split at K;rename_i ab;cases K;exact h.F3 aa (x:=.ph .GO) trivial ⟨by omega,by omega,V,by omega,by omega,O.2.2⟩;cases K;split at K;rename_i ab;obtain⟨rfl,rfl⟩:=ab;cases K;exact h.F3 aa (x:=.ph .Ft) trivial O;cases K;cases K;exact h.F3 aa (x:=.ph .HT) trivial O;cases K;exact h.F3 aa (x:=.ph .Dh) trivial O;cases K;exact h.F3 aa (x:=.ph .Ht) trivial O;cases K;exact h.F3 aa (x:=.ph .GV) trivial O
end
open Go.ConcN (fork_knows)
variable{ks:List Nat}{vs:Lv_}{K d:Nat}
section
variable {F:Fam}{N0 N j:Nat}{c:Bool}{φ:Nat->Nx}{v wt sm:Nat}{cl:Bool}
theorem BL.spawn(h:BL F N0 N j c φ v wt sm cl)(U:φ 0=.ph (.Fb j)):
  BL F N0 (N+1) (j+1) c (upd (upd φ N (.ph (F.start j))) 0 (.ph (F.DX j))) v wt sm cl:=by
 obtain⟨ak,al,am⟩:=h.main;obtain rfl:ak=.Fb j:=by rw[al] at U;exact Nx.ph.inj U
 obtain⟨_,ar,rfl⟩:=am;have an:=h.size;have au:=h.pos;simp only[Bool.toNat_false,lT] at an;have Z:cU (.ph (F.start j))=1/\cL (.ph (F.start j))=0/\cS (.ph (F.start j))=0:=by
  unfold Fam.start;split<;>exact⟨rfl,rfl,rfl⟩
 have K:cU (.ph (F.DX j))=0/\cL (.ph (F.DX j))=0/\cS (.ph (F.DX j))=0/\pend (.ph (F.DX j))=0/\got (.ph (F.DX j))=[]:=by
  unfold Fam.DX;split<;>exact⟨rfl,rfl,rfl,rfl,rfl⟩
 have aa:cU (φ 0)=0/\cL (φ 0)=0/\cS (φ 0)=0:=by rw[U];exact⟨V,V,V⟩
 let Y:Nat->Nx:=upd (upd φ N (.ph (F.start j))) 0 (.ph (F.DX j));have O:Y 0=.ph (F.DX j):=upd_same _ _ _;have ab:Y N=.ph (F.start j):=by show upd _ _ _ _=_;rw[upd_ne _ _ (by omega),upd_same]
 have ae:∀i,0<i->i≠N->Y i=φ i:=λi ag ah=>by show upd _ _ _ _=_;rw[upd_ne _ _ (by omega),upd_ne _ _ ah]
 have sum:∀f:Nx->Nat,f (φ 0)=0->f (.ph (F.DX j))=0->(sumTo (N+1) λi=>f (Y i))=(sumTo N λi=>f (φ i))+f (.ph (F.start j)):=by
  intro f f0 f1;simp only[sumTo,ab];congr 1;have ao:0<N:=by omega
  have:=sumTo_upd (upd φ N (.ph (F.start j))) (.ph (F.DX j)) f ao;have e2:upd φ N (.ph (F.start j)) 0=φ 0:=upd_ne _ _ (by omega);rw[e2,f0,f1] at this;have av:=sumTo_upd_out φ (.ph (F.start j)) f (i:=N) (j:=N) (la _);show sumTo N (λi=>f (upd (upd φ N (.ph (F.start j))) 0 (.ph (F.DX j)) i))=_;omega
 have ai:=h.cnt;have aj:=h.Ip;rw[U] at ai aj;simp only[pend] at ai aj;show BL F N0 (N+1) (j+1) false Y v wt sm cl;have ap:got (φ 0)=[]:=by rw[U];rfl
 refine⟨h.pos,h.n1,h.IX,by simp;omega,by omega,by simp,⟨F.DX j,O,?_⟩,λi ag ah=>by rw[ae i ag (by omega)];exact h.old i ag ah,λk aq=>?_,by simp,?_,?_,?_,λk aq hh=>?_,by rw[O,K.2.2.2.2];exact .nil,by rw[O,K.2.2.2.2];simp⟩;unfold Fam.DX;split;exact⟨by assumption,V⟩;exact⟨V,by omega,V⟩;by_cases e:k=j;subst e;rw[show N0+k=N by omega,ab];unfold Fam.start;split;exact⟨V,by assumption⟩;trivial;rw[ae _ (by omega) (by omega)];exact h.work k (by omega);rw[O,K.2.2.2.1,sum cU aa.1 K.1,Z.1];exact ai;rw[O,K.2.2.2.1];exact aj;have hm:=h.mode;simp only[ld,lK] at hm ⊢;rw[sum cL aa.2.1 K.2.1,sum cS aa.2.2 K.2.2.1,Z.2.1,Z.2.2];exact hm
 .rw [O,K.2.2.2.2];by_cases e:k=j;subst e;rw[show N0+k=N by omega,ab];unfold Fam.start;simp[hh]
  .rw [ae _ (by omega) (by omega)];have:=h.Hr k (by omega) hh
   rwa[ap] at this
theorem BL.XO(h:BL F N0 N j c φ v wt sm cl)(O:φ 0=.ph .Fo):
  BL F N0 (N+1) j true (upd (upd φ N (.ph .Cv)) 0 (.ph (.BP [] []))) v wt sm cl:=by
 obtain⟨ak,al,am⟩:=h.main;obtain rfl:ak=.Fo:=by rw[al] at O;exact Nx.ph.inj O
 obtain⟨aj,rfl⟩:=am;have an:=h.size;have aq:=h.pos;simp only[Bool.toNat_false,lT] at an;have Y:cU (φ 0)=0/\cL (φ 0)=0/\cS (φ 0)=0:=by rw[O];exact⟨V,V,V⟩
 let U:Nat->Nx:=upd (upd φ N (.ph .Cv)) 0 (.ph (.BP [] []));have K:U 0=.ph (.BP [] []):=upd_same _ _ _;have Z:U N=.ph .Cv:=by show upd _ _ _ _=_;rw[upd_ne _ _ (by omega),upd_same]
 have aa:∀i,0<i->i≠N->U i=φ i:=λi ab ae=>by show upd _ _ _ _=_;rw[upd_ne _ _ (by omega),upd_ne _ _ ae]
 have sum:∀f:Nx->Nat,f (φ 0)=0->f (.ph (.BP [] []))=0->f (.ph .Cv)=0->(sumTo (N+1) λi=>f (U i))=(sumTo N λi=>f (φ i)):=by
  intro f f0 f1 f2;simp only[sumTo,Z,f2];have ao:0<N:=by omega
  have:=sumTo_upd (upd φ N (.ph .Cv)) (.ph (.BP [] [])) f ao;have e2:upd φ N (.ph .Cv) 0=φ 0:=upd_ne _ _ (by omega);rw[e2,f0,f1] at this;have ar:=sumTo_upd_out φ (.ph .Cv) f (i:=N) (j:=N) (la _);show sumTo N (λi=>f (upd (upd φ N (.ph .Cv)) 0 (.ph (.BP [] [])) i))+0=_;omega
 have ag:=h.cnt;have ah:=h.Ip;rw[O] at ag ah;simp only[pend] at ag ah;show BL F N0 (N+1) j true U v wt sm cl;have ap:got (φ 0)=[]:=by rw[O];rfl
 refine⟨h.pos,h.n1,h.IX,by simp;omega,h.jn,λ_=>aj,⟨.BP [] [],K,aj,V⟩,λi ab ae=>by rw[aa i ab (by omega)];exact h.old i ab ae,λk ai=>?_,λ_=>by rw[show N0+F.n=N by omega,Z];trivial,?_,?_,?_,λk ai hh=>?_,by rw[K];exact .nil,by rw[K];simp[got]⟩;rw[aa _ (by omega) (by omega)];exact h.work k ai;rw[K,sum cU Y.1 rfl rfl];exact ag;rw[K];exact ah;have hm:=h.mode;simp only[ld,lK,lQ] at hm ⊢;rw[show N0+F.n=N by omega,Z,sum cL Y.2.1 rfl rfl,sum cS Y.2.2 rfl rfl];exact hm
 .rw [K];rw[aa _ (by omega) (by omega)];have:=h.Hr k ai hh
  rwa[ap] at this
theorem BL.meet(h:BL F N0 N j c φ v wt sm cl){k:Nat}{x:Value}(K:φ 0=.ph (.BP ks vs))(ae:k<j)(hw:φ (N0+k)=.ph (.B7 k)):
  BL F N0 N j c (upd (upd φ (N0+k) (.ph .CF)) 0 (.ph (.BP (ks++ [k]) (vs++ [x])))) v wt sm cl:=by
 obtain⟨al,am,an⟩:=h.main;obtain rfl:al=.BP ks vs:=by rw[am] at K;exact Nx.ph.inj K
 obtain⟨ao,rfl⟩:=an;have ap:=h.size;have aw:=h.pos;have ag:F.has k=true:=by have:=h.work k ae;rw[hw] at this;exact this.2
 have aq:k ∉ ks:=by have:=(h.Hr k ae ag).1 hw;rwa[K] at this
 let U:Nat->Nx:=upd (upd φ (N0+k) (.ph .CF)) 0 (.ph (.BP (ks++ [k]) (vs++ [x])));have O:U 0=.ph (.BP (ks++ [k]) (vs++ [x])):=upd_same _ _ _;have ah:U (N0+k)=.ph .CF:=by show upd _ _ _ _=_;rw[upd_ne _ _ (by omega),upd_same]
 have Y:∀i,0<i->i≠N0+k->U i=φ i:=λi Z aa=>by show upd _ _ _ _=_;rw[upd_ne _ _ (by omega),upd_ne _ _ aa]
 have sum:∀f:Nx->Nat,f (φ 0)=f (.ph (.BP (ks++ [k]) (vs++ [x])))->f (.ph (.B7 k))=f (.ph .CF)->(sumTo N λi=>f (U i))=(sumTo N λi=>f (φ i)):=by
  intro f f0 f1;have ar:0<N:=by omega
  have Z:=sumTo_upd (upd φ (N0+k) (.ph .CF)) (.ph (.BP (ks++ [k]) (vs++ [x]))) f ar;have e2:upd φ (N0+k) (.ph .CF) 0=φ 0:=upd_ne _ _ (by omega);have aa:=sumTo_upd φ (.ph .CF) f (show N0+k<N by omega);rw[e2] at Z;rw[hw] at aa;show sumTo N (λi=>f (upd (upd φ (N0+k) (.ph .CF)) 0 (.ph (.BP (ks++ [k]) (vs++ [x]))) i))=_;omega
 have ai:=h.cnt;have aj:=h.Ip;rw[K] at ai aj;show BL F N0 N j true U v wt sm cl;refine⟨h.pos,h.n1,h.IX,ap,h.jn,h.cj,⟨_,O,ao,V⟩,λi Z aa=>by rw[Y i Z (by omega)];exact h.old i Z aa,λk' ab=>?_,λau=>?_,?_,?_,?_,λk' ab hh=>?_,?_,?_⟩;by_cases e:k'=k;subst e;rw[ah];trivial;rw[Y _ (by omega) (by omega)];exact h.work k' ab;rw[Y _ (by omega) (by omega)];exact h.cls au;rw[O,sum cU (by rw[K];rfl) rfl];exact ai;rw[O];exact aj;have hm:=h.mode;simp only[lQ] at hm ⊢;rw[Y _ (by omega) (by omega),sum cL (by rw[K];rfl) rfl,sum cS (by rw[K];rfl) rfl];exact hm;rw[O];show _↔k' ∉ ks++ [k];by_cases e:k'=k;subst e;rw[ah];simp;rw[Y _ (by omega) (by omega)];have:=h.Hr k' ab hh;rw[K] at this;rw[this];show k' ∉ ks↔_;simp[e];rw[O];have:=h.nd;rw[K] at this;show(ks++ [k]).Nodup;rw[lG];exact⟨this,by simp,λa av b hb=>by simp at hb;subst hb;exact λe=>aq (e▸av)⟩;rw[O];intro k' ab;have ak:=h.sub;rw[K] at ak;rcases lm.1 ab with q | q;exact ak k' q;simp at q;subst q;exact⟨ae,ag⟩
theorem BL.close(h:BL F N0 N j c φ v wt sm cl)(K:c=true)(O:φ (N0+F.n)=.ph .Dh):BL F N0 N j c (upd φ (N0+F.n) (.gone 0)) v wt sm true:=by
 have hm:=h.mode;rw[d5 K,O] at hm;exact h.F3 K (x:=.gone 0) trivial ⟨hm.1,hm.2.1,hm.2.2.1,hm.2.2.2.1,hm.2.2.2.2.1,V⟩
theorem BL.leave(h:BL F N0 N j c φ v wt sm cl)(hi:i<N)(O:φ i=.gone d):BL F N0 N j c (upd φ i (.gone K)) v wt sm cl:=by
 rcases h.Fs hi with rfl | ⟨a,b⟩ | ⟨k,Y,rfl⟩ | ⟨Z,rfl⟩;obtain⟨p,aa,_⟩:=h.main;rw[O] at aa;cases aa
 .have ah:=hi;have z:∀f:Nx->Nat,f (.gone d)=0->f (.gone K)=0->(sumTo N λa=>f (upd φ i (.gone K) a))=sumTo N λa=>f (φ a):=by
   intro f f0 f1;have:=sumTo_upd φ (.gone K) f ah;rw[O] at this;omega
  have al:=h.size;have U:upd φ i (.gone K) 0=φ 0:=upd_ne _ _ (by omega);refine⟨h.pos,h.n1,h.IX,h.size,h.jn,h.cj,by rw[U];exact h.main,λab ai aj=>?_,λk Y=>by rw[upd_ne _ _ (by omega)];exact h.work k Y,λZ=>by rw[upd_ne _ _ (by omega)];exact h.cls Z,by rw[U,z cU rfl rfl];exact h.cnt,by rw[U];exact h.Ip,?_,λk Y hh=>by rw[U,upd_ne _ _ (by omega)];exact h.Hr k Y hh,by rw[U];exact h.nd,by rw[U];exact h.sub⟩;by_cases e:ab=i;subst e;rw[upd_same];trivial;rw[upd_ne _ _ e];exact h.old ab ai aj;rw[z cL rfl rfl,z cS rfl rfl,upd_ne _ _ (by omega)];exact h.mode
 refine h.Ij Y (x:=.gone K) trivial (by rw[O];simp) (by simp) (by rw[O];rfl) λL S ae ag=>?_;rw[O] at ae ag;have ak:L=sumTo N λi=>cL (φ i):=ae;have e2:S=sumTo N λi=>cS (φ i):=ag;subst ak e2;exact h.mode;have hm:=h.mode;rw[d5 Z,O] at hm;exact h.F3 Z (x:=.gone K) trivial hm
theorem BL.Ow(h:BL F N0 N j c φ v wt sm cl)(O:c=true)(U:φ (N0+F.n)=.ph .GO∨φ (N0+F.n)=.ph .Ft∨φ (N0+F.n)=.ph .GV∨φ (N0+F.n)=.ph .Dh∨EV (φ (N0+F.n))):∀k,k<j->EV (φ (N0+k)):=by
 intro k Y;have hm:=h.mode;rw[d5 O] at hm;have Z:=h.size;have aa:=h.cnt;have ab:cU (φ (N0+k))<=sumTo N λi=>cU (φ i):=le_sumTo (f:=λi=>cU (φ i)) (show N0+k<N by omega);have ae:cL (φ (N0+k))<=sumTo N λi=>cL (φ i):=le_sumTo (f:=λi=>cL (φ i)) (show N0+k<N by omega);have ag:cS (φ (N0+k))<=sumTo N λi=>cS (φ i):=le_sumTo (f:=λi=>cS (φ i)) (show N0+k<N by omega);have ah:v=0/\(sumTo N λi=>cL (φ i))=0/\(sumTo N λi=>cS (φ i))=0:=by
  rcases U with e | e | e | e | e;rw[e] at hm;exact⟨hm.2.2.2.2.1,hm.1,hm.2.1⟩;rw[e] at hm;exact⟨hm.2.2.2.2.1,hm.1,hm.2.1⟩;rw[e] at hm;exact⟨hm.2.2.2.2.1,hm.1,hm.2.1⟩;rw[e] at hm;exact⟨hm.2.2.2.2.1,hm.1,hm.2.1⟩
  .cases K:φ (N0+F.n) with
   | gone d=>rw[K] at hm;exact⟨hm.2.2.2.2.1,hm.1,hm.2.1⟩
   | ph p=>rw[K] at e;exact e.elim
 have hw:=h.work k Y;cases K:φ (N0+k) with
 | gone d=>trivial
 | ph p=>
  have ai:1<=cU (φ (N0+k))+cL (φ (N0+k))+cS (φ (N0+k)):=by
   rw[K] at hw ⊢;cases p<;>simp only[Ih] at hw<;>simp[cU,cL,cS]
  exfalso;omega
end
open Go.ConcN (RelBy)
def Eg:Nx->Nat
 | .gone d=>d
 | .ph .Hm | .ph .Gp | .ph .GN | .ph .Et=>1
 | .ph (.FI _) | .ph (.Ho _) | .ph .HU | .ph .Ht | .ph .CY | .ph .GO | .ph .Ft=>1
 | .ph (.HS _) | .ph (.Hu _) | .ph (.GU _) | .ph (.Ga _)=>1
 | _=>0
def late:Nx->Prop
 | .ph (.B7 _) | .ph .CF | .ph .Gr=>False
 | _=>True
def Jz(F:Fam)(N0 t0:Nat)(t:Trace)(q:Nat):Prop:=
 t.act? q=some (.mark (.acquire F.sA))/\t.g? q=some (N0+F.n)/\t.heard q/\∀k,k<F.n->∃ρ,t0<=ρ/\ρ<q/\RelBy F.sA t (N0+k) ρ
def LI(F:Fam)(N0 t0:Nat)(t:Trace)(p:Nat):Prop:=
 t.act? p=some (.close F.ch)/\t.g? p=some (N0+F.n)/\t.heard p/\(∃q,q<p/\Jz F N0 t0 t q)/\∀x,p<x->t.g? x=some (N0+F.n)->¬t.counts x
structure Dx (F:Fam) (N0 t0 N j:Nat) (c:Bool) (φ:Nat->Nx) (t:Trace):Prop where
 deaf:∀i,i<N->Deaf t i=Eg (φ i)
 above:∀i,N<=i->Deaf t i=0
 plain:∀x a b,touchAt t x=some a->Dg a.loc=some b->(b=F.wg∨b=F.ch)->a.kind=.plain->∀i,i<N->(i=0∨N0<=i)->Knows t i x
 said:∀x a b,touchAt t x=some a->Dg a.loc=some b->(b=F.wg∨b=F.ch)->a.kind=.said->Knows t (if c=true then N0+F.n else 0) x
 over:∀x g,t.g? x=some g->g≠0->t.counts x->(∃y,t.g? y=some 0/\HappensBefore t x y)∨(N0<=g/\g<N)
 norel:∀x,t0<=x->t.act? x≠some (.mark (.release F.sA))
 Ly:t0<=t.size
 rel:∀k,k<j->late (φ (N0+k))->∃ρ,t0<=ρ/\RelBy F.sA t (N0+k) ρ
 acq:c=true->(φ (N0+F.n)=.ph .Dh∨EV (φ (N0+F.n)))->∃q,Jz F N0 t0 t q
 Ku:c=true->EV (φ (N0+F.n))->∃p,LI F N0 t0 t p
variable{fn:FuncId}{pos:String}{q:Nat}
section
variable {F:Fam}{N0 t0 N j:Nat}{c:Bool}{φ:Nat->Nx}{t u:Trace}
def EvS(F:Fam)(K:Prop)(e:Event):Prop:=
 (∀a,(MemAct.ofEvent e).touch?=some a->(∃b,Dg a.loc=some b/\(b=F.wg∨b=F.ch))/\a.kind≠ .plain/\(a.kind=.said->K))/\e.loc≠ .mark (.release F.sA)
theorem Dx.noRace(h:Dx F N0 t0 N j c φ t)(Z:∀said,¬Race said t)(hi:i<N)(aa:i=0∨N0<=i)
  (ab:∀e∈es,EvS F (i=if c=true then N0+F.n else 0) e):∀said,¬Race said (t++MemOp.ofEvents i fn pos es):=by
 intro said;refine noRace_append (g:=i) (Z said) (λop K=>by obtain⟨e,_,rfl⟩:=mem_ofEvents K;rfl) λx a O op K d hd ae=>?_;obtain⟨e,he,rfl⟩:=mem_ofEvents K;let⟨⟨b,hb,U⟩,ag,ah⟩:=(ab e he).1 d hd;obtain⟨ai,hm,al,aj⟩:=ae;have Y:Dg a.loc=some b:=by rw[ai];exact hb
 rcases aj with q | q | ⟨_,q,ak⟩;exact h.plain x a b O Y U q i hi aa;exact absurd q ag
 .have:=h.said x a b O Y U q
  rwa[← ah ak] at this
theorem Jz.app(h:Jz F N0 t0 t q)(Y:∀k ρ,k<F.n->RelBy F.sA t (N0+k) ρ->RelBy F.sA (t++u) (N0+k) ρ):Jz F N0 t0 (t++u) q:=by
 obtain⟨O,Z,aa,ab⟩:=h;have K:=lt_of_act? O;exact⟨by rw[act?_old K];exact O,by rw[g?_old K];exact Z,(heard_old K).2 aa,λk U=>let ⟨ρ,a,b,d⟩:=ab k U;⟨ρ,a,b,Y k ρ U d⟩⟩
theorem LI.app{p:Nat}(h:LI F N0 t0 t p)(Z:∀k ρ,k<F.n->RelBy F.sA t (N0+k) ρ->RelBy F.sA (t++u) (N0+k) ρ)(aa:∀x,t.size<=x->(t++u).g? x=some (N0+F.n)->¬(t++u).counts x):LI F N0 t0 (t++u) p:=by
 obtain⟨O,ab,ae,⟨q,ag,ah⟩,ai⟩:=h;have K:=lt_of_act? O;refine⟨by rw[act?_old K];exact O,by rw[g?_old K];exact ab,(heard_old K).2 ae,⟨q,ag,ah.app Z⟩,λx aj U Y=>?_⟩;rcases lb x t.size with q | q;exact ai x aj (by rw[← g?_old (u:=u) q];exact U) ((counts_old q).1 Y);exact aa x q U Y
theorem QF(h:∀x g,t.g? x=some g->g≠0->t.counts x->(∃y,t.g? y=some 0/\HappensBefore t x y)∨(N0<=g/\g<N))(hu:∀op∈u,op.g=0∨(N0<=op.g/\op.g<N)∨op.act.touch?=none):
  ∀x g,(t++u).g? x=some g->g≠0->(t++u).counts x->(∃y,(t++u).g? y=some 0/\HappensBefore (t++u) x y)∨(N0<=g/\g<N):=by
 intro x g O U Y;rcases lb x t.size with q | q
 .rcases h x g (by rw[← g?_old (u:=u) q];exact O) U ((counts_old q).1 Y) with⟨y,K,hb⟩ | hh
  .have ae:y<t.size:=by
    unfold Trace.g? at K;let⟨z,ag,_⟩:=lJ.1 K;exact lt_size_of_getElem? ag
   exact .inl ⟨y,by rw[g?_old ae];exact K,hb_app u hb⟩
  .exact .inr hh
 .obtain⟨a,ah,_⟩:=Y;let⟨op,Z,aa⟩:=touch_of ah;have ab:op.g=g:=by simpa [Trace.g?,Z] using O
  rcases getElem?_append_cases Z with⟨aj,_⟩ | ⟨_,ai⟩;omega;rcases hu op ai with z | z | z;exact absurd (ab▸z) U;exact .inr (ab▸z);rw[z] at aa;cases aa
theorem P5(h:∀x,t0<=x->t.act? x≠some (.mark (.release F.sA)))(hu:∀op∈u,op.act≠ .mark (.release F.sA)):∀x,t0<=x->(t++u).act? x≠some (.mark (.release F.sA)):=by
 intro x O e;let⟨op,U,K⟩:=lJ.1 e;rcases getElem?_append_cases U with⟨_,Y⟩ | ⟨_,Z⟩;exact h x O (by rw[act?_of Y,K]);exact hu op Z K
theorem So{g:Nat}(hu:∀op∈u,op.g=i)(K:i≠g):∀x,t.size<=x->(t++u).g? x=some g->¬(t++u).counts x:=by
 intro x aa O;let⟨op,U,Y⟩:=lJ.1 O;rcases getElem?_append_cases U with⟨ab,_⟩ | ⟨_,Z⟩;omega;exact absurd ((hu op Z).symm.trans Y) K
theorem Pn{g:Nat}(hu:∀op∈u,op.g=g->op.act.touch?=none):∀x,t.size<=x->(t++u).g? x=some g->¬(t++u).counts x:=by
 intro x ab U Y;obtain⟨a,Z,_⟩:=Y;let⟨op,K,O⟩:=touch_of Z;rcases getElem?_append_cases K with⟨ae,_⟩ | ⟨_,aa⟩;omega;rw[hu op aa (by simpa [Trace.g?,K] using U)] at O;cases O
theorem Dx.app(h:Dx F N0 t0 N j c φ t)(hi:i<N)(aG:j<=F.n)
  (hd:deafBehind (Eg (φ i)) es=Eg x)
  (am:∀e∈es,(∀a b,(MemAct.ofEvent e).touch?=some a->Dg a.loc=some b->(b=F.wg∨b=F.ch)->a.kind≠ .plain/\(a.kind=.said->i=if c=true then N0+F.n else 0))/\e.loc≠ .mark (.release F.sA))
  (aw:(i=0∨N0<=i)∨∀e∈es,(MemAct.ofEvent e).touch?=none)
  (an:c=true->(φ (N0+F.n)=.ph .Dh∨EV (φ (N0+F.n)))->∀k,k<F.n->late (φ (N0+k)))
  (ay:∀k,k<F.n->i=N0+k->late (φ i)->∀ρ,RelBy F.sA t i ρ->RelBy F.sA (t++MemOp.ofEvents i fn pos es) i ρ)
  (az:∀k,k<j->i=N0+k->late x->¬late (φ i)->∃ρ,t0<=ρ/\RelBy F.sA (t++MemOp.ofEvents i fn pos es) i ρ)
  (aA:c=true->i=N0+F.n->(x=.ph .Dh∨EV x)->(∃q,Jz F N0 t0 (t++MemOp.ofEvents i fn pos es) q)∨(φ i=.ph .Dh∨EV (φ i)))
  (aB:c=true->i=N0+F.n->EV x->(∃p,LI F N0 t0 (t++MemOp.ofEvents i fn pos es) p)∨(EV (φ i)/\∀e∈es,(MemAct.ofEvent e).touch?=none)):
  Dx F N0 t0 N j c (upd φ i x) (t++MemOp.ofEvents i fn pos es):=by
 generalize hu:MemOp.ofEvents i fn pos es=u at*;have aa:∀op∈u,op.g=i:=λop O=>by rw[← hu] at O;obtain⟨e,_,rfl⟩:=mem_ofEvents O;rfl
 have ak:∀op∈u,∃e∈es,op.act=MemAct.ofEvent e:=λop O=>by rw[← hu] at O;obtain⟨e,he,rfl⟩:=mem_ofEvents O;exact⟨e,he,V⟩
 have hold:∀{y a},touchAt (t++u) y=some a->touchAt t y=some a∨(Knows (t++u) i y/\∃e∈es,(MemAct.ofEvent e).touch?=some a):=by
  intro y a U;let⟨op,O,au⟩:=touch_of U;rcases getElem?_append_cases O with⟨aH,aC⟩ | ⟨_,av⟩;left;rw[touchAt_of aC];exact au;right;let⟨e,he,ab⟩:=ak op av;exact⟨by have:=knows_own O;rwa[aa op av] at this,e,he,by rw[← ab];exact au⟩
 have al:∀k ρ,k<F.n->late (φ (N0+k))->RelBy F.sA t (N0+k) ρ->RelBy F.sA (t++u) (N0+k) ρ:=by
  intro k ρ K ag Z;by_cases e:i=N0+k
  .have:=ay k K e (e▸ag) ρ (e▸Z)
   rwa[e] at this
  .exact Z.appOther aa e
 refine⟨λae ah=>?_,λae ah=>?_,λy a b ao hb ai K ae ah aj=>?_,λy a b ao hb ai K=>?_,QF h.over λop O=>?_,P5 h.norel λop O e=>?_,by simp;have:=h.Ly;omega,λk K ag=>?_,λY U=>?_,λY U=>?_⟩;by_cases e:ae=i;subst e;rw[upd_same,← hu,Deaf_own,h.deaf ae hi,hd];rw[upd_ne _ _ e,Deaf_other t (lu e) u aa];exact h.deaf ae ah;rw[Deaf_other t (by omega) u aa];exact h.above ae ah;rcases hold ao with q | ⟨_,e,he,ap⟩;exact(h.plain y a b q hb ai K ae ah aj).app _;exact absurd K ((am e he).1 a b ap hb ai).1;rcases hold ao with q | ⟨aD,e,he,ap⟩;exact(h.said y a b q hb ai K).app _;rw[← ((am e he).1 a b ap hb ai).2 K];exact aD;rw[aa op O];rcases aw with(q | q) | q;exact .inl q;exact .inr (.inl ⟨q,hi⟩);let⟨e,he,ab⟩:=ak op O;rw[ab];exact .inr (.inr (q e he))
 .let⟨ev,aq,ab⟩:=ak op O;rw[ab] at e;exact(am ev aq).2 (by
   obtain⟨loc,wr,aE⟩:=ev
   cases loc with
   | mark m=>simp only[MemAct.ofEvent,MemAct.mark.injEq] at e;rw[e]
   | obj r=>cases wr<;>cases aE<;>simp[MemAct.ofEvent] at e
   | _=>simp[MemAct.ofEvent] at e)
 .by_cases e:i=N0+k;subst e;rw[upd_same] at ag;by_cases ar:late (φ (N0+k));let⟨ρ,a,b⟩:=h.rel k K ar;exact⟨ρ,a,al k ρ (by omega) ar b⟩;exact az k K V ag ar;rw[upd_ne _ _ (lu e)] at ag;let⟨ρ,a,b⟩:=h.rel k K ag;exact⟨ρ,a,b.appOther aa e⟩
 .have old:(φ (N0+F.n)=.ph .Dh∨EV (φ (N0+F.n)))->∃q,Jz F N0 t0 (t++u) q:=by
   intro U;let⟨q,aF⟩:=h.acq Y U;exact⟨q,aF.app λk ρ K Z=>al k ρ K (an Y U k K) Z⟩
  by_cases e:i=N0+F.n;subst e;rw[upd_same] at U;rcases aA Y rfl U with q | q;exact q;exact old q;rw[upd_ne _ _ (lu e)] at U;exact old U
 .by_cases e:i=N0+F.n;subst e;rw[upd_same] at U;rcases aB Y rfl U with q | ⟨q,hm⟩;exact q;let⟨p,aj⟩:=h.Ku Y q;exact⟨p,aj.app (λk ρ K Z=>al k ρ K (an Y (.inr q) k K) Z) (Pn λop O _=>by let⟨ev,aq,ab⟩:=ak op O;rw[ab];exact hm ev aq)⟩;rw[upd_ne _ _ (lu e)] at U;let⟨p,aj⟩:=h.Ku Y U;exact⟨p,aj.app (λk ρ K Z=>al k ρ K (an Y (.inr U) k K) Z) (So aa e)⟩
end
variable{α:Type}
section
variable {F:Fam}{N0 t0 N j:Nat}{c:Bool}{φ:Nat->Nx}{t u:Trace}{v wt sm v' wt' sm':Nat}{cl:Bool}
theorem Px(h:EV x):late x:=by
 cases x with
 | gone d=>trivial
 | ph p=>exact h.elim
theorem Od(f:Nat->α)(i:Nat):upd f i (f i)=f:=by
 funext a;unfold upd;split;rename_i e;rw[e];rfl
theorem BL.Mn(K:BL F N0 N j c φ v wt sm cl)(O:c=true)(h:φ (N0+F.n)=.ph .Dh∨EV (φ (N0+F.n))):∀k,k<F.n->late (φ (N0+k)):=λk U=>
 Px (K.Ow O (h.elim (λe=>.inr (.inr (.inr (.inl e)))) λe=>.inr (.inr (.inr (.inr e)))) k (by rw[K.cj O];exact U))
theorem Ug{m:Mark}(K:∀a,m≠ .read a)(O:∀a,m≠ .write a):(MemAct.ofEvent (Fam.Em m)).touch?=none:=by
 cases m<;>first | rfl | exact absurd rfl (K _) | exact absurd rfl (O _)
theorem RB(p:Ph){aj:Nx}(K:F.act p v wt sm=some ((v',wt',sm'),es,aj)):
  (∀e∈es,EvS F (p=.Ht∨∃j,p=.GU j) e)/\deafBehind (Eg (.ph p)) es=Eg aj/\(∀e∈es,∀B,F.wg<B->(MemAct.ofEvent e).low B):=by
 have ao:∀b w,(MemAct.ofEvent ⟨.cell F.sA,w,b⟩).touch?=some ⟨.cell F.sA,w,if b then .atomic else .plain⟩:=by intro b w;cases b<;>cases w<;>rfl
 have ab:∀(a:Addr) w (T:Prop),a.block=F.wg->EvS F T ⟨.cell a,w,true⟩:=by
  intro a w T hb;refine⟨λx U=>?_,by simp⟩;have:x=⟨.cell a,w,.atomic⟩:=by cases w<;>(simp[MemAct.ofEvent,MemAct.touch?] at U;exact U.symm)
  subst this;exact⟨⟨F.wg,by simp[Dg,hb],.inl V⟩,by simp,by simp⟩
 have ae:∀(a:Addr) w B,a.block=F.wg->F.wg<B->(MemAct.ofEvent ⟨.cell a,w,true⟩).low B:=by
  intro a w B hb O;cases w<;>simp[MemAct.ofEvent,MemAct.low,Loc.low,hb,O]
 have aa:∀(m:Mark) (T:Prop),(∀a,m≠ .read a)->(∀a,m≠ .write a)->(∀a,m≠ .release a)->EvS F T (Fam.Em m):=by
  intro m T al am an;exact⟨λx U=>(by rw[Ug al am] at U;cases U),λe=>an _ (Loc.mark.inj e)⟩
 have ag:F.mA.block=F.wg:=V;have Z:F.sA.block=F.wg:=V;have EA:∀(T:Prop),∀e∈semEvents F.mA,EvS F T e:=by
  intro T e he;simp only[semEvents,lZ,li,l3,mP] at he;rcases he with rfl | rfl | rfl | rfl;exact aa .disable T (by simp) (by simp) (by simp);exact ab _ _ _ ag;exact ab _ _ _ ag;exact aa .enable T (by simp) (by simp) (by simp)
 have ak:∀e∈semEvents F.mA,∀B,F.wg<B->(MemAct.ofEvent e).low B:=by
  intro e he B O;simp only[semEvents,lZ,li,l3,mP] at he;rcases he with rfl | rfl | rfl | rfl;trivial;exact ae _ _ _ ag O;exact ae _ _ _ ag O;trivial
 have ah:∀(T:Prop),∀e∈(#[Fam.Fc F.sA,Fam.IT F.sA]:Array Event),EvS F T e:=by
  intro T e he;simp only[lZ,li,l3,mP] at he;rcases he with rfl | rfl<;>exact ab _ _ _ Z
 have ai:∀e∈(#[Fam.Fc F.sA,Fam.IT F.sA]:Array Event),∀B,F.wg<B->(MemAct.ofEvent e).low B:=by
  intro e he B O;simp only[lZ,li,l3,mP] at he;rcases he with rfl | rfl<;>exact ae _ _ _ Z O
 have one:∀{e:Event}{T:Prop},EvS F T e->∀x∈(#[e]:Array Event),EvS F T x:=by
  intro e T h x U;simp at U;subst U;exact h
 have Y:∀{e:Event},(∀B,F.wg<B->(MemAct.ofEvent e).low B)->∀x∈(#[e]:Array Event),∀B,F.wg<B->(MemAct.ofEvent x).low B:=by
  intro e h x U;simp at U;subst U;exact h
 cases p<;>simp only[Fam.act] at K<;>(try (cases K;done));cases K;exact⟨one (aa _ _ (by simp) (by simp) (by simp)),V,Y λB O=>O⟩;cases K;exact⟨one (aa _ _ (by simp) (by simp) (by simp)),V,Y λB O=>trivial⟩;split at K;cases K;exact⟨ah _,by split<;>rfl,ai⟩;cases K;split at K;cases K;exact⟨one (ab _ _ _ Z),V,Y λB O=>ae _ _ _ Z O⟩;cases K;split at K;cases K;exact⟨one (ab _ _ _ Z),V,Y λB O=>ae _ _ _ Z O⟩;cases K;split at K;cases K;exact⟨EA _,V,ak⟩;cases K;cases K;exact⟨one (aa _ _ (by simp) (by simp) (by simp)),V,Y λB O=>trivial⟩;split at K;cases K;exact⟨one (ab _ _ _ Z),by split<;>rfl,Y λB O=>ae _ _ _ Z O⟩;cases K;split at K;split at K;cases K;exact⟨ah _,V,ai⟩;cases K;exact⟨one (ab _ _ _ Z),V,Y λB O=>ae _ _ _ Z O⟩;cases K;cases K;refine⟨one ⟨λx U=>?_,by simp[Fam.Em]⟩,V,Y λB O=>O⟩;simp[Fam.Em,MemAct.ofEvent,MemAct.touch?] at U;subst U;exact⟨⟨F.wg,V,.inl V⟩,by simp,λ_=>.inl V⟩;split at K;cases K;exact⟨EA _,V,ak⟩;cases K;split at K;cases K;exact⟨one (ab _ _ _ Z),V,Y λB O=>ae _ _ _ Z O⟩;cases K;cases K;exact⟨one (aa _ _ (by simp) (by simp) (by simp)),V,Y λB O=>trivial⟩;cases K;exact⟨one (aa _ _ (by simp) (by simp) (by simp)),V,Y λB O=>O⟩;cases K;exact⟨one (aa _ _ (by simp) (by simp) (by simp)),V,Y λB O=>trivial⟩;split at K;cases K;exact⟨ah _,by split<;>rfl,ai⟩;cases K;cases K;refine⟨one ⟨λx U=>?_,by simp[Fam.Em]⟩,V,Y λB O=>O⟩;simp[Fam.Em,MemAct.ofEvent,MemAct.touch?] at U;subst U;exact⟨⟨F.wg,V,.inl V⟩,by simp,λ_=>.inr ⟨_,V⟩⟩;cases K;exact⟨one (aa _ _ (by simp) (by simp) (by simp)),V,Y λB O=>trivial⟩
 all_goals
  cases K;exact⟨by simp,V,by simp⟩
theorem U1(p:Ph){U:Nx}(K:F.act p v wt sm=some ((v',wt',sm'),es,U)){k:Nat}(hw:Ih F k (.ph p))(O:late (.ph p)):
  ∀m e,es[m]?=some e->(MemAct.ofEvent e).touch?=none∨((∃ad wr,e=⟨.cell ad,wr,true⟩)/\0<deafBehind (Eg (.ph p)) (es.extract 0 m)):=by
 have two:∀m e,(#[Fam.Fc F.sA,Fam.IT F.sA]:Array Event)[m]?=some e->(∃ad wr,e=⟨.cell ad,wr,true⟩)/\0<deafBehind 1 ((#[Fam.Fc F.sA,Fam.IT F.sA]:Array Event).extract 0 m):=by
  intro m e h
  match m with
  | 0=>simp at h;subst h;exact⟨⟨_,_,rfl⟩,by simp[deafBehind]⟩
  | 1=>simp at h;subst h;exact⟨⟨_,_,rfl⟩,by simp[deafBehind,Fam.Fc]⟩
  | m+2=>simp at h
 cases p<;>simp only[Ih] at hw<;>(try exact hw.elim)<;>simp only[late] at O<;>(try exact O.elim)<;>simp only[Fam.act] at K<;>(try (cases K;done))
 .cases K;intro m e h
  match m with
  | 0=>simp at h;subst h;exact .inl rfl
  | m+1=>simp at h
 .split at K;cases K;exact λm e h=>.inr (two m e h);cases K
 .split at K
  .cases K;intro m e h
   match m with
   | 0=>simp at h;subst h;exact .inr ⟨⟨_,_,rfl⟩,by simp[deafBehind,Eg]⟩
   | m+1=>simp at h
  .cases K
 .split at K
  .cases K;intro m e h
   match m with
   | 0=>simp at h;subst h;exact .inr ⟨⟨_,_,rfl⟩,by simp[deafBehind,Eg]⟩
   | m+1=>simp at h
  .cases K
 .split at K
  .cases K;intro m e h
   match m with
   | 0=>simp[semEvents] at h;subst h;exact .inl rfl
   | 1=>simp[semEvents] at h;subst h;exact .inr ⟨⟨_,_,rfl⟩,by simp[deafBehind,Eg,semEvents]⟩
   | 2=>simp[semEvents] at h;subst h;exact .inr ⟨⟨_,_,rfl⟩,by simp[deafBehind,Eg,semEvents]⟩
   | 3=>simp[semEvents] at h;subst h;exact .inl rfl
   | m+4=>simp[semEvents] at h
  .cases K
theorem Dx.act(h:Dx F N0 t0 N j c φ t)(O:BL F N0 N j c φ v wt sm cl)(hi:i<N)(U:φ i=.ph p){ae:Nx}(K:F.act p v wt sm=some ((v',wt',sm'),es,ae))(fn:FuncId)(pos:String):
  Dx F N0 t0 N j c (upd φ i ae) (t++MemOp.ofEvents i fn pos es)/\(∀e∈es,EvS F (i=if c=true then N0+F.n else 0) e)/\(i=0∨N0<=i):=by
 let⟨aj,an,_⟩:=RB p K;have az:=O.size;have ao:=O.jn;have ap:(p=.Ht∨∃j,p=.GU j)->i=if c=true then N0+F.n else 0:=by
  rintro(rfl | ⟨aA,rfl⟩);rcases O.Fs hi with rfl | ⟨a,b⟩ | ⟨k,Z,rfl⟩ | ⟨Y,rfl⟩;obtain⟨q,ag,hm⟩:=O.main;rw[U] at ag;cases ag;exact hm.elim;have:=O.old i a b;rw[U] at this;exact this.elim;have:=O.work k Z;rw[U] at this;exact this.elim;rw[d5 Y];rcases O.Fs hi with rfl | ⟨a,b⟩ | ⟨k,Z,rfl⟩ | ⟨Y,rfl⟩;obtain⟨q,ag,hm⟩:=O.main;rw[U] at ag;cases ag;obtain⟨_,_,rfl⟩:=hm;rfl;have:=O.old i a b;rw[U] at this;exact this.elim;have:=O.work k Z;rw[U] at this;exact this.elim;have:=O.cls Y;rw[U] at this;exact this.elim
 have ak:∀e∈es,EvS F (i=if c=true then N0+F.n else 0) e:=λe he=>⟨λa ah=>let ⟨x,y,z⟩:=(aj e he).1 a ah;⟨x,y,λq=>ap (z q)⟩,(aj e he).2⟩
 have al:i=0∨N0<=i:=by
  rcases O.Fs hi with rfl | ⟨a,b⟩ | ⟨k,Z,rfl⟩ | ⟨Y,rfl⟩;exact .inl V;have:=O.old i a b;rw[U] at this;exact this.elim;exact .inr (by omega);exact .inr (by omega)
 refine⟨h.app hi ao (by rw[U];exact an) (λe he=>⟨λa b ah hb aB=>⟨((ak e he).1 a ah).2.1,((ak e he).1 a ah).2.2⟩,(aj e he).2⟩) (.inl al) (λY aa=>O.Mn Y aa) (λk Z e ai ρ aq=>?_) (λk Z e ai am=>?_) (λY e aa=>?_) (λY e aa=>?_),ak,al⟩
 .subst e;rw[U] at ai;refine aq.appOwn fn pos es λm e he=>?_;have ab:k<j∨(c=true/\F.n=k):=by
   rcases O.Fs hi with q | ⟨a,b⟩ | ⟨k',aC,q⟩ | ⟨Y,q⟩;have:=O.pos;omega;omega;left;omega;omega
  rcases ab with ab | ⟨_,q⟩;have hw:=O.work k ab;rw[U] at hw;rw[h.deaf _ hi,U];exact U1 p K hw ai m e he;omega
 .subst e;rw[U] at am;have hw:=O.work k Z;rw[U] at hw;have ar:p=.Gr:=by
   cases p<;>simp only[Ih] at hw<;>(try exact hw.elim)<;>simp[late] at am;simp[Fam.act] at K;rfl;simp only[Fam.act] at K;cases K;exact ai.elim
  subst ar;simp only[Fam.act] at K;cases K;exact⟨t.size,h.Ly,.new (by rw[h.deaf _ hi,U];rfl) fn pos⟩
 .subst e;left;have hw:=O.cls Y;rw[U] at hw;have au:p=.GV/\ae=.ph .Dh:=by
   rcases aa with rfl | aa;cases p<;>simp only[HO] at hw<;>(try exact hw.elim)<;>simp only[Fam.act] at K<;>(try (cases K;done));split at K;split at K<;>cases K;cases K;split at K;split at K<;>cases K;cases K;split at K<;>cases K;split at K<;>cases K;exact⟨V,V⟩
   .cases ae with
    | ph q=>exact aa.elim
    | gone d=>
     exfalso;cases p<;>simp only[HO] at hw<;>(try exact hw.elim)<;>simp only[Fam.act] at K<;>(try (cases K;done));split at K;split at K<;>cases K;cases K;split at K;split at K<;>cases K;cases K;split at K<;>cases K;split at K<;>cases K
  obtain⟨rfl,rfl⟩:=au;simp only[Fam.act] at K;cases K;have av:MemOp.ofEvents (N0+F.n) fn pos #[Fam.Em (.acquire F.sA)]=#[{g:=N0+F.n,fn,pos,act:=.mark (.acquire F.sA)}]:=by rw[ofEvents_eq];simp[Fam.Em,MemAct.ofEvent]
  rw[av];have aw:(t++ #[({g:=N0+F.n,fn,pos,act:=.mark (.acquire F.sA)}:MemOp)])[t.size]?=some {g:=N0+F.n,fn,pos,act:=.mark (.acquire F.sA)}:=by simp
  refine⟨t.size,by rw[act?_of aw],by simp[Trace.g?],⟨N0+F.n,by simp[Trace.g?],by rw[deaf_old (la _)];have:=h.deaf _ hi;rw[U] at this;exact this⟩,λk Z=>?_⟩;have ay:=O.Ow Y (.inr (.inr (.inl U)));have ab:k<j:=by rw[O.cj Y];exact Z
  let⟨ρ,a,b⟩:=h.rel k ab (Px (ay k ab));exact⟨ρ,a,lt_of_act? b.act,b.appOther (g:=N0+F.n) (by simp) (by omega)⟩
 .subst e;exfalso;have hw:=O.cls Y;rw[U] at hw;cases ae with
  | ph q=>exact aa.elim
  | gone d=>
   cases p<;>simp only[HO] at hw<;>(try exact hw.elim)<;>simp only[Fam.act] at K<;>(try (cases K;done));split at K;split at K<;>cases K;cases K;split at K;split at K<;>cases K;cases K;split at K<;>cases K;split at K<;>cases K
theorem Dx.Cr(h:Dx F N0 t0 N j c φ t)(ar:BL F N0 N j c φ v wt sm cl)(hu:∀op∈u,op.act.touch?=none/\∀m,op.act≠ .mark m):Dx F N0 t0 N j c φ (t++u):=by
 have ai:∀g,Deaf (t++u) g=Deaf t g:=by
  intro g;obtain⟨l⟩:=u;rw[Deaf_append]
  induction l generalizing t with
  | nil=>rfl
  | cons y l au=>
   have U:=(hu y (by simp)).2;have ak:deafStep g (Deaf t g) y=Deaf t g:=by
    unfold deafStep;split<;>first | (rename_i e;exact absurd e (U _)) | rfl
   rw[m6,ak];have key:∀(l:List MemOp) (d:Nat),(∀op∈l,∀m,op.act≠ .mark m)->l.foldl (deafStep g) d=d:=by
    intro l
    induction l with
    | nil=>intro d _;rfl
    | cons z l al=>
     intro d aa;have am:=aa z (by simp);have e2:deafStep g d z=d:=by
      unfold deafStep;split<;>first | (rename_i e;exact absurd e (am _)) | rfl
     rw[m6,e2];exact al d λop K=>aa op (by simp[K])
   exact key l _ λop K=>(hu op (by simp at K ⊢;exact .inr K)).2
 have hold:∀{y a},touchAt (t++u) y=some a->touchAt t y=some a:=by
  intro y a O;let⟨op,K,ab⟩:=touch_of O;rcases getElem?_append_cases K with⟨av,an⟩ | ⟨_,ao⟩;rw[touchAt_of an];exact ab;rw[(hu op ao).1] at ab;cases ab
 have aj:∀g x,t.size<=x->(t++u).g? x=some g->¬(t++u).counts x:=λg=>Pn λop K _=>(hu op K).1;have Y:∀g ρ,RelBy F.sA t g ρ->RelBy F.sA (t++u) g ρ:=λg ρ Y=>Y.app λx O ap=>aj g x O ap;refine⟨λi hi=>by rw[ai];exact h.deaf i hi,λi hi=>by rw[ai];exact h.above i hi,λy a b U hb ae Z i hi ag=>(h.plain y a b (hold U) hb ae Z i hi ag).app _,λy a b U hb ae Z=>(h.said y a b (hold U) hb ae Z).app _,
  QF h.over λop K=>.inr (.inr (hu op K).1),P5 h.norel λop K=>(hu op K).2 _,by simp;have:=h.Ly;omega,λk Z aa=>let ⟨ρ,a,b⟩:=h.rel k Z aa;⟨ρ,a,Y _ _ b⟩,
  λah O=>let ⟨q,aq⟩:=h.acq ah O;⟨q,aq.app λk ρ _=>Y _ ρ⟩,λah O=>let ⟨p,ag⟩:=h.Ku ah O;⟨p,ag.app (λk ρ _=>Y _ ρ) (aj _)⟩⟩
theorem Dx.VT(h:Dx F N0 t0 N j c φ t){U:Nat->Nx}(hd:∀i,i<N->Eg (U i)=Eg (φ i))(aa:∀k,k<j->late (U (N0+k))->late (φ (N0+k)))(Y:c=true->U (N0+F.n)=φ (N0+F.n)):Dx F N0 t0 N j c U t:=
 ⟨λi hi=>by rw[hd i hi];exact h.deaf i hi,h.above,h.plain,h.said,h.over,h.norel,h.Ly,λk Z K=>h.rel k Z (aa k Z K),λO K=>h.acq O (by rwa[Y O] at K),λO K=>h.Ku O (by rwa[Y O] at K)⟩
theorem Dx.spawn(h:Dx F N0 t0 N j c φ t)(ab:BL F N0 N j c φ v wt sm cl)(an:c=false){Z:Nat->Nx}{ah:Nat}{ai:Bool}(hd:∀i,i<N->Eg (Z i)=Eg (φ i))(ao:Eg (Z N)=0)(ap:Eg (φ 0)=0)
  (aq:∀k,k<ah->late (Z (N0+k))->k<j/\late (φ (N0+k))) (ae:ai=true->N0+F.n=N/\Z (N0+F.n)=.ph .Cv)
  {x y:MemOp}(K:x.g=0/\x.act=.go N) (aj:y.g=N/\y.act=.start):Dx F N0 t0 (N+1) ah ai Z (t++ #[x,y]):=by
 have ak:0<N:=by have:=ab.size;have:=ab.pos;omega
 have hu:∀op∈(#[x,y]:Array MemOp),op.act.touch?=none/\∀m,op.act≠ .mark m:=by
  intro op al;simp only[lZ,li,l3,mP] at al;rcases al with rfl | rfl;rw[K.2];exact⟨V,by simp⟩;rw[aj.2];exact⟨V,by simp⟩
 have O:=h.Cr ab hu;have am:∀z,Knows t 0 z->Knows (t++ #[x,y]) N z:=λz U=>fork_knows K aj (by rw[h.deaf 0 ak];exact ap) (h.above N (la _)) U;have hold:∀{z a},touchAt (t++ #[x,y]) z=some a->touchAt t z=some a:=by
  intro z a U;let⟨op,ar,ag⟩:=touch_of U;rcases getElem?_append_cases ar with⟨aB,au⟩ | ⟨_,av⟩;rw[touchAt_of au];exact ag;rw[(hu op av).1] at ag;cases ag
 refine⟨λi hi=>?_,λi hi=>O.above i (by omega),λz a b U hb aa Y i hi aw=>?_,λz a b U hb aa Y=>?_,λz g ay az aA=>?_,O.norel,O.Ly,λk Y K=>?_,λe K=>?_,λe K=>?_⟩
 .rcases lb i N with q | q;rw[hd i q];exact O.deaf i q
  .obtain rfl:i=N:=by omega
   rw[ao];exact O.above i (la _)
 .rcases lb i N with q | q;exact O.plain z a b U hb aa Y i q aw
  .obtain rfl:i=N:=by omega
   exact am z (h.plain z a b (hold U) hb aa Y 0 ak (.inl V))
 have:=h.said z a b (hold U) hb aa Y;rw[an] at this;simp only[ld,lK] at this;split;rename_i e;rw[(ae e).1];exact am z this;exact this.app _;rcases O.over z g ay az aA with q | q;exact .inl q;exact .inr ⟨q.1,by omega⟩;let⟨a,b⟩:=aq k Y K;exact O.rel k a b;have:=(ae e).2;rw[this] at K;rcases K with q | q;cases q;exact q.elim;have:=(ae e).2;rw[this] at K;exact K.elim
end
def Dn(N:Nat)(K r:Nat->Rk):Prop:=∃i,i<N/\Rk.sub (K i) (r i)/\∀j,j≠i->K j=r j
theorem Dn.wf:∀N,WellFounded (Dn N)
 | 0=>⟨λ_=>⟨_,λ_ ⟨_,h,_⟩=>by omega⟩⟩
 | N+1=>⟨by
  have key:∀x:Rk,∀r:Nat->Rk,r N=x->Acc (Dn (N+1)) r:=by
   intro x
   induction x using Rk.wf.induction with
   | _ x Z=>
    intro r
    induction r using (Dn.wf N).induction with
    | _ r aa=>
     intro e
     refine⟨_,λK ⟨i,hi,O,U⟩=>?_⟩
     by_cases Y:i=N;subst Y;exact Z (K i) (by rw[← e];exact O) K V;exact aa K ⟨i,by omega,O,U⟩ (by rw[U N (lu Y),e])
  exact λr=>key _ r V⟩
def chain:Nat->Rk
 | 0=>.leaf
 | n+1=>.node λ_=>chain n
theorem TN(n:Nat)(w:World):Rk.sub (chain n) (chain (n+1)):=⟨_,w,V,V⟩
def Mu:=Nat×(Nat×((Nat->Rk)×Nat))
def Mu.lt(a b:Mu):Prop:=a.1<b.1∨(a.1=b.1/\a.2.1=b.2.1/\(Dn b.2.1 a.2.2.1 b.2.2.1∨(a.2.2.1=b.2.2.1/\a.2.2.2<b.2.2.2)))
theorem Mu.wf:WellFounded Mu.lt:=⟨by
 have key:∀(A:Nat) (N:Nat) (r:Nat->Rk) (B:Nat),Acc Mu.lt (A,N,r,B):=by
  intro A
  induction A using Nat.strongRecOn with
  | _ A aa=>
   intro N r
   induction r using (Dn.wf N).induction with
   | _ r ab=>
    intro B
    induction B using Nat.strongRecOn with
    | _ B ae=>
     refine⟨_,λ⟨ag,ah,U,B'⟩ h=>?_⟩
     rcases h with h | ⟨K,O,h | ⟨Y,Z⟩⟩;exact aa ag h ah U B';simp only at K O h;subst K O;exact ab U h B';simp only at K O Y Z;subst K O Y;exact ae B' Z
 exact λ⟨A,N,r,B⟩=>key A N r B⟩
def wt(n:Nat):Nx->Nat
 | .gone _=>0
 | .ph p=>match p with
  | .B7 _=>10 | .CF=>9 | .Gr=>8 | .Ii=>7 | .Hm=>6 | .Gp=>5 | .GN=>4 | .Et=>3
  | .Cv=>3*n+25 | .FI m=>3*m+20 | .Ho m=>3*m+19 | .HU=>14 | .Ht=>13 | .CY=>12 | .GO=>11 | .Ft=>10 | .HT=>9 | .GV=>8 | .Dh=>7
  | .EX j=>5*n+60+20*(n - j) | .HS j=>5*n+59+20*(n - j) | .Hu j=>5*n+58+20*(n - j) | .GU j=>5*n+57+20*(n - j) | .Ga j=>5*n+56+20*(n - j) | .Fb j=>5*n+55+20*(n - j)
  | .Fo=>5*n+60 | .BP _ _=>2
variable{k':Nat}
theorem Ru{F:Fam}{v w sm w' sm':Nat}{K:Nx}(h:F.act p v w sm=some ((k',w',sm'),es,K)):wt F.n K<wt F.n (.ph p):=by
 cases p<;>simp only[Fam.act] at h<;>(try (cases h;done));cases h;simp[wt];cases h;simp[wt];split at h;cases h;split<;>simp[wt];cases h;split at h;cases h;simp[wt];cases h;split at h;cases h;simp[wt];cases h;split at h;cases h;simp[wt];cases h;cases h;simp[wt];split at h;cases h;split<;>simp[wt]<;>omega;cases h;split at h;split at h<;>cases h<;>simp[wt]<;>omega;cases h;cases h;simp[wt];split at h;cases h;simp[wt];cases h;split at h;cases h;simp[wt];cases h;cases h;simp[wt];cases h;simp[wt];cases h;simp[wt];split at h;cases h;split<;>simp[wt];cases h;cases h;simp[wt];cases h;simp[wt]
 all_goals cases h;simp[wt]
inductive Da (P:Program) (F:Fam) (main:Bool):Nx->Rk->Bool->Gs_
 | walk {p:Ph}{r:Rk}{g:Goroutine}{s:St}:main=Fam.C5 p->(Fam.DU p=true->s=.quiet)->Jr P main (JQ (Stop P F p)) r g s->Da P F main (.ph p) r true g s
 | again {ks:List Nat}{vs:Lv_}{r:Rk}{g:Goroutine}{s:St}{z:Value}:main=true->Stop P F (.BP ks vs) g s->Da P F main (.ph (.BP ks vs)) r true {parked g #[rcase F.ch z] (.recv true) with status:=.running} s
 | FH {ks:List Nat}{vs:Lv_}{r:Rk}{g:Goroutine}{s:St}{z:Value}:main=true->Stop P F (.BP ks vs) g s->Da P F main (.ph (.BP ks vs)) r false (parked g #[rcase F.ch z] (.recv true)) s
 | F0 {k:Nat}{r:Rk}{g:Goroutine}{s:St}{v z:Value}:main=false->F.msg k v s.E->s.q=false->Way P false (Stop P F .CF) (served g undef) s->Da P F main (.ph (.B7 k)) r false (parked g #[scase F.ch v z] .send) s
 | blk {r:Rk}{g:Goroutine}{s:St}:main=false->Stop P F .CY g s->Da P F main (.ph .CY) r false {g with status:=.blocked} s
 | gone {q d:Nat}{g:Goroutine}:main=false->QuitsD P q d g->Da P F main (.gone d) (chain q) true g .quiet
variable{g g' o:Goroutine}{s:St}{b:Bool}
section
variable {P:Program}{F:Fam}{main:Bool}
theorem Jr.running{r:Rk}(h:Jr P main (JQ (Stop P F p)) r g s):g.status=.running:=by
 cases r with
 | leaf=>obtain⟨s₀,_,K⟩:=h;exact K.law.run
 | node f=>
  rcases h with⟨s₀,_,K⟩ | ⟨O,_⟩;exact K.law.run;exact O
theorem Jr.at_{Q:GP}{r:Rk}(h:Q g s):Jr P main Q r g s:=by
 cases r with
 | leaf=>exact h
 | node f=>exact .inl h
theorem Da.awake{r:Rk}(h:Da P F main x r b g s):Go.Conc.awake g:=by
 cases h with
 | walk _ _ K=>exact awake_of (.inl K.running)
 | again _ _=>exact awake_of (.inl rfl)
 | FH _ _=>exact awake_of (.inr (.inl rfl))
 | F0 _ _ _ _=>exact awake_of (.inr (.inl rfl))
 | blk _ _=>exact awake_of (.inr (.inl rfl))
 | gone _ O=>exact awake_of (O.status.elim .inl λx=>.inr (.inr x))
theorem SB(h:g.status=.running):{({g with status:=.blocked}:Goroutine) with status:=.running}=g:=by
 obtain⟨a,b,c,d,e⟩:=g;simp only at h;subst h;rfl
theorem Da.woken{r:Rk}(h:Da P F main x r b o s){w':World}{cl:Bool}{k:Nat}(aa:F.ChanAt w' cl k)(al:cl=true->∀k,x≠ .ph (.B7 k)):
  ∃ab,Da P F main x r ab (Go.Conc.woken P g g' w' o) s/\(b=true->ab=true)/\(mayWake P g=true->g'.status=.running->(x=.ph .CY∨cl=true)->ab=true):=by
 have hw:∀(o:Goroutine),mayWake P g=true->g'.status=.running->Go.Conc.woken P g g' w' o=o.again w':=by
  intro o K Y;unfold Go.Conc.woken;rw[d5 (by simp[K,Y])]
 have Z:∀(o:Goroutine),Go.Conc.woken P g g' w' o=o.again w'∨Go.Conc.woken P g g' w' o=o:=by
  intro o;unfold Go.Conc.woken;split;exact .inl V;exact .inr V
 cases h with
 | walk K Y ae=>exact⟨true,by rw[woken_run ae.running];exact .walk K Y ae,λ_=>rfl,λ_ _ _=>rfl⟩
 | again K O=>exact⟨true,by rw[woken_run rfl];exact .again K O,λ_=>rfl,λ_ _ _=>rfl⟩
 | @FH ks vs _ go _ z K O=>
  cases cl with
  | false=>
   have:=again_recv_open (g:=go) (z:=z) (sh:=.recv true) (w:=w') aa;rcases Z (parked go #[rcase F.ch z] (.recv true)) with e | e;exact⟨false,by rw[e,this];exact .FH K O,λe=>e,λ_ _ h=>by simp at h⟩;exact⟨false,by rw[e];exact .FH K O,λe=>e,λ_ _ h=>by simp at h⟩
  | true=>
   have:=again_recv_closed (g:=go) (z:=z) (sh:=.recv true) (w:=w') aa;by_cases U:mayWake P g=true/\g'.status=.running;exact⟨true,by rw[hw _ U.1 U.2,this];exact .again K O,λe=>V,λ_ _ _=>V⟩;rcases Z (parked go #[rcase F.ch z] (.recv true)) with e | e;exact⟨true,by rw[e,this];exact .again K O,λ_=>V,λa b=>absurd ⟨a,b⟩ U⟩;exact⟨false,by rw[e];exact .FH K O,λe=>e,λa b=>absurd ⟨a,b⟩ U⟩
 | @F0 k' _ go _ v z K Y ag ah=>
  cases cl with
  | true=>exact absurd rfl (al rfl k')
  | false=>
   have:=again_send_open (g:=go) (v:=v) (z:=z) (sh:=.send) (w:=w') aa;rcases Z (parked go #[scase F.ch v z] .send) with e | e;exact⟨false,by rw[e,this];exact .F0 K Y ag ah,λe=>e,λ_ _ h=>by simp at h⟩;exact⟨false,by rw[e];exact .F0 K Y ag ah,λe=>e,λ_ _ h=>by simp at h⟩
 | @blk _ go _ K O=>
  have ai:({go with status:=.blocked}:Goroutine).again w'=go:=by
   have:=O.law.offers;have am:({go with status:=.blocked}:Goroutine).again w'={({go with status:=.blocked}:Goroutine) with status:=.running}:=by simp[Goroutine.again,this]
   rw[am];exact SB O.law.run
  have aj:Da P F main (.ph .CY) r true go s:=.walk (p:=.CY) (by rw[K];rfl) (by simp[Fam.DU]) (Jr.at_ ⟨s,.refl _,O⟩);by_cases U:mayWake P g=true/\g'.status=.running;exact⟨true,by rw[hw _ U.1 U.2,ai];exact aj,λ_=>V,λ_ _ _=>V⟩;rcases Z ({go with status:=.blocked}:Goroutine) with e | e;exact⟨true,by rw[e,ai];exact aj,λ_=>V,λa b=>absurd ⟨a,b⟩ U⟩;exact⟨false,by rw[e];exact .blk K O,λe=>e,λa b=>absurd ⟨a,b⟩ U⟩
 | gone K ak=>exact⟨true,by rw[woken_quitsD ak];exact .gone K ak,λ_=>rfl,λ_ _ _=>rfl⟩
end
structure Base where
 N0:Nat
 t0:Nat
 E0:LH
 w0:World
structure Inv (P:Program) (F:Fam) (B:Base) (gs:Array Goroutine) (w:World) (t:Trace) (φ:Nat->Nx) (r:Nat->Rk) (bt:Nat->Bool) (S:Nat->St) (Sh:Nat->Prop) (j:Nat) (c:Bool) (v wt sm:Nat) (cl:Bool) (k:Nat):Prop where
 A9:BL F B.N0 gs.size j c φ v wt sm cl
 Ex:Dx F B.N0 B.t0 gs.size j c φ t
 Ez:∀i g,gs[i]?=some g->Da P F (i==0) (φ i) (r i) (bt i) g (S i)
 Ci:BQ t w gs.size S Sh
 Iq:Sh F.wg
 Gx:Sh F.ch
 ne:F.wg≠F.ch
 wg:F.WG w v wt sm
 Hq:F.ChanAt w cl k
 Nh:bt 0=false->cl=false/\∀i k',i<gs.size->φ i=.ph (.B7 k')->bt i=true
 blk:c=true->bt (B.N0+F.n)=false->sm=0
 le:Le B.E0 (S 0).E
 tape:w.tape=B.w0.tape
 os:w.os=B.w0.os
 output:w.output=B.w0.output
def bit(b:Bool):Nat:=if b then 1 else 0
def mu(F:Fam)(N:Nat)(φ:Nat->Nx)(r:Nat->Rk)(bt:Nat->Bool):Mu:=(sumTo N λi=>wt F.n (φ i),N,r,sumTo N λi=>bit (bt i))
variable{ρ:Rk}{s':St}
section
variable {P:Program}{F:Fam}{B:Base}{gs:Array Goroutine}{w w':World}{t:Trace}{φ:Nat->Nx}{r:Nat->Rk}{bt:Nat->Bool}{S:Nat->St}{Sh:Nat->Prop}{j:Nat}{c:Bool}{v wt' sm v₁ wt₁ sm₁:Nat}{cl cl₁:Bool}{k k₁:Nat}
theorem Inv.at_(h:Inv P F B gs w t φ r bt S Sh j c v wt' sm cl k)(d:Nat):Inv P F B gs (w.at d) t φ r bt S Sh j c v wt' sm cl k:=
 have K:BQ t (w.at d) gs.size S Sh:=by
  have:=h.Ci.mute (u:=#[]) (w':=w.at d) (g:=0) (by simp) (by simp) (by simp) rfl;simpa using this
 {h with Ci:=K}
theorem Inv.go(h:Inv P F B gs w t φ r bt S Sh j c v wt' sm cl k)(hi:gs[i]?=some g)
  (ap:BL F B.N0 gs.size j c (upd φ i x) v₁ wt₁ sm₁ cl₁)
  (aq:Dx F B.N0 B.t0 gs.size j c (upd φ i x) (t++MemOp.ofEvents i g.frame.fn g.frame.place es))
  (ar:Da P F (i==0) x ρ true g' s')
  (hC:BQ (t++MemOp.ofEvents i g.frame.fn g.frame.place es) w' gs.size (upd S i s') Sh)
  (au:F.WG w' v₁ wt₁ sm₁) (aj:F.ChanAt w' cl₁ k₁)
  (av:cl₁=cl∨(mayWake P g=true/\g'.status=.running))
  (aw:cl₁=true->∀ak k',ak<gs.size->φ ak≠ .ph (.B7 k'))
  (ay:sm₁=sm∨sm₁=0∨(mayWake P g=true/\g'.status=.running/\φ (B.N0+F.n)=.ph .CY)∨(c=true->bt (B.N0+F.n)=true))
  (az:i=0->Le (S 0).E s'.E) (aA:w'.tape=w.tape) (aB:w'.os=w.os) (aC:w'.output=w.output) (aM:∀k',x=.ph (.B7 k')->φ i=.ph (.B7 k')):
  ∃O,Inv P F B ((gs.map (woken P g g' w')).setIfInBounds i g') w' (t++MemOp.ofEvents i g.frame.fn g.frame.place es) (upd φ i x) (upd r i ρ) O (upd S i s') Sh j c v₁ wt₁ sm₁ cl₁ k₁:=by
 have aD:i<gs.size:=(d4.1 hi).1;have ab:((gs.map (woken P g g' w')).setIfInBounds i g').size=gs.size:=by simp
 have al:∀a,∃aa,(a=i->aa=true)/\(a≠i->∀o,gs[a]?=some o->Da P F (a==0) (φ a) (r a) aa (woken P g g' w' o) (S a)/\(bt a=true->aa=true)/\(mayWake P g=true->g'.status=.running->(φ a=.ph .CY∨cl₁=true)->aa=true)):=by
  intro a;by_cases e:a=i;exact⟨true,λ_=>V,λq=>absurd e q⟩
  .cases K:gs[a]? with
   | none=>exact⟨true,λ_=>rfl,λ_ o q=>by cases q⟩
   | some o=>
    have Y:a<gs.size:=(d4.1 K).1;let⟨aa,aE,aF,aG⟩:=(h.Ez a o K).woken (g:=g) (g':=g') aj λq k'=>aw q a k' Y;exact⟨aa,λq=>absurd q e,λ_ o' q=>by cases q;exact⟨aE,aF,aG⟩⟩
 let O:Nat->Bool:=λa=>Classical.choose (al a);have hb:∀a,(a=i->O a=true)/\(a≠i->∀o,gs[a]?=some o->Da P F (a==0) (φ a) (r a) (O a) (woken P g g' w' o) (S a)/\(bt a=true->O a=true)/\(mayWake P g=true->g'.status=.running->(φ a=.ph .CY∨cl₁=true)->O a=true)):=λa=>mg (al a);have ae:∀a,a<gs.size->bt a=true->O a=true:=by
  intro a Y aH;by_cases e:a=i;exact(hb a).1 e;exact((hb a).2 e _ (f9 Y)).2.1 aH
 refine⟨O,by rw[ab];exact ap,by rw[ab];exact aq,λa o K=>?_,by rw[ab];exact hC,h.Iq,h.Gx,h.ne,au,aj,λU=>⟨?_,λa k' Y am=>?_⟩,λag U=>?_,λb o K=>?_,aA.trans h.tape,aB.trans h.os,aC.trans h.output⟩;by_cases e:a=i;subst e;rw[k9 (by simpa using aD)] at K;obtain rfl:=d6 K;rw[upd_same,upd_same,upd_same,(hb a).1 rfl];exact ar;rw[d9 (lu e),mI] at K;obtain⟨o',aI,rfl⟩:=lJ.1 K;rw[upd_ne _ _ e,upd_ne _ _ e,upd_ne _ _ e];exact((hb a).2 e o' aI).1
 .have ah:0<gs.size:=by omega
  have aJ:0≠i:=λe=>by have:=(hb 0).1 e;rw[U] at this;cases this
  have Z:bt 0=false:=by
   cases q:bt 0 with
   | false=>rfl
   | true=>have:=ae 0 ah q;rw[U] at this;cases this
  cases an:cl₁ with
  | false=>rfl
  | true=>
   rcases av with e | ⟨ai,e2⟩;have:=(h.Nh Z).1;rw[← e,an] at this;cases this;have:=((hb 0).2 aJ _ (f9 ah)).2.2 ai e2 (.inr an);rw[U] at this;cases this
 .rw [ab] at Y;have ah:0<gs.size:=by omega
  have Z:bt 0=false:=by
   cases q:bt 0 with
   | false=>rfl
   | true=>have:=ae 0 ah q;rw[U] at this;cases this
  by_cases e:a=i;exact(hb a).1 e;rw[upd_ne _ _ e] at am;exact ae a Y ((h.Nh Z).2 a k' Y am)
 .have ao:B.N0+F.n<gs.size:=by have:=h.A9.size;have:=h.A9.cj ag;rw[ag] at*;simp at*;omega
  have aK:B.N0+F.n≠i:=λe=>by have:=(hb _).1 e;rw[U] at this;cases this
  have Z:bt (B.N0+F.n)=false:=by
   cases q:bt (B.N0+F.n) with
   | false=>rfl
   | true=>have:=ae _ ao q;rw[U] at this;cases this
  rcases ay with e | e | ⟨ai,e2,aL⟩ | e;rw[e];exact h.blk ag Z;exact e;have:=((hb _).2 aK _ (f9 ao)).2.2 ai e2 (.inl aL);rw[U] at this;cases this;rw[e ag] at Z;cases Z
 .by_cases e:i=0;subst e;rw[upd_same];exact az V b o (h.le b o K);rw[upd_ne _ _ (lu e)];exact h.le b o K
end
def No(P:Program)(F:Fam)(B:Base)(gs:Array Goroutine)(w:World)(t:Trace):Prop:=
 ∃q Sh g s,Gw P gs w t q Sh g s/\F.fin g s/\Le B.E0 s.E/\w.tape=B.w0.tape/\w.os=B.w0.os/\w.output=B.w0.output
def HK(P:Program)(F:Fam)(B:Base)(gs:Array Goroutine)(w:World)(sl:Option (Nat×Nat))(t:Trace)(i:Nat)(K:Mu):Prop:=
 ∃gs' w' O u,runT P (crowd gs w sl) i=(.next (crowd gs' w' O),u)/\
  ((∃φ r bt S Sh j c v wt' sm cl k,Inv P F B gs' w' (t++u) φ r bt S Sh j c v wt' sm cl k/\Mu.lt (mu F gs'.size φ r bt) K)∨No P F B gs' w' (t++u))
section
variable {P:Program}{F:Fam}{B:Base}{gs:Array Goroutine}{w w':World}{sl:Option (Nat×Nat)}{t:Trace}{φ:Nat->Nx}{r:Nat->Rk}{bt:Nat->Bool}{S:Nat->St}{Sh:Nat->Prop}{j:Nat}{c:Bool}{v wt' sm v₁ wt₁ sm₁:Nat}{cl cl₁:Bool}{k k₁:Nat}
theorem RZ{φ K:Nat->Nx}{r U:Nat->Rk}{b Y:Nat->Bool}{O:Nat}(h:(sumTo O λi=>wt F.n (K i))<sumTo k' λi=>wt F.n (φ i)):Mu.lt (mu F O K U Y) (mu F k' φ r b):=.inl h
theorem WY{K:Nat->Bool}(hi:i<k')(h:wt F.n x<wt F.n (φ i)∨(wt F.n x=wt F.n (φ i)/\Rk.sub ρ (r i))):Mu.lt (mu F k' (upd φ i x) (upd r i ρ) K) (mu F k' φ r bt):=by
 have:=sumTo_upd φ x (wt F.n) hi;rcases h with h | ⟨Y,O⟩;exact .inl (by show(sumTo k' λa=>wt F.n (upd φ i x a))<sumTo k' λa=>wt F.n (φ a);omega);exact .inr ⟨by show(sumTo k' λa=>wt F.n (upd φ i x a))=sumTo k' λa=>wt F.n (φ a);omega,V,.inl ⟨i,hi,by show Rk.sub (upd r i ρ i) _;rw[upd_same];exact O,λa U=>upd_ne _ _ U⟩⟩
theorem Inv.go'(h:Inv P F B gs w t φ r bt S Sh j c v wt' sm cl k)(hi:gs[i]?=some g)(O:stepG P (i==0) g w=.go g' w' es)
  (U:BL F B.N0 gs.size j c (upd φ i x) v₁ wt₁ sm₁ cl₁)
  (Y:Dx F B.N0 B.t0 gs.size j c (upd φ i x) (t++MemOp.ofEvents i g.frame.fn g.frame.place es))
  (Z:Da P F (i==0) x ρ true g' s')
  (hC:BQ (t++MemOp.ofEvents i g.frame.fn g.frame.place es) w' gs.size (upd S i s') Sh)
  (aa:F.WG w' v₁ wt₁ sm₁) (ab:F.ChanAt w' cl₁ k₁)
  (ae:cl₁=cl∨(mayWake P g=true/\g'.status=.running))
  (ag:cl₁=true->∀K k',K<gs.size->φ K≠ .ph (.B7 k'))
  (ah:sm₁=sm∨sm₁=0∨(mayWake P g=true/\g'.status=.running/\φ (B.N0+F.n)=.ph .CY)∨(c=true->bt (B.N0+F.n)=true))
  (ai:i=0->Le (S 0).E s'.E) (aj:w'.tape=w.tape) (ak:w'.os=w.os) (al:w'.output=w.output) (am:∀k',x=.ph (.B7 k')->φ i=.ph (.B7 k'))
  (hm:wt F.n x<wt F.n (φ i)∨(wt F.n x=wt F.n (φ i)/\Rk.sub ρ (r i))):HK P F B gs w sl t i (mu F gs.size φ r bt):=by
 let⟨ap,an⟩:=h.go hi U Y Z hC aa ab ae ag ah ai aj ak al am;refine⟨_,_,_,_,runT_crowd_go hi O,.inl ⟨_,_,_,_,_,_,_,_,_,_,_,_,an,?_⟩⟩;have ao:((gs.map (woken P g g' w')).setIfInBounds i g').size=gs.size:=by simp
 rw[ao];exact WY (d4.1 hi).1 hm
theorem Inv.noSend(h:Inv P F B gs w t φ r bt S Sh j c v wt' sm cl k)(Z:cl=true):∀K k',K<gs.size->φ K≠ .ph (.B7 k'):=by
 intro K k' U e;have hm:=h.A9.mode;subst Z;have aa:v=0:=by
  split at hm
  .cases Y:φ (B.N0+F.n) with
   | gone d=>rw[Y] at hm;exact hm.2.2.2.2.1
   | ph p=>rw[Y] at hm;cases p<;>simp[Cs] at hm
  .simp [Cs] at hm
 have ab:=h.A9.cnt;have:=le_sumTo (f:=λa=>cU (φ a)) U;simp only[e,cU] at this;have ae:(sumTo gs.size λa=>cU (φ a))=0:=by omega
 have O:cU (φ K)<=sumTo gs.size λa=>cU (φ a):=le_sumTo (f:=λa=>cU (φ a)) U;rw[e] at O;simp only[cU] at O;have ag:1<=sumTo gs.size λa=>cU (φ a):=O;omega
theorem Dx.Wt{F:Fam}{N0 t0 N j:Nat}{c:Bool}{φ:Nat->Nx}{t:Trace}(h:Dx F N0 t0 N j c φ t)(K:BL F N0 N j c φ v wt' sm cl)(hi:i<N)(Y:φ i=.ph p)
  (Z:∀e∈es,(∀a b,(MemAct.ofEvent e).touch?=some a->Dg a.loc=some b->b≠F.wg/\b≠F.ch)/\e.loc≠ .mark (.release F.sA)/\e.loc≠ .mark .disable/\e.loc≠ .mark .enable)
  (ae:Fam.DU p=true->es=#[]):Dx F N0 t0 N j c φ (t++MemOp.ofEvents i fn pos es):=by
 have ag:i=0∨N0<=i:=by
  rcases K.Fs hi with rfl | ⟨a,b⟩ | ⟨k,ab,rfl⟩ | ⟨U,rfl⟩;exact .inl V;have:=K.old i a b;rw[Y] at this;exact this.elim;exact .inr (by omega);exact .inr (by omega)
 have:=h.app (x:=φ i) (fn:=fn) (pos:=pos) (es:=es) hi K.jn (deafBehind_still (λe he=>⟨(Z e he).2.2.1,(Z e he).2.2.2⟩) _) (λe he=>⟨λa b ah hb ai=>absurd ai (by have:=(Z e he).1 a b ah hb;rintro(q | q);exact this.1 q;exact this.2 q),(Z e he).2.1⟩) (.inl ag)
  (λU O=>K.Mn U O) (λk ab e aa ρ aj=>?_) (λk ab e aa ak=>absurd aa ak) (λU e O=>.inr O) (λU e O=>by rw[Y] at O;exact O.elim)
 .rwa [Od] at this
 ·
  have am:=K.size;have an:=K.jn;have al:k<j:=by
   rcases K.Fs hi with q | ⟨a,b⟩ | ⟨k',ao,q⟩ | ⟨U,q⟩;have:=K.pos;omega;omega;omega;omega
  have hw:=K.work k al;rw[← e,Y] at hw;rw[Y] at aa;have:es=#[]:=ae (by cases p<;>simp only[Ih] at hw<;>(try exact hw.elim)<;>first | rfl | exact aa.elim)
  subst this;have:MemOp.ofEvents i fn pos #[]=#[]:=by rw[ofEvents_eq];simp
  rw[this];simpa using aj
theorem Inv.own(h:Inv P F B gs w t φ r bt S Sh j c v wt' sm cl k)(hi:gs[i]?=some g)(O:φ i=.ph p)(ai:(i==0)=Fam.C5 p)(ab:Fam.DU p=true->S i=.quiet)
  (aj:stepG P (i==0) g w=.go g' w' es) (ak:Jr P (i==0) (JQ (Stop P F p)) ρ g' s') (al:Fits s' w') (K:Fr (S i) w s' w') (Y:∀e∈es,Ev (S i) w w' e) (ae:S i=.quiet->s'=.quiet/\w'=w/\es=#[]) (am:Rk.sub ρ (r i)):
  HK P F B gs w sl t i (mu F gs.size φ r bt):=by
 have U:i<gs.size:=(d4.1 hi).1;have ag:upd φ i (.ph p)=φ:=by rw[← O];exact Od _ _
 have Z:=h.Ci.sh i U F.wg h.Iq;have aa:=h.Ci.sh i U F.ch h.Gx;have an:=h.Ci.Fq F.wg h.Iq;have ao:=h.Ci.Fq F.ch h.Gx;have ap:∀b wr,FV (S i) w w' b wr->b≠F.wg/\b≠F.ch:=by
  intro b wr ah;constructor;rintro rfl;rcases ah.2 with q | q | ⟨q,_⟩;exact q Z.1;omega;exact q Z.2;rintro rfl;rcases ah.2 with q | q | ⟨q,_⟩;exact q aa.1;omega;exact q aa.2
 refine h.go' hi aj (k₁:=k) (x:=.ph p) (ρ:=ρ) (s':=s') (by rw[ag];exact h.A9) (by
   rw[ag]
   refine h.Ex.Wt h.A9 U O (λe he=>⟨λa b aq hb=>ap b a.write (Ml (Y e he) aq hb),?_,?_,?_⟩) λq=>(ae (ab q)).2.2
   all_goals
    intro ar
    have:=Y e he
    unfold Ev at this
    rw[ar] at this
    exact this)
  (.walk ai (λq=>(ae (ab q)).1) ak) (h.Ci.own U al K Y) ?_ ?_ (.inl rfl) (λq=>h.noSend q) (.inl rfl) (λe=>by subst e;exact λb o au=>K.ext b o au) K.tape K.os K.output (λk' e=>by rw[O];exact e) (.inr ⟨by rw[O],am⟩)
 show w'.heap[F.wg]?=_;rw[K.keep _ an Z.1];exact h.wg;show w'.heap[F.ch]?=_;rw[K.keep _ ao aa.1];exact h.Hq
theorem Inv.slip(h:Inv P F B gs w t φ r bt S Sh j c v wt' sm cl k)(hi:gs[i]?=some g)(U:g.status=.running)(K:φ i=.gone d)(Y:r i=chain q)(Z:(i==0)=false)(ae:QuitsD P q d g)(ak:S i=.quiet):
  HK P F B gs w sl t i (mu F gs.size φ r bt):=by
 have ag:i<gs.size:=(d4.1 hi).1;cases q with
 | zero=>rw[ae.1] at U;cases U
 | succ q=>
  rcases ae with⟨al,_⟩ | ⟨_,g',es,hm,am,an⟩;rw[al] at U;cases U
  have ao:∀op∈MemOp.ofEvents i g.frame.fn g.frame.place es,op.act.touch?=none:=λop O=>by obtain⟨e,he,rfl⟩:=mem_ofEvents O;exact touch_mute (hm e he)
  have ap:∀e∈es,e.loc≠ .mark (.release F.sA):=by
   intro e he ah;have:=hm e he;obtain⟨loc,wr,av⟩:=e;simp only at ah;subst ah;simp[Event.mute] at this
  refine h.go' hi (by rw[Z];exact am w) (x:=.gone (deafBehind d es)) (ρ:=chain q) (s':=.quiet) (h.A9.leave ag K) ?_ (.gone Z an) ?_ h.wg h.Hq (.inl V) (λq=>h.noSend q) (.inl V) (λe=>by subst e;simp at Z) V V V (by simp) (.inr ⟨by rw[K];rfl,by rw[Y];exact TN q w⟩);refine h.Ex.app ag h.A9.jn (by rw[K];rfl) (λe he=>⟨λa b ai=>(by rw[touch_mute (hm e he)] at ai;cases ai),ap e he⟩) (.inr λe he=>touch_mute (hm e he)) (λaa ab=>h.A9.Mn aa ab) (λk aq e ar ρ Y=>?_) (λk aq e ar aj=>by rw[K] at aj;exact absurd trivial aj) (λaa e ab=>.inr (.inr (by rw[K];trivial))) (λaa e ab=>.inr ⟨by rw[K];trivial,λe he=>touch_mute (hm e he)⟩);exact Y.appOwn _ _ es λm e he=>.inl (touch_mute (hm e (Array.mem_of_getElem? he)))
  .have au:upd S i .quiet=S:=by rw[← ak];exact Od _ _
   rw[au];exact h.Ci.mute (g:=i) (λop O=>by obtain⟨e,_,rfl⟩:=mem_ofEvents O;rfl) ao (λop O=>by obtain⟨e,he,rfl⟩:=mem_ofEvents O;exact low_mute (hm e he) _) V
theorem BL.enabled{N:Nat}(h:BL F k' N j c φ v wt' sm cl)(hi:i<N)(K:φ i=.ph p)(am:∀k,p≠ .B7 k)(an:∀k,p≠ .Fb k)(ao:p≠ .Fo)(ap:∀ks vs,p≠ .BP ks vs)(aq:p≠ .Dh)(ar:p=.CY->sm=1):
  ∃v' w' sm' es au,F.act p v wt' sm=some ((v',w',sm'),es,au):=by
 have hm:=h.mode;have az:=h.Se;have aA:=h.IX;have O:=h.cnt;have aa:cU (φ i)<=sumTo N λa=>cU (φ a):=le_sumTo (f:=λa=>cU (φ a)) hi;have ab:cL (φ i)<=sumTo N λa=>cL (φ a):=le_sumTo (f:=λa=>cL (φ a)) hi;have ai:cS (φ i)<=sumTo N λa=>cS (φ a):=le_sumTo (f:=λa=>cS (φ a)) hi;rw[K] at aa ab ai;have av:wt'<=1:=by
  generalize (if c=true then φ (k'+F.n) else Nx.ph .Cv)=y at hm
  cases y with
  | gone d=>simp only[Cs] at hm;omega
  | ph q=>cases q<;>simp only[Cs] at hm<;>(try exact hm.elim)<;>omega
 have ae:1<=(sumTo N λa=>cL (φ a))+(sumTo N λa=>cS (φ a))->v=0/\sm=0/\wt'=sumTo N λa=>cL (φ a):=by
  intro hh;generalize (if c=true then φ (k'+F.n) else Nx.ph .Cv)=y at hm
  cases y with
  | gone d=>simp only[Cs] at hm;omega
  | ph q=>cases q<;>simp only[Cs] at hm<;>(try exact hm.elim)<;>omega
 have ag:∀x,φ i=.ph x->HO (.ph x)->c=true/\(if c=true then φ (k'+F.n) else Nx.ph .Cv)=.ph x:=by
  intro x Y aj;rcases h.Fs hi with rfl | ⟨a,b⟩ | ⟨k,ah,rfl⟩ | ⟨O,rfl⟩;obtain⟨q,U,Z⟩:=h.main;rw[Y] at U;cases U;cases x<;>simp[HG] at Z<;>exact aj.elim;have:=h.old i a b;rw[Y] at this;exact this.elim;have:=h.work k ah;rw[Y] at this;cases x<;>simp[Ih] at this<;>exact aj.elim;exact⟨O,by rw[d5 O];exact Y⟩
 cases p<;>simp only[Fam.act];exact absurd V (am _);exact⟨_,_,_,_,_,V⟩;exact⟨_,_,_,_,_,V⟩
 .simp only [cU] at aa;have:1<=v:=by
   have aB:1<=sumTo N λa=>cU (φ a):=aa;omega
  rw[d5 ⟨this,by omega,av⟩];exact⟨_,_,_,_,_,V⟩
 have aw:1<=sumTo N λa=>cL (φ a):=ab;have:=ae (by omega);rw[d5 ⟨this.1,by omega⟩];exact⟨_,_,_,_,_,V⟩;have aw:1<=sumTo N λa=>cL (φ a):=ab;have:=ae (by omega);rw[d5 ⟨this.1,by omega⟩];exact⟨_,_,_,_,_,V⟩;have aC:1<=sumTo N λa=>cS (φ a):=ai;have:=ae (by omega);rw[d5 this.2.1];exact⟨_,_,_,_,_,V⟩;exact⟨_,_,_,_,_,V⟩;let⟨ak,e⟩:=ag _ K trivial;rw[e] at hm;rw[d5 ⟨hm.2.2.2.2.2,hm.2.2.2.1⟩];exact⟨_,_,_,_,_,V⟩;let⟨ak,e⟩:=ag _ K trivial;rw[e] at hm;rw[d5 ⟨hm.2.2.2.2.2.1,hm.2.2.2.2.2.2,hm.2.2.2.1⟩];split<;>exact⟨_,_,_,_,_,rfl⟩;exact⟨_,_,_,_,_,V⟩;rw[d5 (ar rfl)];exact⟨_,_,_,_,_,V⟩;let⟨ak,e⟩:=ag _ K trivial;rw[e] at hm;rw[d5 ⟨hm.2.2.2.2.1,hm.2.2.2.1⟩];exact⟨_,_,_,_,_,V⟩;exact⟨_,_,_,_,_,V⟩;exact⟨_,_,_,_,_,V⟩;exact absurd V aq;exact⟨_,_,_,_,_,V⟩
 .have ay:c=false/\v<=j/\j<F.n:=by
   rcases h.Fs hi with rfl | ⟨a,b⟩ | ⟨k,ah,rfl⟩ | ⟨O,rfl⟩;obtain⟨q,U,Z⟩:=h.main;rw[K] at U;cases U;have al:=h.Ip;rw[K] at al;exact⟨Z.2.2,by simpa [pend] using al,Z.2.1⟩;have:=h.old i a b;rw[K] at this;exact this.elim;have:=h.work k ah;rw[K] at this;exact this.elim;have:=h.cls O;rw[K] at this;exact this.elim
  rw[ay.1] at hm;simp only[ld,lK,Cs] at hm;rw[d5 ⟨by omega,hm.2.2.2.1⟩];exact⟨_,_,_,_,_,V⟩
 exact⟨_,_,_,_,_,V⟩;exact⟨_,_,_,_,_,V⟩;exact absurd V (an _);exact absurd V ao;exact absurd V (ap _ _)
 all_goals exact⟨_,_,_,_,_,rfl⟩
end
theorem Oy(f:Nat->α)(i:Nat)(x y:α):upd (upd f i x) i y=upd f i y:=by
 funext a;unfold upd;split<;>rfl
variable{s₀:St}
section
variable {P:Program}{F:Fam}{B:Base}{gs:Array Goroutine}{w w':World}{sl:Option (Nat×Nat)}{t:Trace}{φ:Nat->Nx}{r:Nat->Rk}{bt:Nat->Bool}{S:Nat->St}{Sh:Nat->Prop}{j:Nat}{c:Bool}{v wt' sm v₁ wt₁ sm₁:Nat}{cl cl₁:Bool}{k k₁:Nat}
theorem XM{O:Nx}(K:F.act p v wt' sm=some ((v₁,wt₁,sm₁),es,O)):
  (∀q,O=.ph q->Fam.C5 q=Fam.C5 p/\(Fam.DU q=true->p=.Gr∨Fam.DU p=true))/\(∀k,O≠ .ph (.B7 k))/\(sm₁=sm∨sm₁=0∨p=.Et)/\(∀d,O=.gone d->Fam.C5 p=false):=by
 cases p<;>simp only[Fam.act] at K<;>(try (cases K;done));cases K;exact⟨λq e=>by cases e;exact⟨rfl,λ_=>.inl rfl⟩,by simp,.inl V,by simp⟩;cases K;exact⟨λq e=>by cases e;exact⟨rfl,λ_=>.inr rfl⟩,by simp,.inl V,by simp⟩;split at K;cases K;refine⟨λq e=>?_,?_,.inl V,λ_ _=>V⟩;split at e;cases e;exact⟨V,λ_=>.inr V⟩;cases e;intro k;split<;>simp;cases K;split at K;cases K;exact⟨λq e=>by cases e;exact⟨rfl,λ_=>.inr rfl⟩,by simp,.inl V,by simp⟩;cases K;split at K;cases K;exact⟨λq e=>by cases e;exact⟨rfl,λ_=>.inr rfl⟩,by simp,.inl V,by simp⟩;cases K;split at K;cases K;exact⟨λq e=>(by cases e),by simp,.inr (.inr V),λ_ _=>V⟩;cases K;cases K;exact⟨λq e=>by cases e;exact⟨rfl,λh=>by cases h⟩,by simp,.inl V,by simp⟩;split at K;cases K;refine⟨λq e=>?_,?_,.inl V,?_⟩;split at e<;>cases e<;>exact⟨rfl,λh=>by cases h⟩;intro k;split<;>simp;intro d;split<;>simp;cases K;split at K;split at K;cases K;exact⟨λq e=>by cases e;exact⟨rfl,λh=>by cases h⟩,by simp,.inl V,by simp⟩;cases K;exact⟨λq e=>by cases e;exact⟨rfl,λh=>by cases h⟩,by simp,.inl V,by simp⟩;cases K;cases K;exact⟨λq e=>by cases e;exact⟨rfl,λh=>by cases h⟩,by simp,.inl V,by simp⟩;split at K;cases K;exact⟨λq e=>by cases e;exact⟨rfl,λh=>by cases h⟩,by simp,.inr (.inl V),by simp⟩;cases K;split at K;cases K;exact⟨λq e=>by cases e;exact⟨rfl,λh=>by cases h⟩,by simp,.inl V,by simp⟩;cases K;cases K;exact⟨λq e=>by cases e;exact⟨rfl,λh=>by cases h⟩,by simp,.inl V,by simp⟩;cases K;exact⟨λq e=>by cases e;exact⟨rfl,λh=>by cases h⟩,by simp,.inl V,by simp⟩;cases K;exact⟨λq e=>by cases e;exact⟨rfl,λh=>by cases h⟩,by simp,.inl V,by simp⟩;split at K;cases K;refine⟨λq e=>?_,?_,.inl V,?_⟩;split at e<;>cases e<;>exact⟨rfl,λh=>by cases h⟩;intro k;split<;>simp;intro d;split<;>simp;cases K;cases K;exact⟨λq e=>by cases e;exact⟨rfl,λh=>by cases h⟩,by simp,.inl V,by simp⟩
 all_goals
  cases K;exact⟨λq e=>by cases e;exact⟨rfl,λh=>by cases h⟩,by simp,.inl V,by simp⟩
theorem UA(w:World)(v wt sm:Nat):(F.put w v wt sm).heap.size=w.heap.size:=by simp[Fam.put]
theorem Rw(w:World)(v wt sm:Nat){b:Nat}(h:b≠F.wg):(F.put w v wt sm).heap[b]?=w.heap[b]? :=by simp[Fam.put,d9 (lu h)]
theorem Rs(w:World)(v wt sm:Nat)(h:F.wg<w.heap.size):F.WG (F.put w v wt sm) v wt sm:=by simp[Fam.WG,Fam.put,h]
theorem Inv.act(h:Inv P F B gs w t φ r bt S Sh j c v wt' sm cl k)(hi:gs[i]?=some g)(Z:φ i=.ph p)(U:(i==0)=Fam.C5 p)(am:BW (S i) s₀)(ab:Stop P F p g s₀)
  {es:Array Event}{an:Nx}(O:F.act p v wt' sm=some ((v₁,wt₁,sm₁),es,an)):HK P F B gs w sl t i (mu F gs.size φ r bt):=by
 have aa:i<gs.size:=(d4.1 hi).1;let⟨g',aB,aC,ao⟩:=ab.law.act _ _ _ _ _ _ _ _ O;let⟨n1,n2,aD,aE⟩:=XM O;have ae:=h.Ci.Fq F.wg h.Iq;have ap:=h.A9.act aa Z O;let⟨aq,ar,aF⟩:=h.Ex.act h.A9 aa Z O g.frame.fn g.frame.place;have aG:BQ t w gs.size (upd S i s₀) Sh:=h.Ci.ghost aa am;have ag:BQ (t++MemOp.ofEvents i g.frame.fn g.frame.place es) (F.put w v₁ wt₁ sm₁) gs.size (upd S i s₀) Sh:=by
  refine aG.ext (h.Ex.noRace h.Ci.clean aa aF ar) (λop ah a aH b hb=>?_) (λop ah=>?_) (UA ..) (λb hb=>Rw _ _ _ _ λe=>hb (e▸h.Iq));obtain⟨e,he,rfl⟩:=mem_ofEvents ah;let⟨⟨aO,au,aI⟩,_⟩:=(ar e he).1 a aH;rw[hb] at au;cases au;rcases aI with rfl | rfl;exact h.Iq;exact h.Gx;obtain⟨e,he,rfl⟩:=mem_ofEvents ah;exact(RB p O).2.2 e he _ ae
 have av:stepG P (i==0) g w=.go g' (F.put w v₁ wt₁ sm₁) es:=by rw[U];exact aB w h.wg
 have aw:F.ChanAt (F.put w v₁ wt₁ sm₁) cl k:=by show(F.put w v₁ wt₁ sm₁).heap[F.ch]?=_;rw[Rw _ _ _ _ (lu h.ne)];exact h.Hq
 have ay:sm₁=sm∨sm₁=0∨(mayWake P g=true/\g'.status=.running/\φ (B.N0+F.n)=.ph .CY)∨(c=true->bt (B.N0+F.n)=true):=by
  rcases aD with q | q | q;exact .inl q;exact .inr (.inl q)
  .subst q;have aJ:=ab.law.Hn (.inl V);by_cases e:φ (B.N0+F.n)=.ph .CY;exact .inr (.inr (.inl ⟨aJ,aC,e⟩))
   .refine .inr (.inr (.inr λai=>?_));have aK:B.N0+F.n<gs.size:=by have az:=h.A9.size;have aP:=h.A9.cj ai;rw[ai] at az;simp at az;omega
    obtain⟨o,K⟩:∃o,gs[B.N0+F.n]?=some o:=⟨_,f9 aK⟩;have Y:=h.Ez _ _ K;generalize r (B.N0+F.n)=aQ at Y;generalize S (B.N0+F.n)=aR at Y;have aj:=h.A9.cls ai;generalize hb:bt (B.N0+F.n)=b at Y ⊢;generalize aS:φ (B.N0+F.n)=x at Y aj e;cases Y with
    | walk _ _ _=>rfl
    | again _ _=>rfl
    | FH _ _=>exact aj.elim
    | F0 _ _ _ _=>exact aj.elim
    | blk _ _=>exact absurd rfl e
    | gone _ _=>rfl
 cases an with
 | ph q=>
  let⟨aL,aM⟩:=n1 q V;obtain⟨ρ,aN⟩:=ao;have ak:BQ (t++MemOp.ofEvents i g.frame.fn g.frame.place es) (F.put w v₁ wt₁ sm₁) gs.size (upd S i (Fam.GZ p s₀)) Sh:=by
   by_cases e:p=.Gr
   .subst e;have:=ag.less (i:=i) (s':=.quiet) (λb o K=>by cases K) (λb o K=>by cases K)
    rwa[Oy] at this
   .have:Fam.GZ p s₀=s₀:=by cases p<;>first | rfl | exact absurd rfl e
    rw[this];exact ag
  refine h.go' hi av ap aq (x:=.ph q) (ρ:=ρ) (s':=Fam.GZ p s₀) (.walk (by rw[U,aL]) (λal=>?_) (by rw[U];exact aN)) ak (Rs _ _ _ _ ae) aw (.inl V) (λe=>h.noSend e) ay (λe=>?_) V V V (λk' e=>absurd e (n2 k')) (.inl (by rw[Z];exact Ru O))
  .rcases aM al with e | e;subst e;rfl
   .have:Fam.GZ p s₀=s₀:=by cases p<;>first | rfl | cases e
    rw[this];exact ab.law.quiet e
  .have:Fam.GZ p s₀=s₀:=by
    cases p<;>first | rfl | (subst e;simp[Fam.C5] at U)
   rw[this];subst e;exact λb o K=>am.ext b o K
 | gone d=>
  obtain⟨q,al⟩:=ao;have aA:(i==0)=false:=by rw[U];exact aE d V
  have ak:BQ (t++MemOp.ofEvents i g.frame.fn g.frame.place es) (F.put w v₁ wt₁ sm₁) gs.size (upd S i .quiet) Sh:=by
   have:=ag.less (i:=i) (s':=.quiet) (λb o K=>by cases K) (λb o K=>by cases K)
   rwa[Oy] at this
  exact h.go' hi av ap aq (x:=.gone d) (ρ:=chain q) (s':=.quiet) (.gone aA al) ak (Rs _ _ _ _ ae) aw (.inl V) (λe=>h.noSend e) ay (λe=>by subst e;simp at aA) V V V (λk' e=>absurd e (n2 k')) (.inl (by rw[Z];exact Ru O))
theorem SD(h:g'.status=.blocked):woken P g g' w o=o:=by
 unfold woken;rw[d7 (by simp[h])]
theorem Inv.rest(h:Inv P F B gs w t φ r bt S Sh j c v wt' sm cl k){u:Trace}(ae:i<gs.size)(am:bt i=true)(ai:BW (S i) s₀)(an:Da P F (i==0) (φ i) (r i) false g' s₀)(hu:u=#[])
  (ao:i=0->cl=false/\∀a k',a<gs.size->φ a=.ph (.B7 k')->bt a=true) (hsend:∀k',φ i=.ph (.B7 k')->bt 0=true) (ap:c=true->i=B.N0+F.n->sm=0):
  ∃aj,Inv P F B (gs.setIfInBounds i g') w (t++u) φ r aj (upd S i s₀) Sh j c v wt' sm cl k/\Mu.lt (mu F (gs.setIfInBounds i g').size φ r aj) (mu F gs.size φ r bt):=by
 subst hu;have O:(gs.setIfInBounds i g').size=gs.size:=by simp
 have aq:t++(#[]:Trace)=t:=by simp
 have ab:∀{a},a≠i->upd bt i false a=bt a:=λe=>upd_ne _ _ e;rw[aq];refine⟨upd bt i false,⟨by rw[O];exact h.A9,by rw[O];exact h.Ex,λa o U=>?_,by rw[O];exact h.Ci.ghost ae ai,h.Iq,h.Gx,h.ne,h.wg,h.Hq,λK=>?_,λak K=>?_,?_,h.tape,h.os,h.output⟩,?_⟩;by_cases e:a=i;subst e;rw[k9 ae] at U;obtain rfl:=d6 U;rw[upd_same,upd_same];exact an;rw[d9 (lu e)] at U;rw[upd_ne _ _ e,upd_ne _ _ e];exact h.Ez a o U;by_cases e:0=i;subst e;let⟨ag,ah⟩:=ao V;refine⟨ag,λa k' Y Z=>?_⟩;rw[O] at Y;by_cases aa:a=0;subst aa;obtain⟨p,al,hm⟩:=h.A9.main;rw[Z] at al;cases al;exact hm.elim;rw[ab aa];exact ah a k' Y Z;rw[ab e] at K;let⟨ag,ah⟩:=h.Nh K;refine⟨ag,λa k' Y Z=>?_⟩;rw[O] at Y;by_cases aa:a=i;subst aa;rw[hsend k' Z] at K;cases K;rw[ab aa];exact ah a k' Y Z;by_cases e:B.N0+F.n=i;exact ap ak e.symm;rw[ab e] at K;exact h.blk ak K;by_cases e:0=i;subst e;rw[upd_same];exact λb o U=>ai.ext b o (h.le b o U);rw[upd_ne _ _ e];exact h.le;rw[O];have:=sumTo_upd bt false bit ae;rw[am] at this;exact .inr ⟨V,V,.inr ⟨V,by show(sumTo gs.size λa=>bit (upd bt i false a))<sumTo gs.size λa=>bit (bt a);simp only[bit] at this ⊢;simp only[lQ,ld,lK] at this;omega⟩⟩
theorem Inv.block(h:Inv P F B gs w t φ r bt S Sh j c v wt' sm cl k)(hi:gs[i]?=some g)(O:φ i=.ph .CY)(Z:bt i=true)(K:(i==0)=false)(aa:BW (S i) s₀)(U:Stop P F .CY g s₀)(ab:sm=0):
  HK P F B gs w sl t i (mu F gs.size φ r bt):=by
 have ae:i<gs.size:=(d4.1 hi).1;subst ab;have ag:=U.law.EA V w v wt' h.wg;have Y:=runT_crowd_go (P:=P) (sl:=sl) (i:=i) hi (by rw[K];exact ag);have ah:(gs.map (woken P g {g with status:=.blocked} w)).setIfInBounds i {g with status:=.blocked}=gs.setIfInBounds i {g with status:=.blocked}:=by
  have:(woken P g {g with status:=.blocked} w)=id:=by funext o;exact SD V
  rw[this,Array.map_id]
 rw[ah] at Y;obtain⟨ak,ai,aj⟩:=h.rest (g':={g with status:=.blocked}) (u:=MemOp.ofEvents i g.frame.fn g.frame.place #[]) ae Z aa (by rw[O];exact .blk K U) (by rw[ofEvents_eq];simp) (λe=>by subst e;simp at K) (λk' e=>by rw[O] at e;cases e) (λ_ _=>rfl);exact⟨_,_,_,_,Y,.inl ⟨_,_,_,_,_,_,_,_,_,_,_,_,ai,aj⟩⟩
theorem Inv.close(h:Inv P F B gs w t φ r bt S Sh j c v wt' sm cl k)(hi:gs[i]?=some g)(K:φ i=.ph .Dh)(ae:(i==0)=false)(ai:Stop P F .Dh g s₀):
  HK P F B gs w sl t i (mu F gs.size φ r bt):=by
 have Z:i<gs.size:=(d4.1 hi).1;have ar:c=true/\i=B.N0+F.n:=by
  rcases h.A9.Fs Z with rfl | ⟨a,b⟩ | ⟨k',au,rfl⟩ | q;simp at ae;have:=h.A9.old i a b;rw[K] at this;exact this.elim;have:=h.A9.work k' au;rw[K] at this;exact this.elim;exact q
 obtain⟨O,rfl⟩:=ar;have av:cl=false:=by
  have hm:=h.A9.mode;rw[d5 O,K] at hm;exact hm.2.2.2.2.2
 subst av;have aK:v=0:=by
  have hm:=h.A9.mode;rw[d5 O,K] at hm;exact hm.2.2.2.2.1
 let⟨g',aw,ay,q,az⟩:=ai.law.close V;have aj:=h.Ci.Fq F.ch h.Gx;have aA:=ai.law.Hn (.inr V);have aB:MemOp.ofEvents (B.N0+F.n) g.frame.fn g.frame.place (closeEvents F.ch)=#[{g:=B.N0+F.n,fn:=g.frame.fn,pos:=g.frame.place,act:=.access ⟨.obj F.ch,false,true⟩},{g:=B.N0+F.n,fn:=g.frame.fn,pos:=g.frame.place,act:=.close F.ch}]:=by
  simp[MemOp.ofEvents,closeEvents,MemAct.ofEvent]
 have ak:∀b,b≠F.ch->(w.setChan F.ch 0 #[] true k k false).heap[b]?=w.heap[b]? :=λb hb=>by simp[World.setChan,d9 (lu hb)]
 have al:∀e∈closeEvents F.ch,∀a,(MemAct.ofEvent e).touch?=some a->a=⟨.obj F.ch,false,.atomic⟩:=by
  intro e he a U;simp only[closeEvents,lZ,li,l3,mP] at he;rcases he with rfl | rfl;simp[MemAct.ofEvent,MemAct.touch?] at U;exact U.symm;simp[MemAct.ofEvent,MemAct.touch?] at U
 have aa:∀e∈closeEvents F.ch,EvS F (B.N0+F.n=if c=true then B.N0+F.n else 0) e:=by
  intro e he;refine⟨λa U=>?_,?_⟩;have:=al e he a U;subst this;exact⟨⟨F.ch,V,.inr V⟩,by simp,by simp⟩;simp only[closeEvents,lZ,li,l3,mP] at he;rcases he with rfl | rfl<;>simp
 have aL:=h.A9.n1;have aM:=h.A9.pos;refine h.go' hi (w':=w.setChan F.ch 0 #[] true k k false) (by rw[ae];exact ay w k h.Hq) (x:=.gone 0) (ρ:=chain q) (s':=.quiet) (cl₁:=true) (k₁:=k) (h.A9.close O K) ?_ (.gone ae az) ?_ ?_ ?_ (.inr ⟨aA,aw⟩) (λ_ aC k' aD e=>?_) (.inl V) (λe=>absurd e (by omega)) V V V (by simp) (.inl (by rw[K];simp[wt]))
 .refine h.Ex.app Z h.A9.jn (by rw[K];rfl) (λe he=>⟨λa b U hb aN=>⟨((aa e he).1 a U).2.1,((aa e he).1 a U).2.2⟩,(aa e he).2⟩) (.inl (.inr (by omega))) (λO ab=>h.A9.Mn O ab) (λk' am e aE ρ an=>by omega) (λk' am e aE aO=>by have:=h.A9.cj O;omega) (λO e ab=>.inr (.inl K)) (λaP e ab=>.inl ?_);let⟨ao,ap⟩:=h.Ex.acq O (.inl K);have aQ:ao<t.size:=lt_of_act? ap.1;rw[aB];generalize hu:(#[({g:=B.N0+F.n,fn:=g.frame.fn,pos:=g.frame.place,act:=.access ⟨.obj F.ch,false,true⟩}:MemOp),{g:=B.N0+F.n,fn:=g.frame.fn,pos:=g.frame.place,act:=.close F.ch}]:Trace)=u;have aF:(t++u)[t.size]?=some {g:=B.N0+F.n,fn:=g.frame.fn,pos:=g.frame.place,act:=.access ⟨.obj F.ch,false,true⟩}:=by subst hu;simp
  have ag:(t++u)[t.size+1]?=some {g:=B.N0+F.n,fn:=g.frame.fn,pos:=g.frame.place,act:=.close F.ch}:=by
   subst hu;rw[mq (by omega)];simp
  refine⟨t.size+1,by rw[act?_of ag],by simp[Trace.g?,ag],⟨B.N0+F.n,by simp[Trace.g?,ag],?_⟩,⟨ao,by omega,ap.app λk' ρ am an=>an.appOther (g:=B.N0+F.n) (by subst hu;simp) (by omega)⟩,λx ab aG aH=>?_⟩;rw[deaf_succ aF,deaf_old (la _)];have:=h.Ex.deaf _ Z;rw[K] at this;show deafStep _ (Deaf t _) _=0;rw[this];rfl;let⟨op,Y,_⟩:=lJ.1 aG;have:=lt_size_of_getElem? Y;subst hu;simp at this;omega
 .have aI:BQ (t++MemOp.ofEvents (B.N0+F.n) g.frame.fn g.frame.place (closeEvents F.ch)) (w.setChan F.ch 0 #[] true k k false) gs.size S Sh:=by
   refine h.Ci.ext (h.Ex.noRace h.Ci.clean Z (.inr (by omega)) aa) (λop ah a aJ b hb=>?_) (λop ah=>?_) (by simp[World.setChan]) (λb hb=>ak b λe=>hb (e▸h.Gx));obtain⟨e,he,rfl⟩:=mem_ofEvents ah;have:=al e he a aJ;subst this;simp[Dg] at hb;subst hb;exact h.Gx;obtain⟨e,he,rfl⟩:=mem_ofEvents ah;simp only[closeEvents,lZ,li,l3,mP] at he;rcases he with rfl | rfl<;>simpa [MemAct.ofEvent,MemAct.low,Loc.low] using aj
  exact aI.less (i:=B.N0+F.n) (s':=.quiet) (λb o Y=>by cases Y) (λb o Y=>by cases Y)
 show(w.setChan F.ch 0 #[] true k k false).heap[F.wg]?=_;rw[ak _ h.ne];exact h.wg;show(w.setChan F.ch 0 #[] true k k false).heap[F.ch]?=_;simp[World.setChan,aj];have aH:=h.A9.cnt;have aq:cU (φ aC)<=sumTo gs.size λa=>cU (φ a):=le_sumTo (f:=λa=>cU (φ a)) aD;rw[e] at aq;have aR:1<=sumTo gs.size λa=>cU (φ a):=aq;omega
end
section
variable {P:Program}{F:Fam}{B:Base}{gs gs':Array Goroutine}{w w':World}{sl:Option (Nat×Nat)}{t:Trace}{φ:Nat->Nx}{r:Nat->Rk}{bt:Nat->Bool}{S:Nat->St}{Sh:Nat->Prop}{j:Nat}{c:Bool}{v wt' sm v₁ wt₁ sm₁:Nat}{cl cl₁:Bool}{k k₁:Nat}{main:Bool}
theorem Da.Rr{r:Rk}(h:Da P F main x r b o s)(hb:main=true->b=true):offersAt o F.ch false=[]:=by
 cases h with
 | walk _ _ K=>exact offersAt_of_not_blocked (by rw[K.running];simp) _ _
 | again _ _=>exact offersAt_of_not_blocked (by simp) _ _
 | FH O _=>cases hb O
 | F0 _ _ _ _=>exact offersAt_parked_send' _ _ _ _ _ _
 | blk _ U=>simp[offersAt,U.law.offers]
 | gone _ Y=>exact offersAt_of_not_blocked (by rcases Y.status with e | e<;>rw[e]<;>simp) _ _
theorem Da.OS{k:Nat}{r:Rk}(h:Da P F main (.ph (.B7 k)) r false o s):∃g v z,o=parked g #[scase F.ch v z] .send/\F.msg k v s.E/\s.q=false/\Way P false (Stop P F .CF) (served g undef) s:=by
 generalize K:Nx.ph (.B7 k)=x at h;generalize hb:false=b at h;cases h with
 | walk _ _ _=>cases hb
 | again _ _=>cases K
 | FH _ _=>cases K
 | F0 _ O U Y=>cases K;exact⟨_,_,_,rfl,O,U,Y⟩
 | blk _ _=>cases K
 | gone _ _=>cases K
theorem Da.N5{r:Rk}(h:Da P F main x r b o s)(K:offersAt o F.ch true≠ []):∃k,x=.ph (.B7 k)/\b=false:=by
 cases h with
 | walk _ _ O=>exact absurd (offersAt_of_not_blocked (by rw[O.running];simp) _ _) K
 | again _ _=>exact absurd (offersAt_of_not_blocked (by simp) _ _) K
 | FH Z _=>exact absurd (offersAt_parked_recv' _ _ _ _ _) K
 | F0 _ _ _ _=>exact⟨_,rfl,rfl⟩
 | blk _ U=>exact absurd (by simp[offersAt,U.law.offers]) K
 | gone _ Y=>exact absurd (offersAt_of_not_blocked (by rcases Y.status with e | e<;>rw[e]<;>simp) _ _) K
theorem Da.receiver{r:Rk}(h:Da P F main (.ph p) r b o s)(hb:b=false)(hm:main=true):∃ks vs g z,p=.BP ks vs/\o=parked g #[rcase F.ch z] (.recv true)/\Stop P F (.BP ks vs) g s:=by
 generalize O:Nx.ph p=x at h;cases h with
 | walk _ _ _=>cases hb
 | again _ _=>cases hb
 | FH _ U=>cases O;exact⟨_,_,_,_,rfl,rfl,U⟩
 | F0 K _ _ _=>rw[K] at hm;cases hm
 | blk K _=>rw[K] at hm;cases hm
 | gone _ _=>cases O
theorem S8{cs K:Array CommCase}{sh O:CommShape}(h:parked g cs sh=parked g' K O):cs=K/\sh=O/\∀x,served g x=served g' x:=by
 obtain⟨a,b,c,d,e⟩:=g;obtain⟨U,Y,Z,aa,ab⟩:=g';simp only[parked,Goroutine.mk.injEq,lP,nK,true_and] at h;obtain⟨rfl,rfl,rfl,rfl,rfl⟩:=h;exact⟨V,V,λ_=>V⟩
theorem PS(w:World)(c cap:Nat)(buf:Av_)(cl:Bool)(s r:Nat)(tm:Bool){b:Nat}(h:b≠c):(w.setChan c cap buf cl s r tm).heap[b]?=w.heap[b]? :=by simp[World.setChan,d9 (lu h)]
def HN(E E':LH):LH:=λb=>match E b with | some o=>some o | none=>E' b
def Gj(i s:Nat)(c:Nat)(f1 f2:FuncId)(p1 p2:String):Trace:=
 #[{g:=i,fn:=f1,pos:=p1,act:=.send c s},{g:=0,fn:=f2,pos:=p2,act:=.recv c s 0},{g:=i,fn:=f1,pos:=p1,act:=.sendDone c s},{g:=0,fn:=f2,pos:=p2,act:=.recvDone c s}]
theorem S3{s:Nat}{f1 f2:FuncId}{p1 p2:String}(hi:i≠0)(Y:Deaf t i=0)(Z:Deaf t 0=0){x:Nat}(aa:Knows t i x):Knows (t++Gj i s K f1 f2 p1 p2) 0 x:=by
 generalize hu:Gj i s K f1 f2 p1 p2=u;have O:(t++u)[t.size]?=some {g:=i,fn:=f1,pos:=p1,act:=.send K s}:=by subst hu;rw[mq (by omega)];simp[Gj]
 have ab:(t++u)[t.size+1]?=some {g:=0,fn:=f2,pos:=p2,act:=.recv K s 0}:=by subst hu;rw[mq (by omega)];simp[Gj]
 have ae:(t++u)[t.size+2]?=some {g:=i,fn:=f1,pos:=p1,act:=.sendDone K s}:=by subst hu;rw[mq (by omega)];simp[Gj]
 have U:(t++u)[t.size+3]?=some {g:=0,fn:=f2,pos:=p2,act:=.recvDone K s}:=by subst hu;rw[mq (by omega)];simp[Gj]
 have ag:=aa.hb_new (la _) O V;have ah:(t++u).heard t.size:=⟨i,by simp[Trace.g?,O],by rw[deaf_old (la _)];exact Y⟩;have ai:(t++u).heard (t.size+3):=⟨0,by simp[Trace.g?,U],by
  rw[deaf_succ ae,deaf_succ ab,deaf_succ O,deaf_old (la _)]
  simp only[deafStep];exact Z⟩
 exact⟨t.size+3,_,U,V,.inr (ag.trans (.single (.inr ⟨.handOver (by rw[act?_of O]) (by rw[act?_of U]),ah,ai⟩)))⟩
theorem Inv.meet(h:Inv P F B gs w t φ r bt S Sh j c v wt' sm cl k)(aM:∀k v E E',Le E E'->F.msg k v E->F.msg k v E')(aj:k'<j)(ak:i=B.N0+k')(Z:φ i=.ph (.B7 k'))(ah:φ 0=.ph (.BP ks vs))
  {aA aB:Goroutine}{s₀ K:St}(aC:BW (S 0) s₀) (aN:BW (S i) K) (aO:Stop P F (.BP ks vs) aA s₀) {x:Value}(aP:F.msg k' x K.E) (aQ:Way P false (Stop P F .CF) (served aB undef) K)
  (al:gs'.size=gs.size) (aR:gs'[0]?=some (served aA (.tuple #[x,.bool true]))) (hi:gs'[i]?=some (served aB undef)) (U:∀a,a≠0->a≠i->gs'[a]?=gs[a]?) (aS:cl=false) {f1 f2:FuncId}{p1 p2:String}:
  ∃aD aE aF S',Inv P F B gs' (w.setChan F.ch 0 #[] false (k+1) (k+1) false) (t++Gj i k F.ch f1 f2 p1 p2) aD aE aF S' Sh j c v wt' sm false (k+1)/\Mu.lt (mu F gs'.size aD aE aF) (mu F gs.size φ r bt):=by
 subst aS;have bg:=h.A9.pos;have bh:=h.A9.size;have aa:i<gs.size:=by omega
 have ab:0<gs.size:=by omega
 have ai:i≠0:=by omega
 have aG:F.has k'=true:=by have:=h.A9.work k' aj;rw[← ak,Z] at this;exact this.2
 have aT:k' ∉ ks:=by have:=(h.A9.Hr k' aj aG).1 (by rw[← ak];exact Z);rwa[ah] at this
 have aH:=h.A9.meet (x:=x) ah aj (by rw[← ak];exact Z);rw[← ak] at aH;have hu:∀op∈Gj i k F.ch f1 f2 p1 p2,op.act.touch?=none/\∀m,op.act≠ .mark m:=by
  intro op O;simp only[Gj,lZ,li,l3,mP] at O;rcases O with rfl | rfl | rfl | rfl<;>exact⟨rfl,by simp⟩
 have aU:=h.Ex.Cr h.A9 hu;have aI:=h.Ci.Fq F.ch h.Gx;have am:BQ t w gs.size (upd (upd S i K) 0 s₀) Sh:=by
  have:=(h.Ci.ghost aa aN).ghost (i:=0) (s₀:=s₀) ab (by rw[upd_ne _ _ (lu ai)];exact aC);exact this
 have ar:upd (upd S i K) 0 s₀ 0=s₀:=upd_same _ _ _;have au:upd (upd S i K) 0 s₀ i=K:=by rw[upd_ne _ _ ai,upd_same]
 have aV:BQ (t++Gj i k F.ch f1 f2 p1 p2) (w.setChan F.ch 0 #[] false (k+1) (k+1) false) gs.size (upd (upd S i K) 0 s₀) Sh:=by
  refine am.ext (λsaid=>?_) (λop O a an=>by rw[(hu op O).1] at an;cases an) (λop O=>?_) (by simp[World.setChan]) (λb hb=>PS _ _ _ _ _ _ _ _ λe=>hb (e▸h.Gx))
  .have key:∀(l:List MemOp) (t:Trace),¬Race said t->(∀op∈l,op.act.touch?=none)->¬Race said (t++l.toArray):=by
    intro l
    induction l with
    | nil=>intro t av _;simpa using av
    | cons y l aW=>
     intro t av ae;have e:t++(y::l).toArray=(t++ #[y])++l.toArray:=by apply lR;simp
     rw[e];exact aW _ (noRace_append (g:=y.g) av (by simp) λz a _ op O b hb _=>by simp at O;subst O;rw[ae op (by simp)] at hb;cases hb) λop O=>ae op (by simp[O])
   exact key _ t (h.Ci.clean said) λop O=>(hu op (by simpa [Gj] using O)).1
  .simp only [Gj,lZ,li,l3,mP] at O;rcases O with rfl | rfl | rfl | rfl<;>exact aI
 have aX:∀b o o',s₀.E b=some o->K.E b=some o'->o=o':=by
  intro b o o' aw ay;have a1:=(am.fits 0 ab).e b o (by rw[ar];exact aw);have ao:=(am.fits i aa).e b o' (by rw[au];exact ay);rw[a1] at ao;exact d6 ao
 have aJ:Le s₀.E (HN s₀.E K.E):=λb o U=>by simp[HN,U]
 have aY:Le K.E (HN s₀.E K.E):=λb o U=>by
  unfold HN;cases ap:s₀.E b with
  | none=>exact U
  | some o'=>simp only;rw[aX b o' o ap U]
 have aZ:Deaf t 0=0:=by rw[h.Ex.deaf 0 ab,ah];rfl
 have a0:Deaf t i=0:=by rw[h.Ex.deaf i aa,Z];rfl
 have aK:BQ (t++Gj i k F.ch f1 f2 p1 p2) (w.setChan F.ch 0 #[] false (k+1) (k+1) false) gs.size (upd (upd S i K) 0 ⟨HN s₀.E K.E,s₀.H,false⟩) Sh:=by
  have:=aV.grow (i:=0) (E':=HN s₀.E K.E) (q:=false) ab (λb o hb=>by
   rw[ar]
   unfold HN at hb
   cases ap:s₀.E b with
   | some o'=>rw[ap] at hb;exact .inl hb
   | none=>
    rw[ap] at hb
    have aL:K.E b=some o:=hb
    refine .inr ⟨i,aa,by rw[au];exact aL,λy a a2 a3 a4=>?_⟩
    have hold:touchAt t y=some a:=by
     let⟨op,U,az⟩:=touch_of a2
     rcases getElem?_append_cases U with⟨_,a5⟩ | ⟨_,a6⟩;rw[touchAt_of a5];exact az;rw[(hu op a6).1] at az;cases az
    exact S3 ai a0 aZ (am.kE i aa b (by rw[au,aL];simp) y a hold a3 a4))
  rw[ar,Oy] at this;exact this
 have a7:∀b,HN s₀.E K.E b≠none->s₀.H b=none:=by
  intro b hb;have:=(aK.fits 0 ab).d b (by rw[upd_same];exact hb)
  rwa[upd_same] at this
 have a8:k'<F.n:=mh aj h.A9.jn;let⟨z,_,a9,_⟩:=aO.law.recv ks vs V;let⟨ba,bb⟩:=a9 k' x (HN s₀.E K.E) a8 aG aT aJ a7 (aM _ _ _ _ aY aP);obtain⟨be,bf⟩:=aQ;have f0:∀a,a≠0->a≠i->upd (upd φ i (.ph .CF)) 0 (.ph (.BP (ks++ [k']) (vs++ [x]))) a=φ a:=λa aw ay=>by rw[upd_ne _ _ aw,upd_ne _ _ ay]
 have fi:upd (upd φ i (.ph .CF)) 0 (.ph (.BP (ks++ [k']) (vs++ [x]))) i=.ph .CF:=by rw[upd_ne _ _ ai,upd_same]
 refine⟨upd (upd φ i (.ph .CF)) 0 (.ph (.BP (ks++ [k']) (vs++ [x]))),upd (upd r i be) 0 ba,upd (upd bt i true) 0 true,upd (upd S i K) 0 ⟨HN s₀.E K.E,s₀.H,false⟩,⟨by rw[al];exact aH,?_,λa o ag=>?_,by rw[al];exact aK,h.Iq,h.Gx,h.ne,?_,?_,λhb=>(by rw[upd_same] at hb;cases hb),λaq hb=>?_,?_,h.tape,h.os,h.output⟩,?_⟩;rw[al];refine aU.VT (λa an=>?_) (λa an ae=>?_) (λaq=>?_);by_cases q:a=0;subst q;rw[upd_same,ah];rfl;by_cases Y:a=i;subst Y;rw[fi,Z];rfl;rw[f0 a q Y];by_cases q:B.N0+a=i;rw[q,fi] at ae;exact ae.elim;rwa[f0 _ (by omega) q] at ae;have:=h.A9.cj aq;exact f0 _ (by omega) (by omega)
 .by_cases q:a=0;subst q;rw[aR] at ag;obtain rfl:=d6 ag;rw[upd_same,upd_same,upd_same,upd_same];exact .walk V (λq=>by cases q) bb
  .by_cases Y:a=i
   .subst Y;rw[hi] at ag;obtain rfl:=d6 ag;rw[fi,upd_ne _ _ q,upd_same,upd_ne _ _ q,upd_same,upd_ne _ _ q,upd_same];have hm:(a==0)=false:=by simp[q]
    exact .walk (by rw[hm];rfl) (λq=>by cases q) (by rw[hm];exact bf)
   .rw [U a q Y] at ag;rw[f0 a q Y,upd_ne _ _ q,upd_ne _ _ Y,upd_ne _ _ q,upd_ne _ _ Y,upd_ne _ _ q,upd_ne _ _ Y];exact h.Ez a o ag
 show(w.setChan F.ch 0 #[] false (k+1) (k+1) false).heap[F.wg]?=_;rw[PS _ _ _ _ _ _ _ _ h.ne];exact h.wg;show(w.setChan F.ch 0 #[] false (k+1) (k+1) false).heap[F.ch]?=_;simp[World.setChan,aI];have bi:=h.A9.cj aq;rw[upd_ne _ _ (by omega),upd_ne _ _ (by omega)] at hb;exact h.blk aq hb;rw[upd_same];exact(h.le.trans λb o U=>aC.ext b o U).trans aJ;rw[al];refine RZ ?_;have a1:=sumTo_upd (upd φ i (.ph .CF)) (.ph (.BP (ks++ [k']) (vs++ [x]))) (wt F.n) ab;have ao:=sumTo_upd φ (.ph .CF) (wt F.n) aa;rw[upd_ne _ _ (lu ai),ah] at a1;rw[Z] at ao;have bj:wt F.n (.ph (.BP ks vs))=2:=V;have bl:wt F.n (.ph (.BP (ks++ [k']) (vs++ [x])))=2:=V;have bm:wt F.n (.ph (.B7 k'))=10:=V;have bn:wt F.n (.ph .CF)=9:=V;omega
theorem Inv.send(h:Inv P F B gs w t φ r bt S Sh j c v wt' sm cl k)(aA:∀k v E E',Le E E'->F.msg k v E->F.msg k v E')(hi:gs[i]?=some g)(K:φ i=.ph (.B7 k'))(aB:bt i=true)(ab:(i==0)=false)(am:BW (S i) s₀)(an:Stop P F (.B7 k') g s₀):
  HK P F B gs w sl t i (mu F gs.size φ r bt):=by
 have Y:i<gs.size:=(d4.1 hi).1;have ao:0<gs.size:=by omega
 have O:i≠0:=by simpa using ab
 have aC:k'<j/\i=B.N0+k':=by
  rcases h.A9.Fs Y with rfl | ⟨a,b⟩ | ⟨aD,Z,rfl⟩ | ⟨ae,rfl⟩;exact absurd V O;have:=h.A9.old i a b;rw[K] at this;exact this.elim;have:=h.A9.work aD Z;rw[K] at this;obtain⟨rfl,_⟩:=this;exact⟨Z,V⟩;have:=h.A9.cls ae;rw[K] at this;exact this.elim
 obtain⟨Z,aE⟩:=aC;have aF:cl=false:=by
  cases aG:cl with
  | false=>rfl
  | true=>exact absurd K (h.noSend aG i k' Y)
 subst aF;let⟨x,z,ap,aH,aq⟩:=an.law.send k' V;have ar:stepG P (i==0) g w=.comm g #[scase F.ch x z] true .send w #[]:=by rw[ab];exact aH w
 have au:∀(a:Nat) (fn:FuncId) (pos:String),MemOp.ofEvents a fn pos #[]=#[]:=λa fn pos=>by rw[ofEvents_eq];simp
 cases ag:bt 0 with
 | true=>
  have aI:partners (gs.setIfInBounds i ph) F.ch false=[]:=by
   refine partners_nil λa o ah=>?_;rcases getElem?_stand gs i a o ah with⟨_,rfl⟩ | ⟨_,ai⟩;exact offersAt_ph _ _
   .exact(h.Ez a o ai).Rr λe=>by
     have:a=0:=by simpa using e
     subst this;exact ag
  have aa:=crowd_waits (sl:=sl) hi ar λaT av=>by
   simp at av;subst av;exact ways_send_none (v:=x) (z:=z) h.Hq (la _) aI
  obtain⟨aw,aj,ak⟩:=h.rest (g':=parked g #[scase F.ch x z] .send) (u:=MemOp.ofEvents i g.frame.fn g.frame.place #[]) Y aB am (by rw[K];exact .F0 ab ap (an.law.live rfl) aq) (au _ _ _) (λe=>absurd e O) (λ_ _=>ag) (λae e=>by have:=h.A9.cj ae;omega);exact⟨_,_,_,_,aa,.inl ⟨_,_,_,_,_,_,_,_,_,_,_,_,aj,ak⟩⟩
 | false=>
  obtain⟨aJ,al⟩:∃o,gs[0]?=some o:=⟨_,f9 ao⟩;obtain⟨p0,ay,hm⟩:=h.A9.main;have az:=h.Ez 0 aJ al;rw[ag,ay] at az;obtain⟨ks,vs,U,aK,rfl,rfl,aL⟩:=az.receiver V V;have aM:partners (gs.setIfInBounds i ph) F.ch false=[(0,0)]:=by
   rw[partners_one (j:=0) (g:=parked U #[rcase F.ch aK] (.recv true)) (stand_get (lu O) al) λa o aN ah=>?_];rw[offersAt_parked_recv];simp
   .rcases getElem?_stand gs i a o ah with⟨_,rfl⟩ | ⟨_,ai⟩;exact offersAt_ph _ _
    .exact(h.Ez a o ai).Rr λe=>by
      have:a=0:=by simpa using e
      exact absurd this aN
  have aa:=crowd_send_meets (sl:=sl) hi ar h.Hq (lu O) al aM;rw[finishComm_recv,finishComm_send,au] at aa;have aO:((gs.setIfInBounds 0 (served U (recvd true x true))).setIfInBounds i (served g undef)).size=gs.size:=by simp
  obtain⟨aP,aQ,aw,S',aj,ak⟩:=h.meet aA Z aE K ay (.refl _) am aL ap aq (gs':=(gs.setIfInBounds 0 (served U (recvd true x true))).setIfInBounds i (served g undef)) aO
   (by rw[d9 O,k9 ao];rfl) (by rw[k9 (by simpa using Y)]) (λa aR aS=>by rw[d9 (lu aS),d9 (lu aR)]) rfl
   (f1:=g.frame.fn) (f2:=U.frame.fn) (p1:=g.frame.place) (p2:=U.frame.place)
  refine⟨_,_,_,_,aa,.inl ⟨aP,aQ,aw,S',Sh,j,c,v,wt',sm,false,k+1,?_,ak⟩⟩;rw[mV];exact aj
end
section
variable {P:Program}{F:Fam}{B:Base}{gs gs':Array Goroutine}{w w':World}{sl:Option (Nat×Nat)}{t:Trace}{φ:Nat->Nx}{r:Nat->Rk}{bt:Nat->Bool}{S:Nat->St}{Sh:Nat->Prop}{j:Nat}{c:Bool}{v wt' sm v₁ wt₁ sm₁:Nat}{cl cl₁:Bool}{k k₁:Nat}{main:Bool}
theorem Inv.QY(h:Inv P F B gs w t φ r bt S Sh j c v wt' sm true k):c=true/\EV (φ (B.N0+F.n))/\∀i,0<i->i<gs.size->∃d,φ i=.gone d:=by
 have hm:=h.A9.mode;have K:c=true/\EV (φ (B.N0+F.n)):=by
  split at hm
  .rename_i K;refine⟨K,?_⟩;cases O:φ (B.N0+F.n) with
   | gone d=>trivial
   | ph p=>rw[O] at hm;cases p<;>simp[Cs] at hm
  .simp [Cs] at hm
 refine⟨K.1,K.2,λi hi U=>?_⟩;have:EV (φ i):=by
  rcases h.A9.Fs U with rfl | ⟨a,b⟩ | ⟨k',Y,rfl⟩ | ⟨_,rfl⟩;omega;exact h.A9.old i a b;exact h.A9.Ow K.1 (.inr (.inr (.inr (.inr K.2)))) k' Y;exact K.2
 cases O:φ i with
 | gone d=>exact⟨d,rfl⟩
 | ph p=>rw[O] at this;exact this.elim
theorem Inv.over(h:Inv P F B gs w t φ r bt S Sh j c v wt' sm true k)(ar:φ 0=.ph (.BP ks vs))(au:BW (S 0) s₀)(aE:F.fin g' s₀)
  (av:gs'.size=gs.size) (aF:gs'[0]?=some g') (ae:∀a,a≠0->gs'[a]?=gs[a]?) {f1:FuncId}{p1:String}:
  No P F B gs' w (t++ #[{g:=0,fn:=f1,pos:=p1,act:=.recvClosed F.ch}]):=by
 obtain⟨ai,aw,aG⟩:=h.QY;have aY:=h.A9.pos;have ay:=h.A9.size;have al:0<gs.size:=by omega
 have aH:F.ch<w.heap.size:=h.Ci.Fq F.ch h.Gx;generalize hu:(#[{g:=0,fn:=f1,pos:=p1,act:=.recvClosed F.ch}]:Trace)=u;have az:∀op∈u,op.act.touch?=none/\∀m,op.act≠ .mark m:=by
  intro op O;subst hu;simp at O;subst O;exact⟨V,by simp⟩
 have ag:=h.Ex.Cr h.A9 az;have aI:Deaf t 0=0:=by rw[h.Ex.deaf 0 al,ar];rfl
 have aA:∀i g,0<i->gs[i]?=some g->∃q d,φ i=.gone d/\QuitsD P q d g/\S i=.quiet:=by
  intro i g hi K;let⟨d,hd⟩:=aG i hi (d4.1 K).1;have aa:=h.Ez i g K;rw[hd] at aa;generalize Y:Nx.gone d=x at aa;generalize S i=s at aa ⊢;generalize r i=ρ at aa;generalize bt i=aZ at aa;cases aa with
  | gone _ aj=>cases Y;exact⟨_,_,hd,aj,rfl⟩
  | _=>cases Y
 have aj:∀i,∃q,∀g,0<i->gs[i]?=some g->QuitsD P q (Deaf t i) g:=by
  intro i;by_cases hi:0<i/\i<gs.size;let⟨q,d,U,ab,_⟩:=aA i _ hi.1 (f9 hi.2);refine⟨q,λg _ K=>?_⟩;rw[f9 hi.2] at K;obtain rfl:=d6 K;rw[h.Ex.deaf i hi.2,U];exact ab;exact⟨0,λg U ab=>absurd ⟨U,(d4.1 ab).1⟩ hi⟩
 have aB:∀op∈u,op.g=0:=by intro op O;subst hu;simp at O;subst O;rfl
 have aJ:BQ t w gs.size (lone s₀) Sh:=by
  have U:=h.Ci.ghost al au;refine U.congr λi hi=>?_;by_cases e:i=0;subst e;rw[upd_same];exact⟨V,V⟩;rw[upd_ne _ _ e];obtain⟨_,_,_,_,aK⟩:=aA i _ (by omega) (f9 hi);rw[aK];simp[lone,e]
 have aL:BQ (t++u) w gs.size (lone s₀) Sh:=aJ.mute (g:=0) aB (λop ae=>(az op ae).1) (λop O=>by subst hu;simp at O;subst O;exact aH) rfl;refine⟨λi=>Classical.choose (aj i),Sh,g',s₀,⟨aF,⟨λi g hi K=>?_,λi hi=>?_⟩,by rw[av];exact aL,λx g K aM am=>?_,?_⟩,aE,h.le.trans λb o ae=>au.ext b o ae,h.tape,h.os,h.output⟩;rw[Deaf_other t (by omega) u aB];rw[ae i (by omega)] at K;exact mg (aj i) g hi K;exact ag.above i (by rw[← av];exact hi)
 .rcases ag.over x g K aM am with q | ⟨a0,a1⟩;exact q
  let⟨p,Z⟩:=ag.Ku ai aw;have a2:p<t.size:=by
   let⟨a3,a4⟩:=h.Ex.Ku ai aw;rcases lb p t.size with q | q;exact q;have U:=Z.1;let⟨op,O,aN⟩:=lJ.1 U;rcases getElem?_append_cases O with⟨aO,_⟩ | ⟨_,hm⟩;exact aO;subst hu;simp at hm;subst hm;cases aN
  have an:(t++u)[t.size]?=some {g:=0,fn:=f1,pos:=p1,act:=.recvClosed F.ch}:=by subst hu;simp
  have aP:(t++u).heard t.size:=⟨0,by simp[Trace.g?,an],by rw[deaf_old (la _)];exact aI⟩;have ak:HappensBefore (t++u) p t.size:=.single (.inr ⟨.closed Z.1 (by rw[act?_of an]),Z.2.2.1,aP⟩);have aC:(t++u).g? t.size=some 0:=by simp[Trace.g?,an]
  have ao:∀{a b:Nat}{g:Nat},a<b->(t++u).g? a=some g->(t++u).g? b=some g->HappensBefore (t++u) a b:=λU ab aQ=>.single (.inl ⟨U,_,ab,aQ⟩);rcases lb g (B.N0+F.n) with aR | aR
  ·
   obtain⟨q,aS,aT,aU,aV,aW⟩:=Z.2.2.2.1;obtain⟨ρ,a5,aX,ah⟩:=aW (g - B.N0) (by omega);have ap:B.N0+(g - B.N0)=g:=by omega
   rw[ap] at ah;have aD:HappensBefore (t++u) ρ q:=.single (.inr ⟨.marked aX (.inr ah.act) aT (λz U ab=>ag.norel z (by omega)),ah.heard,aV⟩);have e2:HappensBefore (t++u) q p:=ao aS aU Z.2.1;have hle:x<=ρ:=Nat.le_of_not_lt λaq=>ah.after x aq K am;refine⟨t.size,aC,?_⟩;rcases lb x ρ with Y | Y;exact((ao Y K ah.g).trans (aD.trans e2)).trans ak
   .obtain rfl:x=ρ:=by omega
    exact(aD.trans e2).trans ak
  ·
   have ap:g=B.N0+F.n:=by rw[ai] at ay;have:=h.A9.cj ai;simp at ay;omega
   subst ap;have hle:x<=p:=Nat.le_of_not_lt λaq=>Z.2.2.2.2 x aq K am;refine⟨t.size,aC,?_⟩;rcases lb x p with Y | Y;exact(ao Y K Z.2.1).trans ak
   .obtain rfl:x=p:=by omega
    exact ak
 .have:=ag.deaf 0 al;rw[ar] at this;exact this
theorem Inv.recv(h:Inv P F B gs w t φ r bt S Sh j c v wt' sm cl k)(aK:∀k v E E',Le E E'->F.msg k v E->F.msg k v E'){x:Goroutine}(hi:gs[0]?=some x)(ab:φ 0=.ph (.BP ks vs))(aL:bt 0=true)
  {O:Goroutine}{s₀:St}(ak:BW (S 0) s₀) (al:Stop P F (.BP ks vs) O s₀) (am:∀w,stepG P true x w=stepG P true O w) (a5:x.frame=O.frame):
  HK P F B gs w sl t 0 (mu F gs.size φ r bt):=by
 have an:0<gs.size:=(d4.1 hi).1;let⟨z,aM,_,aN⟩:=al.law.recv ks vs V;have ao:stepG P (0==0) x w=.comm O #[rcase F.ch z] true (.recv true) w #[]:=by rw[show((0:Nat)==0)=true from rfl,am];exact aM w
 have ap:∀(a:Nat) (fn:FuncId) (pos:String),MemOp.ofEvents a fn pos #[]=#[]:=λa fn pos=>by rw[ofEvents_eq];simp
 by_cases ae:partners (gs.setIfInBounds 0 ph) F.ch true=[]
 .cases ag:cl with
  | false=>
   have Z:=h.Hq;rw[ag] at Z;have aa:=crowd_waits (sl:=sl) hi ao λa6 aB=>by
    simp at aB;subst aB;exact ways_recv_none (z:=z) Z ae
   have aO:∀a k',a<gs.size->φ a=.ph (.B7 k')->bt a=true:=by
    intro a k' ai aq;cases hb:bt a with
    | true=>rfl
    | false=>
     have Y:=h.Ez a _ (f9 ai);rw[aq,hb] at Y;obtain⟨g,y,ar,hgo,_⟩:=Y.OS;have aj:a≠0:=λe=>by subst e;rw[ab] at aq;cases aq
     have:(a,0)∈partners (gs.setIfInBounds 0 ph) F.ch true:=mem_partners.2 ⟨gs[a],stand_get aj (f9 ai),by rw[hgo,offersAt_parked_send];simp⟩;rw[ae] at this;cases this
   obtain⟨aC,au,av⟩:=h.rest (g':=parked O #[rcase F.ch z] (.recv true)) (u:=MemOp.ofEvents 0 x.frame.fn x.frame.place #[]) an aL ak (by rw[ab];exact .FH rfl al) (ap _ _ _) (λ_=>⟨ag,aO⟩) (λk' e=>by rw[ab] at e;cases e) (λZ e=>by have:=h.A9.pos;omega);exact⟨_,_,_,_,aa,.inl ⟨_,_,_,_,_,_,_,_,_,_,_,_,au,av⟩⟩
  | true=>
   subst ag;have aa:=crowd_recv_closed (sl:=sl) hi ao h.Hq ae;rw[finishComm_recv,ap] at aa;obtain⟨Z,a7,aP⟩:=h.QY;have aQ:=aN λk' U hh=>by
    have aR:k'<j:=by rw[h.A9.cj Z];exact U
    have aD:=h.A9.Hr k' aR hh;rw[ab] at aD;have a8:=h.A9.size;have a9:=h.A9.pos;obtain⟨d,hd⟩:=aP (B.N0+k') (by omega) (by omega);apply nQ;intro aS;rw[aD.2 aS] at hd;cases hd
   have aT:=h.over (gs':=gs.setIfInBounds 0 (served O (recvd true z false))) ab ak aQ (by simp) (by rw[k9 an];rfl) (λa ai=>by rw[d9 (lu ai)]) (f1:=O.frame.fn) (p1:=O.frame.place);refine⟨_,_,_,_,aa,.inr ?_⟩;rw[mV];exact aT
 .have ag:cl=false:=by
   let⟨⟨a,b⟩,aw⟩:=List.exists_mem_of_ne_nil _ ae;let⟨o,ay,K⟩:=mem_partners.1 aw;rcases getElem?_stand gs 0 a o ay with⟨_,rfl⟩ | ⟨_,ah⟩;rw[offersAt_ph] at K;cases K
   .obtain⟨k',U,_⟩:=(h.Ez a o ah).N5 λe=>by rw[e] at K;cases K
    cases am:cl with
    | false=>rfl
    | true=>exact absurd U (h.noSend am a k' (d4.1 ah).1)
  subst ag;obtain⟨a,az,va,ba,bb,d,aj,aE,aa⟩:=crowd_recv_meets_some (sl:=sl) hi ao h.Hq ae λa b aw=>by
   let⟨o,ay,K⟩:=mem_partners.1 aw;rcases getElem?_stand gs 0 a o ay with⟨_,rfl⟩ | ⟨aU,ah⟩;rw[offersAt_ph] at K;cases K
   .have Y:=h.Ez a o ah;obtain⟨k',U,aA⟩:=Y.N5 λe=>by rw[e] at K;cases K
    rw[U,aA] at Y;obtain⟨g,y,ar,hgo,_⟩:=Y.OS;rw[hgo,offersAt_parked_send] at K;simp at K;exact⟨K,aU,g,y,ar,_,by rw[ah,hgo]⟩
  have aF:a<gs.size:=(d4.1 aE).1;have Y:=h.Ez a _ aE;obtain⟨k',U,aA⟩:=Y.N5 (by rw[offersAt_parked_send];simp);rw[U,aA] at Y;obtain⟨g,y,ar,hgo,aV,be,aG⟩:=Y.OS;let⟨aH,e2,aW⟩:=S8 hgo;have aX:va=y:=by simp[scase] at aH;exact aH.1
  subst aX;subst e2;rw[finishComm_recv,finishComm_send,ap] at aa;rw[← aW] at aG;have aI:k'<j/\a=B.N0+k':=by
   rcases h.A9.Fs aF with rfl | ⟨aY,aZ⟩ | ⟨a0,aJ,rfl⟩ | ⟨Z,rfl⟩;exact absurd V aj;have:=h.A9.old a aY aZ;rw[U] at this;exact this.elim;have:=h.A9.work a0 aJ;rw[U] at this;obtain⟨rfl,_⟩:=this;exact⟨aJ,V⟩;have:=h.A9.cls Z;rw[U] at this;exact this.elim
  obtain⟨a1,a2,aC,S',au,av⟩:=(h.at_ d).meet aK aI.1 aI.2 U ab ak (.refl _) al aV aG (gs':=(gs.setIfInBounds a (served az undef)).setIfInBounds 0 (served O (recvd true va true))) (by simp)
   (by rw[k9 (by simpa using an)];rfl) (by rw[d9 (lu aj),k9 aF]) (λb a3 a4=>by rw[d9 (lu a3),d9 (lu a4)]) rfl
   (f1:=az.frame.fn) (f2:=O.frame.fn) (p1:=az.frame.place) (p2:=O.frame.place)
  refine⟨_,_,_,_,aa,.inl ⟨a1,a2,aC,S',Sh,j,c,v,wt',sm,false,k+1,?_,av⟩⟩;rw[mV];exact au
theorem Inv.spawn(h:Inv P F B gs w t φ r bt S Sh j c v wt' sm cl k){child:Goroutine}(hi:gs[0]?=some g){U O:Ph}(ai:φ 0=.ph p)(aw:c=false)(ar:BW (S 0) s₀)(ay:stepG P true g w=.spawn g' child w #[])
  (az:Way P true (Stop P F U) g' s₀) (aA:Way P false (Stop P F O) child ⟨s₀.E,λ_=>none,false⟩) (aB:Fam.C5 U=true) (aC:Fam.C5 O=false) (aD:Fam.DU U=false) (aE:Fam.DU O=false) {aj:Nat}{ak:Bool}
  (aF:BL F B.N0 (gs.size+1) aj ak (upd (upd φ gs.size (.ph O)) 0 (.ph U)) v wt' sm cl)
  (hd:Eg (.ph p)=0/\Eg (.ph U)=0/\Eg (.ph O)=0) (aG:∀k,k<aj->late (upd (upd φ gs.size (.ph O)) 0 (.ph U) (B.N0+k))->k<j/\late (φ (B.N0+k))) (ao:ak=true->B.N0+F.n=gs.size/\O=.Cv)
  (hm:wt F.n (.ph U)+wt F.n (.ph O)<wt F.n (.ph p)) (aH:sm=0):
  HK P F B gs w sl t 0 (mu F gs.size φ r bt):=by
 have Z:0<gs.size:=(d4.1 hi).1;have al:=runT_crowd_spawn (P:=P) (sl:=sl) (i:=0) hi (show stepG P (0==0) g w=_ from ay);have aI:∀(a:Nat) (fn:FuncId) (pos:String),MemOp.ofEvents a fn pos #[]=#[]:=λa fn pos=>by rw[ofEvents_eq];simp
 rw[aI] at al;generalize aJ:({g:=0,fn:=g.frame.fn,pos:=g.frame.place,act:=.go gs.size}:MemOp)=x at al;generalize aK:({g:=gs.size,fn:=child.frame.fn,pos:=g.frame.place,act:=.start}:MemOp)=y at al;have ab:x.g=0/\x.act=.go gs.size:=by subst aJ;exact⟨V,V⟩
 have ae:y.g=gs.size/\y.act=.start:=by subst aK;exact⟨V,V⟩
 have aL:((#[]:Trace).push x).push y=#[x,y]:=V;have am:((gs.setIfInBounds 0 g').push child).size=gs.size+1:=by simp
 have f0:upd (upd φ gs.size (.ph O)) 0 (.ph U) 0=.ph U:=upd_same _ _ _;have an:upd (upd φ gs.size (.ph O)) 0 (.ph U) gs.size=.ph O:=by rw[upd_ne _ _ (by omega),upd_same]
 have au:∀a,a≠0->a≠gs.size->upd (upd φ gs.size (.ph O)) 0 (.ph U) a=φ a:=λa aM aN=>by rw[upd_ne _ _ aM,upd_ne _ _ aN]
 have hu:∀op∈(#[x,y]:Array MemOp),op.act.touch?=none/\∀m,op.act≠ .mark m:=by
  intro op K;simp only[lZ,li,l3,mP] at K;rcases K with rfl | rfl;rw[ab.2];exact⟨V,by simp⟩;rw[ae.2];exact⟨V,by simp⟩
 have aO:Dx F B.N0 B.t0 (gs.size+1) aj ak (upd (upd φ gs.size (.ph O)) 0 (.ph U)) (t++ #[x,y]):=by
  refine h.Ex.spawn h.A9 aw (λa ap=>?_) (by rw[an];exact hd.2.2) (by rw[ai];exact hd.1) aG (λe=>⟨(ao e).1,by rw[(ao e).1,an,(ao e).2]⟩) ab ae;by_cases e:a=0;subst e;rw[f0,ai,hd.1,hd.2.1];rw[au a e (by omega)]
 have av:BQ t w gs.size (upd S 0 s₀) Sh:=h.Ci.ghost Z ar;have aP:BQ (t++ #[x,y]) w gs.size (upd S 0 s₀) Sh:=by
  refine av.ext (λsaid=>?_) (λop K a ap=>by rw[(hu op K).1] at ap;cases ap) (λop K=>?_) V λ_ _=>V
  .have e:t++ #[x,y]=(t++ #[x])++ #[y]:=by apply lR;simp
   rw[e];exact noRace_append (g:=gs.size) (noRace_append (g:=0) (h.Ci.clean said) (λop K=>by simp at K;subst K;exact ab.1) λz a _ op K b hb _=>by rw[(hu op (by simp at K ⊢;exact .inl K)).1] at hb;cases hb)
    (λop K=>by simp at K;subst K;exact ae.1) λz a _ op K b hb _=>by rw[(hu op (by simp at K ⊢;exact .inr K)).1] at hb;cases hb
  .simp only [lZ,li,l3,mP] at K;rcases K with rfl | rfl;rw[ab.2];trivial;rw[ae.2];trivial
 have aQ:BQ (t++ #[x,y]) w (gs.size+1) (upd (upd S 0 s₀) gs.size ⟨s₀.E,λ_=>none,false⟩) Sh:=by
  refine aP.push (i:=0) Z (E:=s₀.E) (λb o ag=>by rw[upd_same];exact ag) λb hb z a aR aS aT=>?_;have hold:touchAt t z=some a:=by
   let⟨op,ag,aq⟩:=touch_of aR;rcases getElem?_append_cases ag with⟨_,aU⟩ | ⟨_,aV⟩;rw[touchAt_of aU];exact aq;rw[(hu op aV).1] at aq;cases aq
  exact fork_knows ab ae (by rw[h.Ex.deaf 0 Z,ai];exact hd.1) (h.Ex.above _ (la _)) (av.kE 0 Z b (by rw[upd_same];exact hb) z a hold aS aT)
 obtain⟨aW,aX⟩:=az;obtain⟨aY,aZ⟩:=aA;have ah:∀{α:Type}(f:Nat->α) (a b:α),upd (upd f 0 a) gs.size b 0=a:=λf a b=>by rw[upd_ne _ _ (by omega),upd_same]
 refine⟨_,_,_,_,al,.inl ⟨upd (upd φ gs.size (.ph O)) 0 (.ph U),upd (upd r 0 aW) gs.size aY,upd (upd bt 0 true) gs.size true,upd (upd S 0 s₀) gs.size ⟨s₀.E,λ_=>none,false⟩,Sh,aj,ak,v,wt',sm,cl,k,?_,?_⟩⟩
 .rw [aL];refine⟨by rw[am];exact aF,by rw[am];exact aO,λa o Y=>?_,by rw[am];exact aQ,h.Iq,h.Gx,h.ne,h.wg,h.Hq,λhb=>(by rw[ah] at hb;cases hb),λ_ _=>aH,?_,h.tape,h.os,h.output⟩
  .by_cases e:a=0;subst e;rw[Array.getElem?_push_lt (by simpa using Z)] at Y;simp at Y;subst Y;rw[f0,ah,ah,ah];exact .walk aB.symm (λq=>by rw[aD] at q;cases q) aX
   .by_cases aa:a=gs.size
    .subst aa;have:child=o:=by
      rw[show gs.size=(gs.setIfInBounds 0 g').size by simp,Array.getElem?_push_size] at Y;exact d6 Y
     subst this;rw[an,upd_same,upd_same,upd_same];have a0:(gs.size==0)=false:=by rw[beq_eq_false_iff_ne];omega
     rw[a0];exact .walk aC.symm (λq=>by rw[aE] at q;cases q) aZ
    .rw [au a e aa,upd_ne _ _ aa,upd_ne _ _ e,upd_ne _ _ aa,upd_ne _ _ e,upd_ne _ _ aa,upd_ne _ _ e];have:gs[a]?=some o:=by
      rw[nz] at Y;simp[aa] at Y;simpa [d9 (lu e)] using Y
     exact h.Ez a o this
  .rw [ah];exact h.le.trans λb o ag=>ar.ext b o ag
 .rw [am];refine RZ ?_;simp only[sumTo];rw[an];have a1:=sumTo_upd (upd φ gs.size (.ph O)) (.ph U) (wt F.n) Z;rw[upd_ne _ _ (by omega),ai] at a1;have a2:=sumTo_upd_out φ (.ph O) (wt F.n) (i:=gs.size) (j:=gs.size) (la _);omega
theorem Inv.step(h:Inv P F B gs w t φ r bt S Sh j c v wt' sm cl k)(aD:∀k v E E',Le E E'->F.msg k v E->F.msg k v E'):
  ∃gs' w' aE u,stepT P (crowd gs w sl)=(.next (crowd gs' w' aE),u)/\
  ((∃aP aQ aR S' a0 U a1 v' a2 sm' cl' k',Inv P F B gs' w' (t++u) aP aQ aR S' a0 U a1 v' a2 sm' cl' k'/\Mu.lt (mu F gs'.size aP aQ aR) (mu F gs.size φ r bt))∨No P F B gs' w' (t++u)):=by
 have bw:=h.A9.pos;have ak:=h.A9.size;have aF:0<gs.size:=by omega
 have a3:∀x∈gs,awake x:=by
  intro x K;obtain⟨i,hi,rfl⟩:=nr.1 K;exact(h.Ez i _ (f9 hi)).awake
 have aG:∀i (hi:i<gs.size) p,φ i=.ph p->bt i=true->(gs[i]).status=.running:=by
  intro i hi p a4 hb;have O:=h.Ez i _ (f9 hi);rw[a4,hb] at O;generalize K:Nx.ph p=x at O;generalize ab:true=b at O;generalize gs[i]=o at O ⊢;generalize r i=ρ at O;generalize S i=s at O;cases O with
  | walk _ _ ao=>exact ao.running
  | again _ _=>rfl
  | FH _ _=>cases ab
  | F0 _ _ _ _=>cases ab
  | blk _ _=>cases ab
  | gone _ _=>cases K
 have a5:∃(i:Nat) (g:Goroutine),gs[i]?=some g/\g.status=.running:=by
  obtain⟨p0,ae,ap⟩:=h.A9.main;cases aH:bt 0 with
  | true=>exact⟨0,_,f9 aF,aG 0 aF p0 ae aH⟩
  | false=>
   let⟨a6,a7⟩:=h.Nh aH;have aS:=h.Ez 0 _ (f9 aF);rw[ae,aH] at aS;obtain⟨ks,vs,aT,bx,rfl,_,_⟩:=aS.receiver V V;obtain⟨ao,Y⟩:=ap;have aI:B.N0+F.n<gs.size:=by rw[Y] at ak;simp at ak;omega
   have a8:=h.A9.cls Y;have ag:=h.A9.mode;rw[d5 Y] at ag;cases au:φ (B.N0+F.n) with
   | gone d=>rw[au] at ag;have:=ag.2.2.2.2.2;rw[a6] at this;cases this
   | ph pc=>
    cases aJ:bt (B.N0+F.n) with
    | true=>exact⟨_,_,f9 aI,aG _ aI pc au aJ⟩
    | false=>
     have av:=h.blk Y aJ;have ah:=h.Ez _ _ (f9 aI);have a9:pc=.CY:=by
      have aw:=a8;rw[au] at ah aw;rw[aJ] at ah;generalize gs[B.N0+F.n]=o at ah;generalize r (B.N0+F.n)=ρ at ah;generalize S (B.N0+F.n)=s at ah;generalize K:Nx.ph pc=x at ah aw;generalize ab:false=b at ah;cases ah with
      | walk _ _ _=>cases ab
      | again _ _=>cases ab
      | FH _ _=>cases K;exact aw.elim
      | F0 _ _ _ _=>cases K;exact aw.elim
      | blk _ _=>cases K;rfl
      | gone _ _=>cases K
     subst a9;rw[au] at ag;obtain⟨ba,_,_⟩:=ag;have aU:=h.A9.cnt;rw[ae] at aU;simp only[pend,lT] at aU;have hex:∃i,i<gs.size/\1<=cU (φ i)+cL (φ i)+cS (φ i):=by
      apply nQ;intro bb;have aK:∀i,i<gs.size->cU (φ i)=0/\cL (φ i)=0/\cS (φ i)=0:=λi hi=>by
       have:¬1<=cU (φ i)+cL (φ i)+cS (φ i):=λq=>bb ⟨i,hi,q⟩;omega
      have zero:∀f:Nat->Nat,(∀i,i<gs.size->f i=0)->sumTo gs.size f=0:=λf be=>by
       have:=sumTo_le (f:=f) (c:=0) (j:=gs.size) (λi hi=>by rw[be i hi];exact la _);omega
      have z1:=zero (λi=>cU (φ i)) λi hi=>(aK i hi).1;have bz:=zero (λi=>cL (φ i)) λi hi=>(aK i hi).2.1;have bA:=zero (λi=>cS (φ i)) λi hi=>(aK i hi).2.2;omega
     obtain⟨i,hi,al⟩:=hex;cases aq:φ i with
     | gone d=>rw[aq] at al;simp[cU,cL,cS] at al
     | ph pi=>
      have bf:bt i=true:=by
       cases hb:bt i with
       | true=>rfl
       | false=>
        have O:=h.Ez i _ (f9 hi);rw[aq,hb] at O;rw[aq] at al;generalize gs[i]=o at O;generalize r i=ρ at O;generalize S i=s at O;generalize K:Nx.ph pi=x at O al;generalize ab:false=b at O;cases O with
        | walk _ _ _=>cases ab
        | again _ _=>cases ab
        | FH _ _=>simp[cU,cL,cS] at al
        | F0 _ _ _ _=>have:=a7 i _ hi (aq.trans K);rw[hb] at this;cases this
        | blk _ _=>simp[cU,cL,cS] at al
        | gone _ _=>cases K
      exact⟨i,_,f9 hi,aG i hi pi aq bf⟩
 let⟨i,g,d,aE,hi,ay,bg⟩:=crowd_pick (P:=P) (w:=w) (sl:=sl) a3 a5
 suffices HK P F B gs (w.at d) aE t i (mu F gs.size φ r bt) by
  obtain⟨gs',w',bh,u,aL,az⟩:=this;exact⟨gs',w',bh,u,bg.trans aL,az⟩
 have Z:=h.at_ d;have aM:i<gs.size:=(d4.1 hi).1;have O:=h.Ez i g hi;generalize K:φ i=x at O;generalize aV:r i=ρ at O;generalize hb:bt i=b at O;generalize aA:S i=s at O;cases O with
 | FH _ _=>cases ay
 | F0 _ _ _ _=>cases ay
 | blk _ _=>cases ay
 | gone hm am=>exact Z.slip hi ay K aV hm am aA
 | @again ks vs _ aT _ z hm aa=>
  have aj:i=0:=by simpa using hm
  subst aj;refine Z.recv aD hi K hb (by rw[aA];exact .refl _) aa (λw=>?_) V;rw[stepG_tries];congr 1;have:=aa.law.run;obtain⟨a,b,c,d,e⟩:=aT;simp only at this;subst this;rfl
 | @walk p _ _ _ hm am ao=>
  have bi:JQ (Stop P F p) g s∨∃f,ρ=.node f/\(∀w,Fits s w->∃g' s' w' es,stepG P (i==0) g w=.go g' w' es/\Jr P (i==0) (JQ (Stop P F p)) (f w) g' s'/\Fits s' w'/\Fr s w s' w'/\(∀e∈es,Ev s w w' e)/\(s=.quiet->s'=.quiet/\w'=w/\es=#[])):=by
   cases ρ with
   | leaf=>exact .inl ao
   | node f=>
    rcases ao with q | ⟨_,q⟩;exact .inl q;exact .inr ⟨f,V,q⟩
  rcases bi with⟨s₀,an,aa⟩ | ⟨f,rfl,hgo⟩
  .subst aA;by_cases c1:∃k',p=.B7 k';obtain⟨k',rfl⟩:=c1;exact Z.send aD hi K hb hm an aa
   by_cases c2:∃U,p=.Fb U
   .obtain⟨U,rfl⟩:=c2;have aj:i=0:=by simpa [Fam.C5] using hm
    subst aj;obtain⟨p0,ae,ap⟩:=h.A9.main;have:p0=.Fb U:=by rw[K] at ae;exact(Nx.ph.inj ae).symm
    subst this;obtain⟨rfl,bj,Y⟩:=ap;let⟨g',child,_,_,hgo,aN,aO⟩:=aa.law.go _ V;have av:sm=0:=by have:=h.A9.mode;rw[Y] at this;exact this.2.2.1
    have bl:=h.A9.spawn K;have aB:F.DX U=.Fo∨F.DX U=.EX (U+1):=by unfold Fam.DX;split;exact .inl V;exact .inr V
    have ar:F.start U=.B7 U∨F.start U=.CF:=by unfold Fam.start;split;exact .inl V;exact .inr V
    have bm:gs.size=B.N0+U:=by rw[Y] at ak;simpa using ak
    refine Z.spawn hi K Y an (hgo _) aO aN ?_ ?_ ?_ ?_ bl ⟨V,?_,?_⟩ (λk' aW ai=>?_) (λe=>by rw[Y] at e;cases e) ?_ av;rcases aB with e | e<;>rw[e]<;>rfl;rcases ar with e | e<;>rw[e]<;>rfl;rcases aB with e | e<;>rw[e]<;>rfl;rcases ar with e | e<;>rw[e]<;>rfl;rcases aB with e | e<;>rw[e]<;>rfl;rcases ar with e | e<;>rw[e]<;>rfl;by_cases e:k'=U;subst e;rw[upd_ne _ _ (by omega),show B.N0+k'=gs.size by omega,upd_same] at ai;rcases ar with e | e<;>rw[e] at ai<;>exact ai.elim;rw[upd_ne _ _ (by omega),upd_ne _ _ (by omega)] at ai;exact⟨by omega,ai⟩
    .have:wt F.n (.ph (F.start U))<=10:=by rcases ar with e | e<;>rw[e]<;>simp[wt]
     have az:wt F.n (.ph (F.DX U))+20<=5*F.n+60+20*(F.n - U):=by
      rcases aB with e | e<;>rw[e]<;>simp only[wt]<;>omega
     have aX:wt F.n (.ph (.Fb U))=5*F.n+55+20*(F.n - U):=V;omega
   by_cases c3:p=.Fo
   .subst c3;have aj:i=0:=by simpa [Fam.C5] using hm
    subst aj;obtain⟨p0,ae,ap⟩:=h.A9.main;have:p0=.Fo:=by rw[K] at ae;exact(Nx.ph.inj ae).symm
    subst this;obtain⟨bj,Y⟩:=ap;let⟨g',child,_,_,hgo,aN,aO⟩:=aa.law.GY V;have av:sm=0:=by have:=h.A9.mode;rw[Y] at this;exact this.2.2.1
    have bm:gs.size=B.N0+j:=by rw[Y] at ak;simpa using ak
    refine Z.spawn hi K Y an (hgo _) aO aN V V V V (h.A9.XO K) ⟨V,V,V⟩ (λk' aW ai=>?_) (λ_=>⟨by omega,V⟩) (by simp only[wt];omega) av;rw[upd_ne _ _ (by omega),upd_ne _ _ (by omega)] at ai;exact⟨aW,ai⟩
   by_cases c4:∃ks vs,p=.BP ks vs
   .obtain⟨ks,vs,rfl⟩:=c4;have aj:i=0:=by simpa [Fam.C5] using hm
    subst aj;exact Z.recv aD hi K hb an aa (λ_=>V) V
   by_cases aY:p=.Dh;subst aY;exact Z.close hi K hm aa
   by_cases aC:p=.CY/\sm=0;obtain⟨rfl,aC⟩:=aC;exact Z.block hi K hb hm an aa aC
   obtain⟨v',w',sm',es,bB,bn⟩:=h.A9.enabled aM K (λk e=>c1 ⟨k,e⟩) (λk e=>c2 ⟨k,e⟩) c3 (λks vs e=>c4 ⟨ks,vs,e⟩) aY (λe=>by
    have ag:=h.A9.mode
    subst e
    have aZ:c=true/\i=B.N0+F.n:=by
     rcases h.A9.Fs aM with rfl | ⟨a,b⟩ | ⟨k',bo,rfl⟩ | q;obtain⟨q,am,bp⟩:=h.A9.main;rw[K] at am;cases am;exact bp.elim;have:=h.A9.old i a b;rw[K] at this;exact this.elim;have:=h.A9.work k' bo;rw[K] at this;exact this.elim;exact q
    rw[d5 aZ.1,← aZ.2,K] at ag
    obtain⟨ba,_⟩:=ag
    have:sm≠0:=λq=>aC ⟨rfl,q⟩
    omega)
   exact Z.act hi K hm an aa bn
  .subst aA;have bq:Fits (S i) (w.at d):=Z.Ci.fits i aM;let⟨g',s',w',es,aL,az,aX,br,bu,bv⟩:=hgo (w.at d) bq;exact Z.own hi K hm am aL az aX br bu bv (by rw[aV];exact⟨f,_,rfl,rfl⟩)
theorem Inv.run(Z:∀k v E E',Le E E'->F.msg k v E->F.msg k v E'):∀(K:Mu) (gs:Array Goroutine) (w:World) (sl:Option (Nat×Nat)) (t:Trace) (φ:Nat->Nx) (r:Nat->Rk) (bt:Nat->Bool) (S:Nat->St) (Sh:Nat->Prop) (j:Nat) (c:Bool) (v wt' sm:Nat) (cl:Bool) (k:Nat),
  mu F gs.size φ r bt=K->Inv P F B gs w t φ r bt S Sh j c v wt' sm cl k->∃n gs' w' O U,runNT P n (crowd gs w sl) t=(.next (crowd gs' w' O),U)/\No P F B gs' w' U:=by
 intro K
 induction K using Mu.wf.induction with
 | _ K aa=>
  intro gs w sl t φ r bt S Sh j c v wt' sm cl k ab h;let⟨gs',w',O,u,Y,hh⟩:=h.step (sl:=sl) Z;rcases hh with⟨ae,ag,ah,S',ai,aj,ak,v',al,sm',cl',k',am,an⟩ | ao;let⟨n,ap,aq,ar,au,av,aw⟩:=aa _ (ab▸an) gs' w' O (t++u) ae ag ah S' ai aj ak v' al sm' cl' k' V am;exact⟨n+1,ap,aq,ar,au,Md Y av,aw⟩;exact⟨1,gs',w',O,t++u,Md Y V,ao⟩
end
end Pal
namespace Pal
open Go Go.Conc
open Go.ConcN (upd upd_same upd_ne sumTo sumTo_upd sumTo_upd_out sumTo_congr le_sumTo sumTo_le)
def IC(H:LH)(a b:Nat):LH:=λx=>if x=b then none else if x=a then none else H x
theorem VC{P:Program}(F:Fam){Q:GP}{g:Goroutine}{s:St}(ag:1<=F.n)(an:F.n<2147483647)(ao:∀k v E E',Le E E'->F.msg k v E->F.msg k v E')
  (Y:F.wg≠F.ch) (Z:s.H F.wg=some (F.G0 0 0)) (aa:s.H F.ch=some (.chan 0 #[] false 0 0 false))
  (ap:Way P true (Stop P F (.EX 0)) g ⟨s.E,IC s.H F.wg F.ch,false⟩) (aq:∀g s,F.fin g s->(FX P).ok Q g s):(FX P).ok Q g s:=by
 intro gs w sl t q Sh hC;have O:0<gs.size:=(d4.1 hC.main).1;let s1:St:={s with H:=λb=>if b=F.wg then none else s.H b}
 have ah:lone s 0=s:=V;have c1:BQ t w gs.size (upd (lone s) 0 s1) (λb=>Sh b∨b=F.wg):=by
  have:=hC.Ci.share (i:=0) O (b₀:=F.wg) (o₀:=F.G0 0 0) (by rw[ah];exact Z);exact this
 have c2:BQ t w gs.size (upd (upd (lone s) 0 s1) 0 ⟨s.E,IC s.H F.wg F.ch,false⟩) (λb=>(Sh b∨b=F.wg)∨b=F.ch):=by
  have:=c1.share (i:=0) O (b₀:=F.ch) (o₀:=.chan 0 #[] false 0 0 false) (by rw[upd_same];simp[s1,lu Y,aa]);refine this.congr λi hi=>?_;by_cases e:i=0;subst e;rw[upd_same,upd_same,upd_same];exact⟨V,V⟩;have h:∀(f:Nat->St) (x:St),upd f 0 x i=f i:=λf x=>upd_ne f x e;constructor<;>simp only[h]
 have ai:∀b,s.H b≠none->∀x a,touchAt t x=some a->Dg a.loc=some b->Knows t 0 x:=λb hb=>hC.Ci.kH 0 O b (by rw[ah];exact hb);have aj:∀b,(b=F.wg∨b=F.ch)->s.H b≠none:=by rintro b (rfl | rfl)<;>simp[Z,aa]
 have ak:=hC.Ci.fits 0 O;obtain⟨ρ,ar⟩:=ap;let φ:Nat->Nx:=λi=>if i=0 then .ph (.EX 0) else .gone (Deaf t i)
 have z:∀f:Nx->Nat,(∀d,f (.gone d)=0)->f (.ph (.EX 0))=0->(sumTo gs.size λi=>f (φ i))=0:=by
  intro f al am;have:=sumTo_le (f:=λi=>f (φ i)) (c:=0) (j:=gs.size) λi _=>by
   show f (φ i)<=0;by_cases e:i=0;simp[φ,e,am];simp[φ,e,al]
  omega
 have au:∀i,(upd (upd (lone s) 0 s1) 0 ⟨s.E,IC s.H F.wg F.ch,false⟩) i=if i=0 then⟨s.E,IC s.H F.wg F.ch,false⟩ else .quiet:=by
  intro i;by_cases e:i=0;subst e;rw[upd_same];rfl;rw[upd_ne _ _ e,upd_ne _ _ e];simp[lone,e]
 have av:F.G0 (Fam.word 0 0) (0:Nat)=F.G0 0 0:=by simp[Fam.word]
 have aw:Inv P F ⟨gs.size,t.size,s.E,w⟩ gs w t φ (λi=>if i=0 then ρ else chain (q i)) (λ_=>true) (upd (upd (lone s) 0 s1) 0 ⟨s.E,IC s.H F.wg F.ch,false⟩) (λb=>(Sh b∨b=F.wg)∨b=F.ch) 0 false 0 0 0 false 0:=by
  refine⟨⟨O,ag,an,by simp,mz _,by simp,⟨.EX 0,V,V,ag,V⟩,λi al am=>?_,λk K=>by omega,by simp,?_,by simp[φ,pend],?_,λk K=>by omega,.nil,λk K=>by cases K⟩,
   ⟨λi hi=>?_,λi hi=>hC.lv.above i hi,λx a b U hb ab K i hi ay=>?_,λx a b U hb ab K=>?_,λx g az Y aA=>.inl (hC.over x g az Y aA),λx U e=>?_,la _,λk K=>by omega,by simp,by simp⟩,λi g' ae=>?_,c2,.inl (.inr rfl),.inr rfl,Y,?_,?_,by simp,by simp,?_,rfl,rfl,rfl⟩
  .have:i≠0:=by omega
   simp[φ,this,EV]
  rw[z cU (λ_=>rfl) rfl];simp[φ,pend];simp only[ld,lK,Cs];exact⟨z cL (λ_=>V) V,z cS (λ_=>V) V,trivial,trivial,trivial⟩;by_cases e:i=0;subst e;simp[φ,Eg];exact hC.hears;simp[φ,e,Eg]
  .have:i=0:=by
    rcases ay with e | e;exact e;exact absurd hi (Nat.not_lt.2 e)
   subst this;exact ai b (aj b ab) x a U hb
  exact ai b (aj b ab) x a U hb;have:=lt_of_act? e;have aV:t.size<=x:=U;omega
  .rw [au];by_cases e:i=0;subst e;rw[hC.main] at ae;obtain rfl:=d6 ae;simp only[lQ,φ];exact .walk V (λh=>by cases h) ar
   .have hm:(i==0)=false:=by rw[beq_eq_false_iff_ne];exact e
    simp only[e,lK,φ];exact .gone hm (hC.lv.old i g' (by omega) ae)
  show w.heap[F.wg]?=_;rw[av];exact ak.h _ _ Z;exact ak.h _ _ aa;rw[upd_same];exact Le.refl _
 let⟨n,gs',w',aB,aC,aD,aE,aF,g',s',aG,aH,hle,aI,aJ,aK⟩:=Inv.run ao _ _ _ sl _ _ _ _ _ _ _ _ _ _ _ _ _ V aw;let⟨n2,aL,w2,aM,t2,aN,aO,g2,s2,k1,aP,aQ,aR,aS,aT,aU⟩:=aq g' s' aH gs' w' aB aC aE aF aG;refine⟨n+n2,aL,w2,aM,t2,aN,aO,g2,s2,?_,aP,aQ,λb o h=>aR b o (hle b o h),aS.trans aI,aT.trans aJ,aU.trans aK⟩;rw[runNT_add,aD];exact k1
end Pal
namespace Pal
open Go Go.Conc
variable {ops:Ao_}{i:Nat}{d:Option Tmp}{f:FuncId}{args:Array Operand}{ats:Array TypeId}{ty:TypeId}{pp:String}{af:Ae_}{g:On_}{vs:Lv_}{p q:Ph}
variable{fn:Func}{w:World}{k' sm:Nat}{T:Av_}{ad:Addr}
section
variable {P:Program}{F:Fam}{J:Judge P}{Q:GP}{n:Nat}{L L':Env}{ds:Ld_}{k:Li_}{cs:Lf_}{s s':St}{b:Frame}{main:Bool}
theorem Cm(hb:b.roundOf=none)(T:Av_)(todo:Li_):fr b T ds todo=b.at ⟨T,ds⟩ todo:=by simp[fr,Frame.at,hb]
theorem J1(hb:b.roundOf=none)(T:Av_)(todo:Li_):Di b T ds todo={b.at ⟨T,ds⟩ todo with mode:=.returning}:=by simp[Di,Frame.at,hb]
theorem ET(T:Av_)(ds:Ld_)(x:Operand):(⟨T,ds⟩:Act).eval x=A7 T x:=by cases x<;>rfl
theorem Gl(T:Av_)(ds:Ld_)(d:Option Tmp)(v:Value):(⟨T,ds⟩:Act).put d v=⟨Cb T d v,ds⟩:=by cases d<;>rfl
def JO(J:Judge P)(Q:GP)(b:Frame)(n:Nat)(L:Env)(ds:Ld_)(cs:Lf_)(s:St):Prop:=
 ∀T,Has n L T->∀todo,J.ok Q (G (Di b T ds todo) cs) s
theorem JL.out(K:b.roundOf=none)(h:JO J Q b n L ds cs s):JL J Q b n L ds [] cs s:=λT O=>
 Judge.Cr V (λw=>by simp[G,stepG,stepG.exec,fr,Di,K]) (h T O [])
theorem Fj(K:b.roundOf=none)(h:JO J Q b n L ds cs s):JL J Q b n L ds (.code .ret::k) cs s:=λT O=>
 Judge.Cr V (λw=>by simp[G,stepG,stepG.exec,fr,Di,K]) (h T O (.code .ret::k))
theorem JO.leave{c:Frame}{v:Value}(O:b.kind=.normal)(K:Bq P b.fn L n s v)(h:J.ok Q (G (c.finish v) cs) s):JO J Q b n L [] (c::cs) s:=λT U todo=>by
 obtain⟨fn,Y,K⟩:=K
 exact Judge.leave O Y (K T U) h
theorem JO.leaveD{c:Frame}(O:b.kind=.deferred)(U:P.funcs[b.fn]?=some fn)(K:fn.results=#[])(Y:c.mode=.returning∨c.mode=.panicking [goexitEntry])(h:J.ok Q (G c cs) s):JO J Q b n L [] (c::cs) s:=λT aa todo=>by
 refine Judge.Cr rfl (λw=>?_) h
 have Z:=results_none K T P w
 have e2:=λ(x:Array Event)=>events_results_none (P:=P) (w:=w) K T x
 rcases Y with e | e<;>simp[G,stepG,unwind,Di,U,Z,e2,doReturn,O,GStep.after,seen_none,e,goexitEntry]
theorem JO.enter{f:FuncId}{c:Code}{vs:Lv_}(O:b.roundOf=none)(Y:P.funcs[f]?=some fn)(Z:(fn.name== "runtime.NumGoroutine")=false)(hb:fn.body=some c)(ag:vs.length<=fn.ntmps)
  (h:∀T,Has n L T->∀todo,JL J Q (baseD f) fn.ntmps (EL 0 vs) [] [.code c] (Di b T ds todo::cs) s):JO J Q b n L (dcall f vs.toArray::ds) cs s:=λT aa todo=>by
 refine Judge.Cr rfl (λw=>?_) (h T aa todo (vs.toArray++Array.replicate (fn.ntmps - vs.length) undef) ⟨by simp;omega,λt v ab=>?_⟩)
 .rw [J1 O,stepG_unwind_enter (a:=⟨T,dcall f vs.toArray::ds⟩) rfl Y Z hb,J1 O]
  rw[Cm (b:=baseD f) rfl];simp
 .let⟨_,K⟩:=H4 ab;have ae:t<vs.length:=by
   rcases lb t vs.length with U | U;exact U;simp at K;have:=(d0.1 K).1;omega
  rw[f4,lM (by simpa using ae)];simp at K;simp[K]
theorem JL.defer{ops:Ao_}{i:Nat}{rest:List Nat}{d:Option Tmp}{f:FuncId}{args:Array Operand}{ats:Array TypeId}{ty:TypeId}{p:String}{af:Ae_}{g:On_}{vs:Lv_}
  (U:ops[i]?=some ⟨d,.defer ⟨.value (.func f),args,ats⟩,ty,p,af,g⟩) (Y:b.roundOf=none) (hw:AQ L ops ⟨d,.defer ⟨.value (.func f),args,ats⟩,ty,p,af,g⟩=some true) (K:((b.kind != .early)&&A6 n d)=true)
  (Z:evs L args.toList=some vs) (h:JL J Q b n (Az L d undef) (dcall f vs.toArray::ds) (.inRegion ops rest::k) cs s):
  JL J Q b n L ds (.inRegion ops (i::rest)::k) cs s:=λT O=>by
 simp only[f5] at K
 have aa:args.map (A7 T)=vs.toArray:=by
  rw[← ER O.El Z];apply lR;simp
 refine Judge.oper U (Cd O hw) (by simpa using K.1) (.inl Y) ?_;have hd:execOp (A7 T) ⟨d,.defer ⟨.value (.func f),args,ats⟩,ty,p,af,g⟩=.pure (.defer (dcall f vs.toArray)):=by
  simp only[execOp,resolve,bind,Sem.bind,Deferred.ofValue,A7,pure,dcall];rw[aa];simp
 rw[hd];exact h _ (O.put K.2 undef)
def J8:Ph->Bool
 | .B7 _ | .Fb _ | .Fo | .BP _ _ | .Dh | .CY=>false
 | _=>true
theorem HD{p:Ph}{g:Goroutine}(K:J8 p=true)(Y:g.status=.running)(Z:g.offers=none)(O:if Fam.DU p=true then s=.quiet else s.q=false)(aa:p=.Et->mayWake P g=true)
  (h:∀v wt sm v' wt' sm' es U,F.act p v wt sm=some ((v',wt',sm'),es,U)->∃g',(∀w,F.WG w v wt sm->stepG P (Fam.C5 p) g w=.go g' (F.put w v' wt' sm') es)/\g'.status=.running/\LJ P (Stop P F) (Fam.C5 p) U g' (Fam.GZ p s)):Stop P F p g s:=
 FO.stop {
  run:=Y
  offers:=Z
  quiet:=λe=>by rw[d5 e] at O;exact O
  live:=λe=>by rw[d7 (by rw[e];simp)] at O;exact O
  act:=h
  Hn:=λe=>by rcases e with e | e;exact aa e;subst e;cases K
  EA:=λe=>by subst e;cases K
  close:=λe=>by subst e;cases K
  send:=λk e=>by subst e;cases K
  go:=λj e=>by subst e;cases K
  GY:=λe=>by subst e;cases K
  recv:=λks vs e=>by subst e;cases K}
theorem J4{v wt:Nat}(h:F.WG w v wt sm):F.put w v wt sm=w:=by
 unfold Fam.put;have:w.heap.setIfInBounds F.wg (F.G0 (Fam.word v wt) sm)=w.heap:=by
  apply mw;intro i;by_cases e:F.wg=i
  .subst e;unfold Fam.WG at h;have O:F.wg<w.heap.size:=by
    rcases lb F.wg w.heap.size with K | K;exact K;simp[lk K] at h
   rw[k9 O,h]
  .rw [d9 e]
 rw[this]
theorem HF{v wt:Nat}(h:F.WG w v wt sm):w.cell? F.sA=some (.int .u64 (Fam.word v wt))/\w.cell? F.mA=some (.int .u32 sm)/\w.frozen? F.sA=false/\w.frozen? F.mA=false:=by
 unfold Fam.WG Fam.G0 at h;refine⟨?_,?_,?_,?_⟩;simp[World.cell?,Fam.sA,h];simp[World.cell?,Fam.mA,h];simp[World.frozen?,Fam.sA,h];simp[World.frozen?,Fam.mA,h]
theorem Me{v wt wt':Nat}(h:F.WG w v wt sm):w.setCell F.sA (.int .u64 (Fam.word k' wt'))=F.put w k' wt' sm:=by
 unfold Fam.put World.setCell;congr 1;apply mw;intro i;unfold Fam.WG Fam.G0 at h;rw[m1];have O:F.wg<w.heap.size:=by
  rcases lb F.wg w.heap.size with K | K;exact K;simp[lk K] at h
 by_cases e:F.wg=i;subst e;rw[k9 O,h];simp[Fam.sA,Fam.G0];rw[d9 e];simp[Fam.sA,e]
theorem PT{v wt:Nat}(h:F.WG w v wt sm):w.setCell F.mA (.int .u32 k')=F.put w v wt k':=by
 unfold Fam.put World.setCell;congr 1;apply mw;intro i;unfold Fam.WG Fam.G0 at h;rw[m1];have O:F.wg<w.heap.size:=by
  rcases lb F.wg w.heap.size with K | K;exact K;simp[lk K] at h
 by_cases e:F.wg=i;subst e;rw[k9 O,h];simp[Fam.mA,Fam.G0];rw[d9 e];simp[Fam.mA,e]
structure CZ (P:Program) (f:FuncId) (e:Av_->Sem Value):Prop where
 h:∃fn,P.funcs[f]?=some fn/\(fn.name== "runtime.NumGoroutine")=false/\fn.body.isNone=true/\Extern.findNext fn=none/\Extern.find fn=some e
section
variable {rest:List Nat}
theorem Pb(K:Has n L T)(O:evs L args.toList=some vs):args.map (⟨T,ds⟩:Act).eval=vs.toArray:=by
 have:(⟨T,ds⟩:Act).eval=A7 T:=funext λx=>ET T ds x;rw[this,← ER K.El O];apply lR;simp
theorem KV{m:Mark}(Z:J8 p=true)(aa:if Fam.DU p=true then s=.quiet else s.q=false)(ab:p≠ .Et)(ae:∀v wt sm,F.act p v wt sm=some ((v,wt,sm),#[Fam.Em m],.ph q))(ag:Fam.GZ p s=s)
  (ah:ops[i]?=some ⟨d,.call ⟨.value (.func f),args,ats⟩,ty,pp,af,g⟩) (O:b.roundOf=none) (hw:AQ L ops ⟨d,.call ⟨.value (.func f),args,ats⟩,ty,pp,af,g⟩=some true) (K:((b.kind != .early)&&A6 n d)=true)
  (hm:∀x,m≠ .extern x) (he:CZ P f (λ_=>do mark m;pure Extern.Race.none_))
  (h:JL (Bc P (Fam.C5 p)) (Stop P F q) b n (Az L d (.tuple #[])) ds (.inRegion ops rest::k) cs s):
  JL (Bc P (Fam.C5 p)) (Stop P F p) b n L ds (.inRegion ops (i::rest)::k) cs s:=λT U=>by
 simp only[f5] at K
 obtain⟨fn,ai,aj,hb,ak,he⟩:=he.h
 refine(Bc P _).stop (HD Z rfl rfl aa (λe=>absurd e ab) λv wt sm v' wt' sm' es am Y=>?_)
 rw[ae] at Y;cases Y
 refine⟨_,λw al=>?_,rfl,by rw[ag];exact h _ (U.put K.2 _)⟩
 rw[Cm O,Cm O,stepG_mark0 (a:=⟨T,ds⟩) m hm ah (Cd U hw) (by simpa using K.1) rfl ai aj hb ak he,J4 al,Gl]
 rfl
theorem KR{mk:Addr->Mark}(Z:J8 p=true)(aa:if Fam.DU p=true then s=.quiet else s.q=false)(ab:p≠ .Et)(ae:∀v wt sm,F.act p v wt sm=some ((v,wt,sm),#[Fam.Em (mk ad)],.ph q))
  (ag:ops[i]?=some ⟨d,.call ⟨.value (.func f),args,ats⟩,ty,pp,af,g⟩) (U:b.roundOf=none) (hw:AQ L ops ⟨d,.call ⟨.value (.func f),args,ats⟩,ty,pp,af,g⟩=some true) (K:((b.kind != .early)&&A6 n d)=true)
  (hm:∀ad x,mk ad≠ .extern x) (he:CZ P f (Extern.Race.marked mk)) (ah:evs L args.toList=some vs) (ai:vs[0]?=some (.pointer (some ad)))
  (h:JL (Bc P (Fam.C5 p)) (Stop P F q) b n (Az L d (.tuple #[])) ds (.inRegion ops rest::k) cs (Fam.GZ p s)):
  JL (Bc P (Fam.C5 p)) (Stop P F p) b n L ds (.inRegion ops (i::rest)::k) cs s:=λT O=>by
 simp only[f5] at K
 obtain⟨fn,aj,ak,hb,al,he⟩:=he.h
 refine(Bc P _).stop (HD Z rfl rfl aa (λe=>absurd e ab) λv wt sm v' wt' sm' es an Y=>?_)
 rw[ae] at Y;cases Y
 refine⟨_,λw am=>?_,rfl,h _ (O.put K.2 _)⟩
 rw[Cm U,Cm U,stepG_markAt (a:=⟨T,ds⟩) mk hm ag (Cd O hw) (by simpa using K.1) rfl aj ak hb al he (ad:=ad) (by rw[Pb O ah];simpa using ai),J4 am,Gl]
 rfl
end
end
variable {E:LH}{S:List Seg}{j l:Nat}{o o':Obj}
section
variable {H:LH}
theorem J7(ah:An E H S)(Y:S[j]?=some [(l,o)])(o':Obj):(Ah E H S).upd l o'=Ah E H (S.set j [(l,o')])/\An E H (S.set j [(l,o')]):=by
 let⟨K,Z⟩:=FU ah Y;have U:=Nd.iff.1 Z;have aa:E l=none:=(U.2 (l,o) (by simp)).1;have ai:H l=none:=(U.2 (l,o) (by simp)).2;have ab:Nd E H (S.set j []).flatten:=Iy.Nd.left Z;have aj:∀q∈(S.set j []).flatten,q.1≠l:=λq O e=>by
  have:=U.1;rw[lL,lG] at this;exact this.2.2 q.1 (mG O) l (by simp) e
 have ae:AM (S.set j []).flatten H l=none:=by
  have key:∀(B:List (Nat×Obj)),(∀q∈B,q.1≠l)->AM B H l=none:=by
   intro B
   induction B with
   | nil=>intro _;exact ai
   | cons q B ak=>
    intro O;obtain⟨c,al⟩:=q;have ag:l≠c:=λe=>O (c,al) (by simp) e.symm;have K:=ak λam an=>O am (lc _ an);simp only[AM]
    first
    | rw[d7 ag];exact K
    | rw[d7 (lu ag)];exact K
  exact key _ aj
 have f1:=I6 (E:=E) (H:=H) (B:=(S.set j []).flatten) (r:=l) aa ae o ab;have f2:=I6 (E:=E) (H:=H) (B:=(S.set j []).flatten) (r:=l) aa ae o' ab;let⟨ao,g2⟩:=HH (seg:=[(l,o)]) Y f2.1;refine⟨?_,g2⟩;rw[K,← ao,← f1.2,← f2.2];unfold St.upd;congr 1;funext x;by_cases ap:x=l<;>simp[ap]
end
variable {P:Program}{J:Judge P}{Q:Gs_}{L:Env}{ds:Ld_}{k:Li_}{cs:Lf_}
variable{r:Loop}{caps:Lv_}{K:Nat}
section
variable {b:Frame}{n:Nat}{H:LH}
theorem Judge.EA{α:Type}{g:Goroutine}{g':α->Goroutine}{s:St}(x:Sem α)(aa:s.q=false)(ab:g.status=.running)
  (ae:∀w a w',x.run P w=.ok a w'->∃es,stepG P J.main g w=.go (g' a) w' es/\∀e∈es,e∈x.events P w #[])
  (h:lp P x s (λa s'=>J.ok Q (g' a) s') (λ_ _=>False)):J.ok Q g s:=by
 refine J.step ⟨ab,λw f=>?_,λe=>by subst e;cases aa⟩;let⟨s',O,U,Y,K⟩:=Mi _ h f;cases Z:x.run P w with
 | ok a w'=>
  rw[Z] at O U Y K;simp only[Jx] at O U Y;let⟨es,he,hm⟩:=ae w a w' Z;exact⟨g' a,s',w',es,he,K,O,U,λe ag=>Y e (hm e ag)⟩
 | halt a w'=>rw[Z] at K;exact K.elim
theorem KM{s:St}{Q':Loop->St->Prop}{X:Halt->St->Prop}(h:s.get l=some (.loop r))(k:Q' r s):lp P (Instr.getLoop l) s Q' X:=by
 unfold Instr.getLoop getObj;simp only[bind,Sem.bind,lp];exact⟨_,h,V,k⟩
theorem L5(j:Nat)(K:An E H S)(O:S[j]?=some [(l,.loop r)])(U:(r.state== .busy)=false)(Y:r.pending=none)
  (h:An E H (S.set j [(l,.loop {r with state:=.exhausted})])->J.ok Q (G (fr b T ds k) cs) (Ah E H (S.set j [(l,.loop {r with state:=.exhausted})]))):
  J.ok Q (G (fr b T ds (.endRangeFunc l::k)) cs) (Ah E H S):=by
 let⟨Z,aa⟩:=J7 K O (.loop {r with state:=.exhausted});have ab:lp P (Instr.endLoop l) (Ah E H S) (λa s'=>a=none/\s'=Ah E H (S.set j [(l,.loop {r with state:=.exhausted})])) (λ_ _=>False):=by
  unfold Instr.endLoop;refine Av _ _ (KM (Ef (i:=0) K O V) ?_);rw[d7 (by rw[U];simp)];have ae:(Ah E H S).H l=some (.loop r):=by
   have:=Ef (i:=0) K O V;have ag:E l=none:=M1 K O;unfold St.get at this;rw[show(Ah E H S).E l=none from ag] at this;exact this
  simp only[bind,Sem.bind,lp,setObj,pure];refine⟨⟨_,ae,V⟩,V,Y,?_⟩;exact Z
 refine Judge.EA (g':=λah=>G (fr b T ds ((ah.map Item.code).toList++k)) cs) (Instr.endLoop l) V V (λw a w' ai=>?_) (CH _ ab (λa s' ⟨aj,ak⟩=>by subst aj ak;exact h aa) (λ_ _ h=>h));refine⟨seen P b.fn ((Instr.endLoop l).events P w #[])++ #[],?_,λe he=>?_⟩;simp[G,stepG,stepG.exec,fr,ai,GStep.after];exact mem_seen (by simpa using he)
def Kk(l:Nat)(f:FuncId):Frame:={(default:Frame) with fn:=f,kind:=.normal,roundOf:=some l}
theorem Co.yield{t:Tmp}{v:Value}{B:Seg}{R:Value->LH->Seg->Prop}{i:Nat}(K:B[i]?=some (l,.loop r))(O:r.params=#[t])
  (h:∀(Q:Gs_) (U:Frame) (cs:Lf_) (H:LH),An E H [B]->(∀w E' S' B',Le E E'->S'.flatten=B'->R w E' B'->An E' H S'->J.ok Q (G (U.finish w) cs) (Ah E' H S'))->
   J.ok Q (G (fr (Kk l r.fn) (r.tmps.setIfInBounds t v) [] [.code r.assign,.beginRound,.code r.body]) (U::cs)) (Ah E H [B])):
  Co J (.func (.yield l) #[] #[]) [v] E B R:=λH Y Q c cs Z=>by
 have aa:(mk E H B).get l=some (.loop r):=Mb Y K
 simp only[Deferred.ofValue,bind,Sem.bind,pure,invoke]
 unfold Instr.yield
 refine Av _ _ (KM aa ?_)
 have ab:¬((#[]:Av_)++ [v].toArray).size≠r.params.size:=by rw[O];simp
 rw[d7 ab];have e2:((r.params.zip ((#[]:Av_)++ [v].toArray)).foldl (λtmps (t,a)=>tmps.setIfInBounds t a) r.tmps)=r.tmps.setIfInBounds t v:=by rw[O];simp[Array.zip,Array.zipWith,Array.zipWithMAux]
 simp only[lp,pure];have ae:mk E H B=Ah E H [B]:=by unfold Ah;simp
 rw[e2,ae];exact h Q c cs H (by unfold An;simpa using Y) λw E' S' B' hle K ag ah=>by
  subst K;exact Z w _ ⟨E',S'.flatten,hle,ag,ah,rfl⟩
theorem JL.beginRound(j:Nat)(U:b.roundOf=some l)(Y:b.kind=.normal)(K:An E H S)(O:S[j]?=some [(l,.loop r)])(Z:r.state=.ready)
  (h:An E H (S.set j [(l,.loop {r with state:=.busy})])->JL J Q b n L ds k cs (Ah E H (S.set j [(l,.loop {r with state:=.busy})]))):
  JL J Q b n L ds (.beginRound::k) cs (Ah E H S):=λT aa=>by
 let⟨ab,ae⟩:=J7 K O (.loop {r with state:=.busy})
 have ag:lp P (Instr.beginRound l) (Ah E H S) (λ_ s'=>s'=Ah E H (S.set j [(l,.loop {r with state:=.busy})])) (λ_ _=>False):=by
  unfold Instr.beginRound;refine Av _ _ (KM (Ef (i:=0) K O rfl) ?_);have ah:(Ah E H S).H l=some (.loop r):=by
   have:=Ef (i:=0) K O rfl;have ai:E l=none:=M1 K O;unfold St.get at this;rw[show(Ah E H S).E l=none from ai] at this;exact this
  simp only[bind,Sem.bind,lp,setObj,pure,Z];exact⟨⟨_,ah,rfl⟩,rfl,ab⟩
 refine Judge.EA (g':=λ_=>G (fr b T ds k) cs) (Instr.beginRound l) rfl rfl (λw a w' aj=>?_) (CH _ ag (λa s' ak=>by subst ak;exact h ae T aa) (λ_ _ h=>h));refine⟨seen P b.fn ((Instr.beginRound l).events P w #[])++ #[],?_,λe he=>?_⟩;simp[G,stepG,stepG.exec,fr,stepG.apply,U,Y,aj,GStep.after,Frame.finish];exact mem_seen (by simpa using he)
theorem Kq{o:Obj}{seg:Seg}(K:An E H S)(O:S[j]?=some ((l,o)::seg)):(Ah E H S).H l=some o:=by
 have:=Ef (i:=0) K O V;have U:E l=none:=M1 K O;unfold St.get at this;rw[show(Ah E H S).E l=none from U] at this;exact this
theorem JL.endRound{c:Frame}(j:Nat)(U:b.roundOf=some l)(Y:b.kind=.normal)(K:An E H S)(O:S[j]?=some [(l,.loop r)])
  (h:An E H (S.set j [(l,.loop {r with state:=.ready,pending:=none})])->J.ok Q (G (c.finish (.bool true)) cs) (Ah E H (S.set j [(l,.loop {r with state:=.ready,pending:=none})]))):
  JL J Q b n L [] [] (c::cs) (Ah E H S):=λT ai=>by
 let⟨Z,aa⟩:=J7 K O (.loop {r with state:=.ready,pending:=none})
 have ab:lp P (Instr.endRound l none) (Ah E H S) (λa s'=>a=.bool true/\s'=Ah E H (S.set j [(l,.loop {r with state:=.ready,pending:=none})])) (λ_ _=>False):=by
  unfold Instr.endRound;refine Av _ _ (KM (Ef (i:=0) K O rfl) ?_);simp only[bind,Sem.bind,lp,setObj,pure];exact⟨⟨_,Kq K O,rfl⟩,rfl,rfl,Z⟩
 refine Judge.EA (g':=λv=>G (c.finish v) cs) (Instr.endRound l none) rfl rfl (λw a w' ae=>?_) (CH _ ab (λa s' ⟨ag,ah⟩=>by subst ag ah;exact h aa) (λ_ _ h=>h));refine⟨seen P b.fn ((Instr.endRound l none).events P w #[])++ #[],?_,λe he=>?_⟩;simp[G,stepG,stepG.exec,fr,U,Y,ae,GStep.after,doReturn];exact mem_seen (by simpa using he)
theorem JL.rangeFunc{x:Operand}{params:Array Tmp}{as O:Code}{f:FuncId}(ai:b.roundOf=none)(aj:b.kind≠ .early)(ab:ev L x=some (.func (.func f) #[] caps.toArray))(hb:Cz P f=true)(ak:An E H S)
  (h:∀K l T,Has n L T->An E H (S++ [[(K,.deferred (some []))]]++ [[(l,.loop ⟨.ready,none,b.fn,T,params,as,O,K⟩)]])->
   J.ok Q (G (Frame.enter P f (.func (.yield l) #[] #[]::caps).toArray .normal) (fr b T (⟨.collected K,#[]⟩::ds) (.inRangeFunc l::k)::cs)) (Ah E H (S++ [[(K,.deferred (some []))]]++ [[(l,.loop ⟨.ready,none,b.fn,T,params,as,O,K⟩)]]))):
  JL J Q b n L ds (.code (.rangeFunc x params as O)::k) cs (Ah E H S):=λT ae=>by
 have al:lp P (Instr.enterLoop b.fn T params as O b.roundOf) (Ah E H S) (λq s'=>∃K,q.2=[⟨.collected K,#[]⟩]/\An E H (S++ [[(K,.deferred (some []))]]++ [[(q.1,.loop ⟨.ready,none,b.fn,T,params,as,O,K⟩)]])/\s'=Ah E H (S++ [[(K,.deferred (some []))]]++ [[(q.1,.loop ⟨.ready,none,b.fn,T,params,as,O,K⟩)]])) (λ_ _=>False):=by
  unfold Instr.enterLoop;rw[ai];simp only[newObj,bind,Sem.bind,lp,pure];refine⟨rfl,λK Y Z=>?_⟩;let⟨aa,am⟩:=I6 Y Z (.deferred (some [])) ak;let⟨p1,p2⟩:=EU aa;have an:(Ah E H S).upd K (.deferred (some []))=Ah E H (S++ [[(K,.deferred (some []))]]):=by rw[← p1,← am];rfl
  rw[an];refine⟨rfl,λl ao ap=>?_⟩;let⟨aq,ar⟩:=I6 ao ap (.loop ⟨.ready,none,b.fn,T,params,as,O,K⟩) p2;let⟨p3,p4⟩:=EU aq;exact⟨K,rfl,p4,by rw[← p3,← ar];rfl⟩
 refine Judge.EA (g':=λq=>G (Frame.enter P f (.func (.yield q.1) #[] #[]::caps).toArray .normal) (fr b T (q.2++ds) (.inRangeFunc q.1::k)::cs)) (Instr.enterLoop b.fn T params as O b.roundOf) rfl rfl (λw a w' au=>?_) (CH _ al (λa s' ⟨K,Y,Z,aa⟩=>by subst aa;simp only[Y];exact h K a.1 T ae Z) (λ_ _ h=>h));obtain⟨l,mk⟩:=a;have av:A7 T x=.func (.func f) #[] caps.toArray:=ae.ev ab;obtain⟨fn,U,aw,ag⟩:∃fn,P.funcs[f]?=some fn/\(fn.name== "runtime.NumGoroutine")=false/\fn.body.isNone=false:=by
  unfold Cz at hb;cases U:P.funcs[f]? with
  | none=>rw[U] at hb;cases hb
  | some fn=>
   rw[U] at hb;simp only[f5,nk] at hb;exact⟨fn,rfl,hb.1,by cases ab:fn.body<;>simp_all⟩
 refine⟨seen P b.fn ((Instr.enterLoop b.fn T params as O b.roundOf).events P w #[])++ #[],?_,λe he=>?_⟩
 .have ah:=Qy (b:=b) (ds:=mk++ds) T (.inRangeFunc l::k);simp only[fr] at ah;have ay:¬fn.name= "runtime.NumGoroutine" :=by simpa using aw
  have az:¬fn.body=none:=by intro e;rw[e] at ag;cases ag
  have aA:A7 T (.const (.func (.yield l) #[] #[]))=.func (.yield l) #[] #[]:=rfl;simp[G,stepG,stepG.exec,fr,au,GStep.after,stepG.apply,resolve,ah,av,Deferred.ofValue,invoke,callFunc,U,ay,az,aj,aA,seen_none]
 .exact mem_seen (by simpa using he)
theorem JO.collected(j:Nat)(ai:b.roundOf=none)(O:An E H S)(U:S[j]?=some [(K,.deferred (some []))])
  (h:An E H (S.set j [(K,.deferred none)])->JO J Q b n L ds cs (Ah E H (S.set j [(K,.deferred none)]))):JO J Q b n L (⟨.collected K,#[]⟩::ds) cs (Ah E H S):=λT Y todo=>by
 let⟨Z,aa⟩:=J7 O U (.deferred none)
 have ab:lp P (Instr.takeDeferred K) (Ah E H S) (λa s'=>a=[]/\s'=Ah E H (S.set j [(K,.deferred none)])) (λ_ _=>False):=by
  unfold Instr.takeDeferred getObj;simp only[bind,Sem.bind,lp,setObj,pure];exact⟨_,Ef (i:=0) O U rfl,rfl,⟨_,Kq O U,rfl⟩,rfl,rfl,Z⟩
 refine Judge.EA (g':=λl=>G (Di b T (l++ds) todo) cs) (Instr.takeDeferred K) rfl rfl (λw a w' ae=>?_) (CH _ ab (λa s' ⟨ag,ah⟩=>by subst ag ah;exact h aa T Y todo) (λ_ _ h=>h));refine⟨seen P b.fn ((Instr.takeDeferred K).events P w #[])++ #[],?_,λe he=>?_⟩;simp[G,stepG,unwind,Di,ae,GStep.after];exact mem_seen (by simpa using he)
def Jv(f:FuncId)(args caps:Av_):Deferred:={target:=.fn (.func f) caps,args:=args}
theorem JO.K1{f:FuncId}{c:Code}{vs:Lv_}(ah:b.roundOf=none)(O:P.funcs[f]?=some fn)(Y:(fn.name== "runtime.NumGoroutine")=false)(hb:fn.body=some c)(Z:(vs++caps).length<=fn.ntmps){s:St}
  (h:∀T,Has n L T->∀todo,JL J Q (baseD f) fn.ntmps (EL 0 (vs++caps)) [] [.code c] (Di b T ds todo::cs) s):JO J Q b n L (Jv f vs.toArray caps.toArray::ds) cs s:=λT aa todo=>by
 have ab:¬fn.name= "runtime.NumGoroutine" :=by simpa using Y
 refine Judge.Cr rfl (λw=>?_) (h T aa todo ((vs++caps).toArray++Array.replicate (fn.ntmps - (vs++caps).length) undef) ⟨by simp;simp at Z;omega,λt v ae=>?_⟩);rw[Cm (b:=baseD f) rfl];have:=enter_atD (P:=P) (vs++caps).toArray O hb;simp only[mE] at this;rw[← this];simp[G,stepG,unwind,callDeferred,Di,Jv,invoke,callFunc,O,ab,hb,GStep.after,seen_none]
 .let⟨_,K⟩:=H4 ae;have ag:t<(vs++caps).length:=by
   rcases lb t (vs++caps).length with U | U;exact U;simp only[mO] at K;have:=(d0.1 K).1;omega
  rw[f4,lM (by simpa using ag)];simp only[mO] at K;rw[lA,K];rfl
theorem P4{ops:Ao_}{i:Nat}{rest:List Nat}{d:Option Tmp}{x:Operand}{f:FuncId}{args:Array Operand}{ats:Array TypeId}{ty:TypeId}{p:String}{af:Ae_}{g:On_}{vs:Lv_}{s:St}
  (U:ops[i]?=some ⟨d,.defer ⟨.value x,args,ats⟩,ty,p,af,g⟩) (Y:b.roundOf=none) (hw:AQ L ops ⟨d,.defer ⟨.value x,args,ats⟩,ty,p,af,g⟩=some true) (O:((b.kind != .early)&&A6 n d)=true)
  (Z:ev L x=some (.func (.func f) #[] caps.toArray)) (aa:evs L args.toList=some vs) (h:JL J Q b n (Az L d undef) (Jv f vs.toArray caps.toArray::ds) (.inRegion ops rest::k) cs s):
  JL J Q b n L ds (.inRegion ops (i::rest)::k) cs s:=λT K=>by
 simp only[f5] at O
 have ab:args.map (A7 T)=vs.toArray:=by
  rw[← ER K.El aa];apply lR;simp
 refine Judge.oper U (Cd K hw) (by simpa using O.1) (.inl Y) ?_;have hd:execOp (A7 T) ⟨d,.defer ⟨.value x,args,ats⟩,ty,p,af,g⟩=.pure (.defer (Jv f vs.toArray caps.toArray)):=by
  simp only[execOp,resolve,bind,Sem.bind,Deferred.ofValue,K.ev Z,pure,Jv];rw[ab];simp
 rw[hd];exact h _ (K.put O.2 undef)
end
variable {s:St}{ρ:Operand->Value}{y z:Operand}{t u e:TypeId}{a:Option Addr}{c:Nat}
section
variable {x:Operand}{p:String}
theorem JW(K:P.underlying t=some (.slice e))(O:ρ x=.slice a l c)(U:ρ (.const (.slice none 0 0))=.slice none 0 0):Yl P ⟨d,.binOp .eql t x (.const (.slice none 0 0)) u,ty,p,af,g⟩ ρ s (.bool a.isNone):=by
 refine EJ (sm:=do eqGuard .eql t x (.const (.slice none 0 0)) (ρ x) (ρ (.const (.slice none 0 0)));binOp .eql t (ρ x) (ρ (.const (.slice none 0 0)))) V ?_
 rw[O,U];have Y:lp P (eqGuard .eql t x (.const (.slice none 0 0)) (.slice a l c) (.slice none 0 0)) s (λ_ s'=>s'=s) (λ_ _=>False):=by
  simp[eqGuard,lp,pure]
 refine Av _ _ (CH _ Y ?_ (λ_ _ h=>h));rintro _ _ rfl;have hb:binOp .eql t (.slice a l c) (.slice none 0 0)=(do pure (.bool (← Op.equal t (.slice a l c) (.slice none 0 0)))):=V
 rw[hb];refine Av (x:=Op.equal t (.slice a l c) (.slice none 0 0)) _ ?_;unfold Op.equal Op.maxDepth Op.equalIn;refine Av _ _ (B6 K ?_);cases a<;>exact⟨rfl,rfl⟩
end
def Dv{α B:Type}(step:B->α->Option B):List α->B->Option B
 | [],b=>some b
 | x::l,b=>(step b x).bind λK=>Dv step l K
section
variable {b:Frame}{n:Nat}
end
variable {listed:Array Bool}
variable {v:Value}
section
variable {b:Frame}{n m fuel:Nat}{H:LH}
variable {x:Operand}{p:String}
end
def Hl(P:Program)(d:Nat):GP:=λg _=>∃q,QuitsD P q d g
def Jj(P:Program):Frame:={(default:Frame) with fn:=P.funcs.size,defers:=[],mode:=.panicking [goexitEntry]}
section
variable {P:Program}{F:Fam}{J:Judge P}{Q:GP}{n:Nat}{L L':Env}{ds:Ld_}{k:Li_}{cs:Lf_}{s s':St}{b:Frame}{main:Bool}
theorem Lv.quits{d:Nat}:∀{m:Nat}{g:Goroutine},Lv P (Hl P d) m g->∃q,QuitsD P q d g
 | 0,_,h=>h
 | m+1,_,h=>by
  rcases h with h | ⟨K,g',O,h⟩;exact h;obtain⟨q,U⟩:=h.quits;exact⟨q+1,.ctl K O U⟩
theorem L4{d:Nat}{g:Goroutine}(h:(GF P).ok (Hl P d) g .quiet):∃q,QuitsD P q d g:=by
 let⟨m,hm⟩:=h V;exact hm.quits
theorem PL:(GF P).ok (Hl P 0) (G (Jj P) []) .quiet:=by
 refine Judge.Cr (g':={frame:=Jj P,callers:=[],status:=.finished,dying:=none}) V (λw=>?_) ((GF P).stop ⟨0,V,V⟩);have K:(default:Frame).todo=[]:=V;have O:∀(m:FrameMode),Frame.catches P {fn:=P.funcs.size,tmps:=(default:Frame).tmps,todo:=[],defers:=[],mode:=m,kind:=(default:Frame).kind,roundOf:=(default:Frame).roundOf}=false:=λm=>by simp[Frame.catches]
 simp[G,stepG,unwind,Jj,goexitEntry,K,O]
theorem UW{ops:Ao_}{i:Nat}{rest:List Nat}{d:Option Tmp}{f:FuncId}{args:Array Operand}{ats:Array TypeId}{ty:TypeId}{pp:String}{af:Ae_}{g:On_}{e:Av_->Sem Value}
  (K:ops[i]?=some ⟨d,.call ⟨.value (.func f),args,ats⟩,ty,pp,af,g⟩) (he:CZ P f e):mayWake P (G (fr b T ds (.inRegion ops (i::rest)::k)) cs)=true:=by
 obtain⟨fn,O,_,hb,_⟩:=he.h;have U:fn.body.isSome=false:=by cases h:fn.body<;>simp_all
 simp[mayWake,G,fr,K,Frame.eval,O,U]
theorem Uo{v wt:Nat}(K:1<=v)(O:v<2147483648)(U:wt<=1):IntKind.u64.wrap (Fam.word v wt+18446744069414584320)=Fam.word (v - 1) wt:=by
 simp only[Fam.word,Fam.KK,IntKind.wrap,IntKind.bits,IntKind.signed];simp;omega
theorem UP{v:Nat}(h:v<2147483647):IntKind.u64.wrap (Fam.word v 0+4294967296)=Fam.word (v+1) 0:=by
 simp only[Fam.word,Fam.KK,IntKind.wrap,IntKind.bits,IntKind.signed];simp;omega
theorem word_inj{v wt:Nat}(h:Fam.word v wt=Fam.word K wt):v=K:=by
 simp only[Fam.word,Fam.KK] at h;omega
section
variable {rest:List Nat}{x:Operand}
theorem Wu(ab:ops[i]?=some ⟨d,.call ⟨.value (.func f),#[x,y],ats⟩,ty,pp,af,g⟩)(Z:b.roundOf=none)(hw:AQ L ops ⟨d,.call ⟨.value (.func f),#[x,y],ats⟩,ty,pp,af,g⟩=some true)(O:((b.kind != .early)&&A6 n d)=true)
  (he:CZ P f (Extern.Atomic.update (Op.intArith .add) .u64 true)) (ae:ev L x=some (.pointer (some F.sA))) (ag:ev L y=some (.int .u64 18446744069414584320))
  (ah:JL (Bc P false) (Stop P F .Gp) b n (Az L d (.int .u64 (Fam.word 0 1))) ds (.inRegion ops rest::k) cs .quiet)
  (ai:∀v wt:Nat,v<2147483647->wt<=1->¬(v=0/\wt=1)->JL (GF P) (Hl P 1) b n (Az L d (.int .u64 (Fam.word v wt))) ds (.inRegion ops rest::k) cs .quiet):
  JL (Bc P false) (Stop P F .Hm) b n L ds (.inRegion ops (i::rest)::k) cs .quiet:=λT K=>by
 simp only[f5] at O
 obtain⟨fn,aj,ak,hb,al,he⟩:=he.h
 refine(Bc P _).stop (HD rfl rfl rfl rfl (by simp) λv wt sm v' wt' sm' es am U=>?_)
 simp only[Fam.act] at U
 split at U
 .rename_i Y
  cases U;refine⟨G (fr b (Cb T d (.int .u64 (Fam.word (v - 1) wt))) ds (.inRegion ops rest::k)) cs,λw aa=>?_,rfl,?_⟩
  .let⟨c1,_,c3,_⟩:=HF aa;rw[Cm Z,Cm Z];show stepG P false _ w=_;rw[stepG_add_atomic (a:=⟨T,ds⟩) ab (Cd K hw) (by simpa using O.1) rfl aj ak hb al .u64 he (by rw[ET];exact K.ev ae) (by rw[ET];exact K.ev ag) c1 c3,Uo Y.1 Y.2.1 Y.2.2,Me aa,Gl]
   rfl
  .split;rename_i e;obtain⟨rfl,rfl⟩:=e;exact ah _ (K.put O.2 _);rename_i e;exact L4 (ai (v - 1) wt (by omega) Y.2.2 (by omega) _ (K.put O.2 _))
 .cases U
theorem WC{j:Nat}(ab:s.q=false)(ae:ops[i]?=some ⟨d,.call ⟨.value (.func f),#[x,y],ats⟩,ty,pp,af,g⟩)(Z:b.roundOf=none)(hw:AQ L ops ⟨d,.call ⟨.value (.func f),#[x,y],ats⟩,ty,pp,af,g⟩=some true)(O:((b.kind != .early)&&A6 n d)=true)
  (he:CZ P f (Extern.Atomic.update (Op.intArith .add) .u64 true)) (ag:ev L x=some (.pointer (some F.sA))) (ah:ev L y=some (.int .u64 4294967296))
  (ai:JL (Bc P true) (Stop P F (.Hu j)) b n (Az L d (.int .u64 (Fam.word 1 0))) ds (.inRegion ops rest::k) cs s)
  (aj:∀v:Nat,1<=v->v<2147483647->JL (Bc P true) (Stop P F (.Ga j)) b n (Az L d (.int .u64 (Fam.word (v+1) 0))) ds (.inRegion ops rest::k) cs s):
  JL (Bc P true) (Stop P F (.HS j)) b n L ds (.inRegion ops (i::rest)::k) cs s:=λT K=>by
 simp only[f5] at O
 obtain⟨fn,ak,al,hb,am,he⟩:=he.h
 refine(Bc P _).stop (HD rfl rfl rfl ab (by simp) λv wt sm v' wt' sm' es an U=>?_)
 simp only[Fam.act] at U
 split at U
 .rename_i Y
  obtain⟨Y,rfl⟩:=Y;cases U;refine⟨G (fr b (Cb T d (.int .u64 (Fam.word (v+1) 0))) ds (.inRegion ops rest::k)) cs,λw aa=>?_,rfl,?_⟩
  .let⟨c1,_,c3,_⟩:=HF aa;rw[Cm Z,Cm Z];show stepG P true _ w=_;rw[stepG_add_atomic (a:=⟨T,ds⟩) ae (Cd K hw) (by simpa using O.1) rfl ak al hb am .u64 he (by rw[ET];exact K.ev ag) (by rw[ET];exact K.ev ah) c1 c3,UP Y,Me aa,Gl]
   rfl
  .split;rename_i e;subst e;exact ai _ (K.put O.2 _);rename_i e;exact aj v (by omega) Y _ (K.put O.2 _)
 .cases U
theorem Xp(ae:J8 p=true)(ag:if Fam.DU p=true then s=.quiet else s.q=false)(ah:p≠ .Et)(ai:Fam.GZ p s=s)(aj:∀v wt sm r,F.act p v wt sm=some r->r.1=(v,wt,sm)/\r.2.1=#[Fam.Fc F.sA])
  (ak:ops[i]?=some ⟨d,.call ⟨.value (.func f),#[x],ats⟩,ty,pp,af,g⟩) (U:b.roundOf=none) (hw:AQ L ops ⟨d,.call ⟨.value (.func f),#[x],ats⟩,ty,pp,af,g⟩=some true) (K:((b.kind != .early)&&A6 n d)=true)
  (he:CZ P f (Extern.Atomic.loadT (.int .u64))) (al:ev L x=some (.pointer (some F.sA)))
  (h:∀v wt sm r,F.act p v wt sm=some r->∃q,r.2.2=.ph q/\JL (Bc P (Fam.C5 p)) (Stop P F q) b n (Az L d (.int .u64 (Fam.word v wt))) ds (.inRegion ops rest::k) cs s):
  JL (Bc P (Fam.C5 p)) (Stop P F p) b n L ds (.inRegion ops (i::rest)::k) cs s:=λT O=>by
 simp only[f5] at K
 obtain⟨fn,am,an,hb,ao,he⟩:=he.h
 refine(Bc P _).stop (HD ae rfl rfl ag (λe=>absurd e ah) λv wt sm v' wt' sm' es aq Y=>?_)
 let⟨Z,e2⟩:=aj _ _ _ _ Y
 let⟨q,aa,ap⟩:=h _ _ _ _ Y
 simp only at Z e2 aa
 cases Z
 subst e2 aa
 refine⟨_,λw ab=>?_,rfl,by rw[ai];exact ap _ (O.put K.2 _)⟩
 let⟨c1,_,_,_⟩:=HF ab
 rw[Cm U,Cm U,stepG_load_atomic (a:=⟨T,ds⟩) ak (Cd O hw) (by simpa using K.1) rfl am an hb ao .u64 he (by rw[ET];exact O.ev al) c1,J4 ab,Gl]
 rfl
theorem XA(aa:ops[i]?=some ⟨d,.call ⟨.value (.func f),#[x,y],ats⟩,ty,pp,af,g⟩)(Y:b.roundOf=none)(hw:AQ L ops ⟨d,.call ⟨.value (.func f),#[x,y],ats⟩,ty,pp,af,g⟩=some true)(U:((b.kind != .early)&&A6 n d)=true)
  (he:CZ P f Extern.Atomic.storeT) (ab:ev L x=some (.pointer (some F.sA))) (ae:ev L y=some (.int .u64 0))
  (h:JL (Bc P false) (Stop P F .Et) b n (Az L d (.tuple #[])) ds (.inRegion ops rest::k) cs .quiet):
  JL (Bc P false) (Stop P F .GN) b n L ds (.inRegion ops (i::rest)::k) cs .quiet:=λT K=>by
 simp only[f5] at U
 obtain⟨fn,ag,ah,hb,ai,he⟩:=he.h
 refine(Bc P _).stop (HD rfl rfl rfl rfl (by simp) λv wt sm v' wt' sm' es al O=>?_)
 simp only[Fam.act] at O
 split at O
 .rename_i aj
  obtain⟨rfl,rfl⟩:=aj;cases O;refine⟨_,λw Z=>?_,rfl,h _ (K.put U.2 _)⟩;let⟨c1,_,c3,_⟩:=HF Z;have ak:(.int .u64 0:Value)=.int .u64 (Fam.word 0 0):=by simp[Fam.word]
  rw[Cm Y,Cm Y];show stepG P false _ w=_;rw[stepG_store_atomic (a:=⟨T,ds⟩) aa (Cd K hw) (by simpa using U.1) rfl ag ah hb ai he (by rw[ET];exact K.ev ab) (by rw[ET];exact K.ev ae) c1 c3,ak,Me Z,Gl]
  rfl
 .cases O
theorem WQ{m:Nat}(ak:s.q=false)(aa:ops[i]?=some ⟨d,.call ⟨.value (.func f),#[x,y,z],ats⟩,ty,pp,af,g⟩)(Z:b.roundOf=none)(hw:AQ L ops ⟨d,.call ⟨.value (.func f),#[x,y,z],ats⟩,ty,pp,af,g⟩=some true)(U:((b.kind != .early)&&A6 n d)=true)
  (he:CZ P f (Extern.Atomic.casT (.int .u64))) (ab:ev L x=some (.pointer (some F.sA))) (ae:ev L y=some (.int .u64 (Fam.word m 0))) (ag:ev L z=some (.int .u64 (Fam.word m 1)))
  (al:JL (Bc P false) (Stop P F .HU) b n (Az L d (.bool true)) ds (.inRegion ops rest::k) cs s)
  (am:JL (Bc P false) (Stop P F (.FI (m - 1))) b n (Az L d (.bool false)) ds (.inRegion ops rest::k) cs s):
  JL (Bc P false) (Stop P F (.Ho m)) b n L ds (.inRegion ops (i::rest)::k) cs s:=λT K=>by
 simp only[f5] at U
 obtain⟨fn,ah,ai,hb,aj,he⟩:=he.h
 refine(Bc P _).stop (HD rfl rfl rfl ak (by simp) λv wt sm v' wt' sm' es ao O=>?_)
 simp only[Fam.act] at O
 split at O
 .rename_i an
  obtain⟨_,_,rfl⟩:=an;split at O
  .rename_i e;subst e;cases O;refine⟨_,λw Y=>?_,rfl,al _ (K.put U.2 _)⟩;let⟨c1,_,c3,_⟩:=HF Y;rw[Cm Z,Cm Z];show stepG P false _ w=_;rw[stepG_cas_hit (a:=⟨T,ds⟩) aa (Cd K hw) (by simpa using U.1) rfl ah ai hb aj .u64 he (by rw[ET];exact K.ev ab) (by rw[ET];exact K.ev ae) (by rw[ET];exact K.ev ag) c1 c3,Me Y,Gl]
   rfl
  .rename_i e;cases O;refine⟨_,λw Y=>?_,rfl,am _ (K.put U.2 _)⟩;let⟨c1,_,c3,_⟩:=HF Y;rw[Cm Z,Cm Z];show stepG P false _ w=_;rw[stepG_cas_miss (a:=⟨T,ds⟩) aa (Cd K hw) (by simpa using U.1) rfl ah ai hb aj .u64 he (by rw[ET];exact K.ev ab) (by rw[ET];exact K.ev ae) (by rw[ET];exact K.ev ag) c1 c3 (λq=>e (word_inj q)),J4 Y,Gl]
   rfl
 .cases O
theorem UR{args:Array Operand}{vs:Lv_}(Y:ops[i]?=some ⟨d,.call ⟨.value (.func f),args,ats⟩,ty,pp,af,g⟩)(Z:b.roundOf=none)(hw:AQ L ops ⟨d,.call ⟨.value (.func f),args,ats⟩,ty,pp,af,g⟩=some true)(O:((b.kind != .early)&&A6 n d)=true)
  (he:CZ P f Extern.Sync.semrelease) (ab:evs L args.toList=some vs) (ae:vs[0]?=some (.pointer (some F.mA)))
  (h:JL (GF P) (Hl P 1) b n (Az L d (.tuple #[])) ds (.inRegion ops rest::k) cs .quiet):
  JL (Bc P false) (Stop P F .Et) b n L ds (.inRegion ops (i::rest)::k) cs .quiet:=λT U=>by
 simp only[f5] at O
 have ag:=UW (P:=P) (b:=b) (ds:=ds) (k:=k) (cs:=cs) (rest:=rest) (T:=T) Y he
 obtain⟨fn,ah,ai,hb,aj,he⟩:=he.h
 refine(Bc P _).stop (HD rfl rfl rfl rfl (λ_=>ag) λv wt sm v' wt' sm' es am K=>?_)
 simp only[Fam.act] at K
 split at K
 .rename_i ak
  subst ak;cases K;refine⟨_,λw aa=>?_,rfl,L4 (h _ (U.put O.2 _))⟩;let⟨_,c2,_,c4⟩:=HF aa;rw[Cm Z,Cm Z];show stepG P false _ w=_;rw[stepG_semrelease (a:=⟨T,ds⟩) Y (Cd U hw) (by simpa using O.1) rfl ah ai hb aj he (ad:=F.mA) (by rw[Pb U ab];simpa using ae) c2 c4,Gl];have al:IntKind.u32.wrap (((0:Nat):Int)+1)=((1:Nat):Int):=by decide
  rw[al,PT aa]
 .cases K
theorem S9{args:Array Operand}{vs:Lv_}(ai:s.q=false)(aa:ops[i]?=some ⟨d,.call ⟨.value (.func f),args,ats⟩,ty,pp,af,g⟩)(Y:b.roundOf=none)(hw:AQ L ops ⟨d,.call ⟨.value (.func f),args,ats⟩,ty,pp,af,g⟩=some true)(Z:((b.kind != .early)&&A6 n d)=true)
  (he:CZ P f Extern.Sync.semacquire) (aj:evs L args.toList=some vs) (ak:vs[0]?=some (.pointer (some F.mA)))
  (h:JL (Bc P false) (Stop P F .GO) b n (Az L d (.tuple #[])) ds (.inRegion ops rest::k) cs s):
  JL (Bc P false) (Stop P F .CY) b n L ds (.inRegion ops (i::rest)::k) cs s:=λT K=>by
 simp only[f5] at Z
 obtain⟨fn,ab,ae,hb,ag,he⟩:=he.h
 have ah:(args.map (⟨T,ds⟩:Act).eval)[0]?=some (.pointer (some F.mA)):=by rw[Pb K aj];simpa using ak
 refine(Bc P _).stop (FO.stop {
  run:=rfl,offers:=rfl,quiet:=(by simp[Fam.DU]),live:=λ_=>ai,act:=?_,Hn:=(by simp),EA:=?_,close:=(by simp),send:=(by simp),go:=(by simp),GY:=(by simp),recv:=(by simp)})
 .intro v wt sm v' wt' sm' es an O;simp only[Fam.act] at O;split at O
  .rename_i al;subst al;cases O;refine⟨_,λw U=>?_,rfl,h _ (K.put Z.2 _)⟩;let⟨_,c2,_,c4⟩:=HF U;rw[Cm Y,Cm Y];show stepG P false _ w=_;rw[stepG_semacquire (a:=⟨T,ds⟩) aa (Cd K hw) (by simpa using Z.1) rfl ab ae hb ag he (ad:=F.mA) ah c2 (by decide) c4,Gl];have am:(((1:Nat):Int) - 1)=((0:Nat):Int):=by decide
   rw[am,PT U]
  .cases O
 .intro _ w v wt U;let⟨_,c2,_,c4⟩:=HF U;rw[Cm Y];exact stepG_semacquire_wait (a:=⟨T,ds⟩) aa (Cd K hw) rfl ab ae hb ag he (ad:=F.mA) ah c2
theorem TY(Z:s.q=false)(U:ops[i]?=some ⟨d,.call ⟨.builtin .close,#[x],ats⟩,ty,pp,af,g⟩)(Y:b.roundOf=none)(hw:AQ L ops ⟨d,.call ⟨.builtin .close,#[x],ats⟩,ty,pp,af,g⟩=some true)(K:((b.kind != .early)&&A6 n d)=true)
  (aa:ev L x=some (.chan (some F.ch))) (ab:(P.funcs[b.fn]?).any (·.norace)=false)
  (h:JL (GF P) (Hl P 0) b n (Az L d (.tuple #[])) ds (.inRegion ops rest::k) cs .quiet):
  JL (Bc P false) (Stop P F .Dh) b n L ds (.inRegion ops (i::rest)::k) cs s:=λT O=>by
 simp only[f5] at K
 refine(Bc P _).stop (FO.stop {
  run:=rfl,offers:=rfl,quiet:=(by simp[Fam.DU]),live:=λ_=>Z,act:=(by simp[Fam.act]),Hn:=λ_=>(by simp[mayWake,G,fr,U]),EA:=(by simp),close:=λ_=>?_,send:=(by simp),go:=(by simp),GY:=(by simp),recv:=(by simp)})
 refine⟨_,?_,λw k' ae=>?_,L4 (h _ (O.put K.2 _))⟩;rfl;rw[Cm Y,Cm Y,stepG_close (a:=⟨T,ds⟩) U (Cd O hw) (by simpa using K.1) rfl (by rw[ET];exact O.ev aa) ae ab,Gl]
theorem UN{kk:Nat}{v:Value}(Z:s.q=false)(U:ops[i]?=some ⟨d,.send x y,ty,pp,af,g⟩)(aa:b.roundOf=none)(hw:AQ L ops ⟨d,.send x y,ty,pp,af,g⟩=some true)(O:((b.kind != .early)&&A6 n d)=true)
  (ab:ev L x=some (.chan (some F.ch))) (ae:ev L y=some v) (hm:F.msg kk v s.E)
  (h:JL (Bc P false) (Stop P F .CF) b n (Az L d undef) ds (.inRegion ops rest::k) cs s):
  JL (Bc P false) (Stop P F (.B7 kk)) b n L ds (.inRegion ops (i::rest)::k) cs s:=λT K=>by
 simp only[f5] at O
 have Y:execOp (A7 T) ⟨d,.send x y,ty,pp,af,g⟩=.pure (.comm #[scase F.ch v (.tuple #[])] true .send):=by
  simp[execOp,K.ev ab,K.ev ae,scase,pure]
 refine(Bc P _).stop (FO.stop {
  run:=rfl,offers:=rfl,quiet:=(by simp[Fam.DU]),live:=λ_=>Z,act:=(by simp[Fam.act]),Hn:=(by simp),EA:=(by simp),close:=(by simp),send:=λk' e=>?_,go:=(by simp),GY:=(by simp),recv:=(by simp)})
 cases e;refine⟨v,.tuple #[],hm,λw=>?_,?_⟩;have he:(⟨T,ds⟩:Act).eval=A7 T:=funext λx=>ET T ds x;rw[Cm aa,stepG_comm (a:=⟨T,ds⟩) (w':=w) U (Cd K hw) (by simpa using O.1) (by rw[he,Y];rfl),listed_none (by rw[he,Y];simp[Sem.events_pure'])]
 .have:Conc.served (G (fr b T ds (.inRegion ops (i::rest)::k)) cs) undef=G (fr b (Cb T d undef) ds (.inRegion ops rest::k)) cs:=by
   have:=Ei (b:=b) (ds:=ds) (k:=k) T ops i rest undef _ U;simp only[Conc.served,G,this]
  rw[this];exact h _ (K.put O.2 _)
end
end
variable{fi:Av_}{as:Lv_}
section
variable {P:Program}{F:Fam}{J:Judge P}{Q:GP}{n:Nat}{L L':Env}{ds:Ld_}{k:Li_}{cs:Lf_}{s s':St}{b:Frame}{main:Bool}
variable {rest:List Nat}{x:Operand}
theorem P7{o:Oper}(K:ops[i]?=some o)(v:Value):Conc.served (G (fr b T ds (.inRegion ops (i::rest)::k)) cs) v=G (fr b (Cb T o.dst v) ds (.inRegion ops rest::k)) cs:=by
 have:=Ei (b:=b) (ds:=ds) (k:=k) T ops i rest v _ K;simp only[Conc.served,G,this]
theorem KP(T:Av_)(ds:Ld_):(⟨T,ds⟩:Act).eval=A7 T:=funext λx=>ET T ds x
theorem Ux{ks:List Nat}{vs:Lv_}{K:Value}{dir:ChanDir}(ae:s.q=false)(Y:ops[i]?=some ⟨d,.recv t x true,ty,pp,af,g⟩)(ag:b.roundOf=none)(hw:AQ L ops ⟨d,.recv t x true,ty,pp,af,g⟩=some true)(O:((b.kind != .early)&&A6 n d)=true)
  (ah:ev L x=some (.chan (some F.ch))) (ai:P.underlying t=some (.chan dir e)) (aj:zeroOf P e=some K)
  (Z:∀kk v E',kk<F.n->F.has kk=true->kk ∉ ks->Le s.E E'->(∀b,E' b≠none->s.H b=none)->F.msg kk v E'->JL (Bc P true) (Stop P F (.BP (ks++ [kk]) (vs++ [v]))) b n (Az L d (.tuple #[v,.bool true])) ds (.inRegion ops rest::k) cs ⟨E',s.H,false⟩)
  (aa:(∀kk,kk<F.n->F.has kk=true->kk∈ks)->∀T,Has n (Az L d (.tuple #[K,.bool false])) T->F.fin (G (fr b T ds (.inRegion ops rest::k)) cs) s):
  JL (Bc P true) (Stop P F (.BP ks vs)) b n L ds (.inRegion ops (i::rest)::k) cs s:=λT U=>by
 simp only[f5] at O
 have ab:∀w,(execOp (A7 T) ⟨d,.recv t x true,ty,pp,af,g⟩).run P w=.ok (.comm #[rcase F.ch K] true (.recv true)) w/\listed P b.fn ⟨T,ds⟩ ⟨d,.recv t x true,ty,pp,af,g⟩ w=#[]:=by
  have ak:∀s,lp P (execOp (A7 T) ⟨d,.recv t x true,ty,pp,af,g⟩) s (λal s'=>al=.comm #[rcase F.ch K] true (.recv true)/\s'=s) (λ_ _=>False):=by
   intro s;unfold execOp;simp only;refine Av (x:=underlying t) _ (B6 ai ?_);simp only;refine Av (x:=zeroValue e) _ (Fh aj ?_);rw[U.ev ah];exact⟨rfl,rfl⟩
  let⟨es,Z,aa,am⟩:=Of _ (ak .quiet);rcases am with⟨a,⟨rfl,_⟩,an⟩ | ⟨_,ao,_⟩;intro w;refine⟨an w,?_⟩;unfold listed;rw[KP,Z];exact NM aa;exact ao.elim
 refine(Bc P _).stop (FO.stop {
  run:=rfl,offers:=rfl,quiet:=(by simp[Fam.DU]),live:=λ_=>ae,act:=(by simp[Fam.act]),Hn:=(by simp),EA:=(by simp),close:=(by simp),send:=(by simp),go:=(by simp),GY:=(by simp),recv:=λaz aA ap=>?_})
 cases ap;refine⟨K,λw=>?_,λkk v E' a1 aq ar au av aw=>?_,λay=>?_⟩;rw[Cm ag,stepG_comm (a:=⟨T,ds⟩) (w':=w) Y (Cd U hw) (by simpa using O.1) (by rw[KP];exact(ab w).1),(ab w).2];rw[P7 Y];exact Z kk v E' a1 aq ar au av aw _ (U.put O.2 _);rw[P7 Y];exact aa ay _ (U.put O.2 _)
theorem Qm{X:GP}{c:Code}{vs:Lv_}{caps args:Av_}(O:P.funcs[f]?=some fn)(Z:(fn.name== "runtime.NumGoroutine")=false)(hb:fn.body=some c)(aa:args++caps=vs.toArray)(ah:vs.length<=fn.ntmps)
  (h:JL (Bc P false) X (baseD f) fn.ntmps (EL 0 vs) [] [.code c] [Jj P] s):Way P false X (born P {target:=.fn (.func f) caps,args:=args}) s:=by
 have ab:¬fn.name= "runtime.NumGoroutine" :=by simpa using Z
 refine Judge.Cr (J:=Bc P false) V (λw=>?_) (h (vs.toArray++Array.replicate (fn.ntmps - vs.length) undef) ⟨by simp;omega,λt v ae=>?_⟩);show stepG P false _ w=_;have U:=enter_atD (P:=P) vs.toArray O hb;rw[Cm (b:=baseD f) rfl];simp only[mE] at U;simp[G,born,stepG,unwind,callDeferred,invoke,callFunc,O,ab,hb,GStep.after,seen_none,aa,Jj,U]
 .let⟨_,K⟩:=H4 ae;have ag:t<vs.length:=by
   rcases lb t vs.length with Y | Y;exact Y;simp at K;have:=(d0.1 K).1;omega
  rw[f4,lM (by simpa using ag)];simp at K;simp[K]
theorem Rg{args:Array Operand}{K:Go.Fn}{O:Av_}(U:Has n L T)(Y:ev L x=some (.func K fi O))(Z:evs L args.toList=some as):
  execOp (A7 T) ⟨d,.go ⟨.value x,args,ats⟩,ty,pp,af,g⟩=.pure (.spawn {target:=.fn K O,args:=fi++as.toArray}):=by
 have aa:args.map (A7 T)=as.toArray:=by
  rw[← ER U.El Z];apply lR;simp
 simp only[execOp,resolve,bind,Sem.bind,Deferred.ofValue,U.ev Y,pure,aa]
theorem JL.GY{args:Array Operand}{U:Av_}{Y:FuncId}(ab:s.q=false)(ae:ops[i]?=some ⟨d,.go ⟨.value x,args,ats⟩,ty,pp,af,g⟩)(Z:b.roundOf=none)(hw:AQ L ops ⟨d,.go ⟨.value x,args,ats⟩,ty,pp,af,g⟩=some true)(K:((b.kind != .early)&&A6 n d)=true)
  (ag:ev L x=some (.func (.func Y) fi U)) (ah:evs L args.toList=some as)
  (ai:Way P false (Stop P F .Cv) (born P {target:=.fn (.func Y) U,args:=fi++as.toArray}) ⟨s.E,λ_=>none,false⟩)
  (aj:JL (Bc P true) (Stop P F (.BP [] [])) b n (Az L d undef) ds (.inRegion ops rest::k) cs s):
  JL (Bc P true) (Stop P F .Fo) b n L ds (.inRegion ops (i::rest)::k) cs s:=λT O=>by
 simp only[f5] at K
 have aa:=Rg (d:=d) (ats:=ats) (ty:=ty) (pp:=pp) (af:=af) (g:=g) O ag ah
 refine(Bc P _).stop (FO.stop {
  run:=rfl,offers:=rfl,quiet:=(by simp[Fam.DU]),live:=λ_=>ab,act:=(by simp[Fam.act]),Hn:=(by simp),EA:=(by simp),close:=(by simp),send:=(by simp),go:=(by simp),GY:=λ_=>?_,recv:=(by simp)})
 refine⟨G (fr b (Cb T d undef) ds (.inRegion ops rest::k)) cs,_,rfl,rfl,λw=>?_,ai,aj _ (O.put K.2 _)⟩
 rw[Cm Z,Cm Z,stepG_spawn (a:=⟨T,ds⟩) (w':=w) ae (Cd O hw) (by simpa using K.1) (by rw[KP,aa];rfl) rfl,listed_none (by rw[KP,aa];simp[Sem.events_pure']),Gl]
theorem JO.Q0{j:Nat}(Y:s.q=false)(K:b.roundOf=none)(he:CZ P f (λ_=>do mark .enable;pure Extern.Race.none_))
  (h:JO (Bc P true) (Stop P F (.Fb j)) b n L ds cs s):JO (Bc P true) (Stop P F (.Ga j)) b n L (dcall f #[]::ds) cs s:=λT Z todo=>by
 obtain⟨fn,aa,ab,hb,ae,he⟩:=he.h
 refine(Bc P _).stop (HD rfl rfl rfl Y (by simp) λv wt sm v' wt' sm' es ah O=>?_)
 simp only[Fam.act] at O
 cases O
 refine⟨G (Di b T ds todo) cs,λw ag=>?_,rfl,h T Z todo⟩
 rw[J1 K,J1 K,J4 ag]
 exact stepG_unwind_entry (a:=⟨T,dcall f #[]::ds⟩) (v:=.tuple #[]) (evs:=#[Fam.Em .enable]) rfl aa ab hb ae he (by simp[Extern.Race.none_]) (by simp;rfl) (by
  intro x U
  simp at U
  subst U
  exact⟨rfl,λg h=>by cases h⟩)
theorem JO.MN(K:b.roundOf=none)(he:CZ P f (λ_=>do mark .enable;pure Extern.Race.none_))
  (h:JO (GF P) (Hl P 0) b n L ds cs .quiet):JO (GF P) (Hl P 1) b n L (dcall f #[]::ds) cs .quiet:=λT U todo=>by
 obtain⟨fn,Y,Z,hb,aa,he⟩:=he.h
 refine(GF P).stop ?_
 let⟨q,O⟩:=L4 (h T U todo)
 rw[J1 K] at O
 rw[J1 K]
 exact⟨q+1,QuitsD.unwind_mark (a:=⟨T,dcall f #[]::ds⟩) .enable rfl (by simp) rfl Y Z hb aa he O⟩
end
open Go.Conc.Lib Go.ConcR.Gen
theorem Fi{P:Program}{t:TypeId}{n:Nat}(h:∀w,Sem.run P (Go.sizeOf t) w=.ok n w):A5 P t=some n:=by
 have K:=h default;unfold A5;simp only[Go.sizeOf,typeInfo,bind,Sem.bind,program,Sem.run] at K;cases hi:P.info? t with
 | none=>rw[hi] at K;simp[stuck,Sem.run,Sem.bind] at K
 | some i=>
  rw[hi] at K;simp[pure,Sem.bind,Sem.run] at K;simp[K]
section
variable {L:WgLink}(H:WgLib P L)
include H
theorem NR:CZ P L.disable (λ_=>do mark .disable;pure Extern.Race.none_):=⟨⟨_,H.f_disable,x_disable_n L,x_disable_b L,x_disable_x L,x_disable_f L⟩⟩
theorem Ix:CZ P L.enable (λ_=>do mark .enable;pure Extern.Race.none_):=⟨⟨_,H.f_enable,x_enable_n L,x_enable_b L,x_enable_x L,x_enable_f L⟩⟩
theorem SJ:CZ P L.relMerge (Extern.Race.marked .releaseMerge):=⟨⟨_,H.f_relMerge,x_relMerge_n L,x_relMerge_b L,x_relMerge_x L,x_relMerge_f L⟩⟩
theorem PD:CZ P L.acquire (Extern.Race.marked .acquire):=⟨⟨_,H.f_acquire,x_acquire_n L,x_acquire_b L,x_acquire_x L,x_acquire_f L⟩⟩
theorem Vj:CZ P L.raceRead (Extern.Race.marked .read):=⟨⟨_,H.f_raceRead,x_raceRead_n L,x_raceRead_b L,x_raceRead_x L,x_raceRead_f L⟩⟩
theorem TG:CZ P L.raceWrite (Extern.Race.marked .write):=⟨⟨_,H.f_raceWrite,x_raceWrite_n L,x_raceWrite_b L,x_raceWrite_x L,x_raceWrite_f L⟩⟩
theorem QM:CZ P L.addU64 (Extern.Atomic.update (Op.intArith .add) .u64 true):=⟨⟨_,H.f_addU64,x_addU64_n L,x_addU64_b L,x_addU64_x L,x_addU64_f L⟩⟩
theorem UB:CZ P L.loadU64 (Extern.Atomic.loadT (.int .u64)):=⟨⟨_,H.f_loadU64,x_loadU64_n L,x_loadU64_b L,x_loadU64_x L,x_loadU64_f L⟩⟩
theorem TX:CZ P L.storeU64 Extern.Atomic.storeT:=⟨⟨_,H.f_storeU64,x_storeU64_n L,x_storeU64_b L,x_storeU64_x L,x_storeU64_f L⟩⟩
theorem VI:CZ P L.casU64 (Extern.Atomic.casT (.int .u64)):=⟨⟨_,H.f_casU64,x_casU64_n L,x_casU64_b L,x_casU64_x L,x_casU64_f L⟩⟩
theorem Ua:CZ P L.semrelease Extern.Sync.semrelease:=⟨⟨_,H.f_semrelease,x_semrelease_n L,x_semrelease_b L,x_semrelease_x L,x_semrelease_f L⟩⟩
theorem SM:CZ P L.semacquire Extern.Sync.semacquire:=⟨⟨_,H.f_semacquire,x_semacquire_n L,x_semacquire_b L,x_semacquire_x L,x_semacquire_f L⟩⟩
theorem PU:CZ P L.inBubble (λ_=>pure (.bool false)):=⟨⟨_,H.f_inBubble,x_inBubble_n L,x_inBubble_b L,x_inBubble_x L,x_inBubble_f L⟩⟩
end
variable {tw:TypeId}
section
variable {P:Program}{F:Fam}{J:Judge P}{Q:GP}{n:Nat}{L L':Env}{ds:Ld_}{k:Li_}{cs:Lf_}{s s':St}{b:Frame}{main:Bool}
variable {rest:List Nat}{x:Operand}
theorem Yl.to{o:Oper}{ρ:Operand->Value}{v v':Value}(h:Yl P o ρ s v)(e:v=v'):Yl P o ρ s v':=e▸h
theorem K0(aj:J8 p=true)(ak:if Fam.DU p=true then s=.quiet else s.q=false)(al:p≠ .Et)(am:∀v wt sm,F.act p v wt sm=some ((v,wt,sm),#[],.ph q))(an:Fam.GZ p s=s)
  (ao:ops[i]?=some ⟨d,.convert t u x,ty,pp,af,g⟩) (U:b.roundOf=none) (hw:AQ L ops ⟨d,.convert t u x,ty,pp,af,g⟩=some true) (K:((b.kind != .early)&&A6 n d)=true)
  (Y:P.underlying t=some (.pointer tw)) (hu:P.underlying u=some .unsafePointer) (Z:(P.info? tw).map (λi=>decide (i.size=0))=some false) (ap:ev L x=some (.pointer (some ad))) (hb:ad=F.sA∨ad=F.mA)
  (h:JL (Bc P (Fam.C5 p)) (Stop P F q) b n (Az L d (.pointer (some ad))) ds (.inRegion ops rest::k) cs s):
  JL (Bc P (Fam.C5 p)) (Stop P F p) b n L ds (.inRegion ops (i::rest)::k) cs s:=λT O=>by
 simp only[f5] at K
 refine(Bc P _).stop (HD aj rfl rfl ak (λe=>absurd e al) λv wt sm v' wt' sm' es ar aa=>?_)
 rw[am] at aa;cases aa
 refine⟨_,λw ab=>?_,rfl,by rw[an];exact h _ (O.put K.2 _)⟩
 obtain⟨ae,ag⟩:∃ae,w.cell? ad=some ae:=by
  let⟨c1,c2,_,_⟩:=HF ab;rcases hb with e | e<;>rw[e];exact⟨_,c1⟩;exact⟨_,c2⟩
 have ah:=run_convert_to_unsafe (P:=P) (w:=w) Y hu Z ag;have aq:=events_convert_to_unsafe (P:=P) (w:=w) Y hu Z ag;have ai:execOp (⟨T,ds⟩:Act).eval ⟨d,.convert t u x,ty,pp,af,g⟩=(do pure (Next.value (← Go.convert t u (.pointer (some ad))))):=by
  rw[KP];simp only[execOp,O.ev ap]
 rw[Cm U,Cm U,stepG_value (a:=⟨T,ds⟩) (v:=.pointer (some ad)) (w':=w) ao (Cd O hw) (by simpa using K.1) (by rw[ai];simp[ah,Result.andThen]),J4 ab,Gl];have e2:listed P b.fn ⟨T,ds⟩ ⟨d,.convert t u x,ty,pp,af,g⟩ w=#[]:=by
  unfold listed;rw[ai];simp[ah,aq,Result.evThen,seen_none]
 rw[e2]
end
section
variable {P:Program}{F:Fam}{J:Judge P}{Q:GP}{n:Nat}{L L':Env}{ds:Ld_}{k:Li_}{cs:Lf_}{s s':St}{b:Frame}{main:Bool}
variable {rest:List Nat}{x:Operand}
def YW(P:Program)(b:Frame)(n:Nat)(L:Env)(d:Option Tmp)(ds:Ld_)(todo:Li_)(cs:Lf_)(O:Frame):Prop:=
 ∀(K:Judge P) (Q':GP) (v:Value) (s':St),JL K Q' b n (Az L d v) ds todo cs s'->K.ok Q' (G (O.finish v) cs) s'
theorem IB{c:Code}(Y:ops[i]?=some ⟨d,.call ⟨.value (.func f),args,ats⟩,ty,pp,af,g⟩)(hw:AQ L ops ⟨d,.call ⟨.value (.func f),args,ats⟩,ty,pp,af,g⟩=some true)(O:((b.kind != .early)&&A6 n d)=true)
  (Z:P.funcs[f]?=some fn) (ae:(fn.name== "runtime.NumGoroutine")=false) (hb:fn.body=some c) (ag:evs L args.toList=some vs) (an:vs.length<=fn.ntmps)
  (h:∀aa:Frame,YW P b n L d ds (.inRegion ops rest::k) cs aa->JL J Q (base f) fn.ntmps (EL 0 vs) [] [.code c] (aa::cs) s):
  JL J Q b n L ds (.inRegion ops (i::rest)::k) cs s:=λT U=>by
 simp only[f5] at O
 have ah:args.map (A7 T)=vs.toArray:=by
  rw[← ER U.El ag];apply lR;simp
 refine Judge.oper Y (Cd U hw) (by simpa using O.1) (.inr λc ai=>by cases ai) ?_;have aj:Cz P f=true:=by unfold Cz;rw[Z];simp[ae,hb]
 have hd:lp P (execOp (A7 T) ⟨d,.call ⟨.value (.func f),args,ats⟩,ty,pp,af,g⟩) s (upon J Q b T ds ops i rest k cs d) (IN J Q b T ds ops i rest k cs):=by
  simp only[execOp,resolve,bind,Sem.bind,Deferred.ofValue,A7,pure,invoke];have e: #[]++args.map (A7 T)++ #[]=vs.toArray:=by rw[ah];simp
  rw[e];refine H2 aj ?_;have he:Frame.enter P f vs.toArray .normal=fr (base f) (vs.toArray++Array.replicate (fn.ntmps - vs.length) undef) [] [.code c]:=by
   simp[Frame.enter,fr,Z,hb,base];rfl
  show J.ok Q (G (Frame.enter P f vs.toArray .normal) _) s;rw[he];refine h _ (λao Q' v s' ak=>?_) _ ⟨by simp;omega,λt v al=>?_⟩;rw[Ei (o:=⟨d,.call ⟨.value (.func f),args,ats⟩,ty,pp,af,g⟩) _ _ _ _ _ Y];exact ak _ (U.put O.2 v)
  .let⟨_,K⟩:=H4 al;have am:t<vs.length:=by
    rcases lb t vs.length with ab | ab;exact ab;simp at K;have:=(d0.1 K).1;omega
   rw[f4,lM (by simpa using am)];simp at K;simp[K]
 exact hd
theorem Yl.ext{e:Av_->Sem Value}{v:Value}{ρ:Operand->Value}(he:CZ P f e)(O:args.map ρ=vs.toArray)(h:e vs.toArray=.pure v):Yl P ⟨d,.call ⟨.value (.func f),args,ats⟩,ty,pp,af,g⟩ ρ s v∨ρ (.func f)≠ .func (.func f) #[] #[]:=by
 by_cases K:ρ (.func f)=.func (.func f) #[] #[]
 .left;obtain⟨fn,U,Y,Z,aa,ab⟩:=he.h;unfold Yl;simp only[execOp,resolve,bind,Sem.bind,Deferred.ofValue,K,pure,invoke];have ae: #[]++args.map ρ++ #[]=vs.toArray:=by rw[O];simp
  rw[ae];have ag:fn.body=none:=by simpa using Z
  simp only[callFunc,bind,Sem.bind,program,lp,U,Y,ag,Option.isNone_none,ld,lK,lQ,mark,aa,ab,h,pure];exact⟨.inr ⟨f,V⟩,trivial,trivial⟩
 .exact .inr K
theorem JL.ext{e:Av_->Sem Value}{v:Value}(O:ops[i]?=some ⟨d,.call ⟨.value (.func f),args,ats⟩,ty,pp,af,g⟩)(hw:AQ L ops ⟨d,.call ⟨.value (.func f),args,ats⟩,ty,pp,af,g⟩=some true)(U:BH b n ⟨d,.call ⟨.value (.func f),args,ats⟩,ty,pp,af,g⟩=true)
  (he:CZ P f e) (Y:evs L args.toList=some vs) (Z:e vs.toArray=.pure v) (h:JL J Q b n (Az L d v) ds (.inRegion ops rest::k) cs s):JL J Q b n L ds (.inRegion ops (i::rest)::k) cs s:=
 Aj O hw U (λρ K=>by
  have aa:args.map ρ=vs.toArray:=by
   rw[← ER K Y]
   apply lR;simp
  rcases Yl.ext (s:=s) (d:=d) (ats:=ats) (ty:=ty) (pp:=pp) (af:=af) (g:=g) he aa Z with q | q;exact q
  .exact absurd (K (.func f) _ rfl) q) h
end
section
variable {P:Program}{L:WgLink}(H:WgLib P L){F:Fam}{n:Nat}{M:Env}{ds:Ld_}{k:Li_}{cs:Lf_}{s:St}{b:Frame}
variable {rest:List Nat}{x:Operand}
include H
theorem Vd(K:ops[i]?=some ⟨d,.call ⟨.value (.func L.uAdd),#[x,y],ats⟩,ty,pp,af,g⟩)(hw:AQ M ops ⟨d,.call ⟨.value (.func L.uAdd),#[x,y],ats⟩,ty,pp,af,g⟩=some true)(O:((b.kind != .early)&&A6 n d)=true)
  (U:ev M x=some (.pointer (some F.sA))) (Y:ev M y=some (.int .u64 18446744069414584320))
  (Z:JL (Bc P false) (Stop P F .Gp) b n (Az M d (.int .u64 (Fam.word 0 1))) ds (.inRegion ops rest::k) cs .quiet)
  (aa:∀v wt:Nat,v<2147483647->wt<=1->¬(v=0/\wt=1)->JL (GF P) (Hl P 1) b n (Az M d (.int .u64 (Fam.word v wt))) ds (.inRegion ops rest::k) cs .quiet):
  JL (Bc P false) (Stop P F .Hm) b n M ds (.inRegion ops (i::rest)::k) cs .quiet:=by
 refine IB (vs:=[.pointer (some F.sA),.int .u64 18446744069414584320]) K hw O H.f_uAdd (nm_uAdd L) V (by simp[evs,U,Y]) (f7 V) λah back=>JL.seq (JL.region ?_);refine Aj V V V (λρ h=>Yl.assign (h _ _ V)) (JL.done ?_);refine JL.seq (JL.region ?_);refine Aj V V V (λρ h=>Yl.move (h _ _ V)) (Aj V V V (λρ h=>Yl.nilCheck (h _ _ V)) ?_);refine Aj V V V (λρ h=>Yl.fieldAddr H.underlying_tAU V (Fi H.sizeOf_tU64) (h _ _ V)) (Aj V V V (λρ h=>Yl.move (h _ _ V)) ?_);refine Wu V V V V (QM H) V V ?_ λv wt ab ae ag=>?_;refine Aj V V V (λρ h=>Yl.assign (h _ _ V)) (JL.done ?_);exact JL.ret V V (Bq.one H.f_uAdd V V) (back _ _ _ _ Z);refine Aj V V V (λρ h=>Yl.assign (h _ _ V)) (JL.done ?_);exact JL.ret V V (Bq.one H.f_uAdd V V) (back _ _ _ _ (aa v wt ab ae ag))
theorem Ur{j:Nat}(K:s.q=false)(O:ops[i]?=some ⟨d,.call ⟨.value (.func L.uAdd),#[x,y],ats⟩,ty,pp,af,g⟩)(hw:AQ M ops ⟨d,.call ⟨.value (.func L.uAdd),#[x,y],ats⟩,ty,pp,af,g⟩=some true)(U:((b.kind != .early)&&A6 n d)=true)
  (Y:ev M x=some (.pointer (some F.sA))) (Z:ev M y=some (.int .u64 4294967296))
  (aa:JL (Bc P true) (Stop P F (.Hu j)) b n (Az M d (.int .u64 (Fam.word 1 0))) ds (.inRegion ops rest::k) cs s)
  (ab:∀v:Nat,1<=v->v<2147483647->JL (Bc P true) (Stop P F (.Ga j)) b n (Az M d (.int .u64 (Fam.word (v+1) 0))) ds (.inRegion ops rest::k) cs s):
  JL (Bc P true) (Stop P F (.HS j)) b n M ds (.inRegion ops (i::rest)::k) cs s:=by
 refine IB (vs:=[.pointer (some F.sA),.int .u64 4294967296]) O hw U H.f_uAdd (nm_uAdd L) V (by simp[evs,Y,Z]) (f7 V) λah back=>JL.seq (JL.region ?_);refine Aj V V V (λρ h=>Yl.assign (h _ _ V)) (JL.done ?_);refine JL.seq (JL.region ?_);refine Aj V V V (λρ h=>Yl.move (h _ _ V)) (Aj V V V (λρ h=>Yl.nilCheck (h _ _ V)) ?_);refine Aj V V V (λρ h=>Yl.fieldAddr H.underlying_tAU V (Fi H.sizeOf_tU64) (h _ _ V)) (Aj V V V (λρ h=>Yl.move (h _ _ V)) ?_);refine WC K V V V V (QM H) V V ?_ λv ae ag=>?_;refine Aj V V V (λρ h=>Yl.assign (h _ _ V)) (JL.done ?_);exact JL.ret V V (Bq.one H.f_uAdd V V) (back _ _ _ _ aa);refine Aj V V V (λρ h=>Yl.assign (h _ _ V)) (JL.done ?_);exact JL.ret V V (Bq.one H.f_uAdd V V) (back _ _ _ _ (ab v ae ag))
theorem JL.uLoad(K:J8 p=true)(O:if Fam.DU p=true then s=.quiet else s.q=false)(U:p≠ .Et)(Y:Fam.GZ p s=s)(Z:∀v wt sm r,F.act p v wt sm=some r->r.1=(v,wt,sm)/\r.2.1=#[Fam.Fc F.sA])(aa:ops[i]?=some ⟨d,.call ⟨.value (.func L.uLoad),#[x],ats⟩,ty,pp,af,g⟩)(hw:AQ M ops ⟨d,.call ⟨.value (.func L.uLoad),#[x],ats⟩,ty,pp,af,g⟩=some true)(ab:((b.kind != .early)&&A6 n d)=true)
  (ae:ev M x=some (.pointer (some F.sA)))
  (h:∀v wt sm r,F.act p v wt sm=some r->∃q,r.2.2=.ph q/\JL (Bc P (Fam.C5 p)) (Stop P F q) b n (Az M d (.int .u64 (Fam.word v wt))) ds (.inRegion ops rest::k) cs s):
  JL (Bc P (Fam.C5 p)) (Stop P F p) b n M ds (.inRegion ops (i::rest)::k) cs s:=by
 refine IB (vs:=[.pointer (some F.sA)]) aa hw ab H.f_uLoad (nm_uLoad L) V (by simp[evs,ae]) (f7 V) λaj back=>JL.seq (JL.region ?_);refine Aj V V V (λρ h=>Yl.assign (h _ _ V)) (JL.done ?_);refine JL.seq (JL.region ?_);refine Aj V V V (λρ h=>Yl.move (h _ _ V)) (Aj V V V (λρ h=>Yl.nilCheck (h _ _ V)) ?_);refine Aj V V V (λρ h=>Yl.fieldAddr H.underlying_tAU V (Fi H.sizeOf_tU64) (h _ _ V)) (Xp K O U Y Z V V V V (UB H) V λv wt sm r ag=>?_);let⟨q,ah,ai⟩:=h v wt sm r ag;refine⟨q,ah,?_⟩;refine Aj V V V (λρ h=>Yl.assign (h _ _ V)) (JL.done ?_);exact JL.ret V V (Bq.one H.f_uLoad V V) (back _ _ _ _ ai)
theorem JL.uStore(K:ops[i]?=some ⟨d,.call ⟨.value (.func L.uStore),#[x,y],ats⟩,ty,pp,af,g⟩)(hw:AQ M ops ⟨d,.call ⟨.value (.func L.uStore),#[x,y],ats⟩,ty,pp,af,g⟩=some true)(O:((b.kind != .early)&&A6 n d)=true)
  (U:ev M x=some (.pointer (some F.sA))) (Y:ev M y=some (.int .u64 0))
  (h:JL (Bc P false) (Stop P F .Et) b n (Az M d (.tuple #[])) ds (.inRegion ops rest::k) cs .quiet):
  JL (Bc P false) (Stop P F .GN) b n M ds (.inRegion ops (i::rest)::k) cs .quiet:=by
 refine IB (vs:=[.pointer (some F.sA),.int .u64 0]) K hw O H.f_uStore (nm_uStore L) V (by simp[evs,U,Y]) (f7 V) λZ back=>JL.region (Aj V V V (λρ h=>Yl.move (h _ _ V)) ?_);refine Aj V V V (λρ h=>Yl.nilCheck (h _ _ V)) (Aj V V V (λρ h=>Yl.fieldAddr H.underlying_tAU V (Fi H.sizeOf_tU64) (h _ _ V)) ?_);refine Aj V V V (λρ h=>Yl.move (h _ _ V)) (XA V V V V (TX H) V V ?_);exact JL.done (JL.fin V V (Bq.none H.f_uStore V) (back _ _ _ _ h))
theorem JL.uCas{m:Nat}(K:s.q=false)(O:ops[i]?=some ⟨d,.call ⟨.value (.func L.uCas),#[x,y,z],ats⟩,ty,pp,af,g⟩)(hw:AQ M ops ⟨d,.call ⟨.value (.func L.uCas),#[x,y,z],ats⟩,ty,pp,af,g⟩=some true)(U:((b.kind != .early)&&A6 n d)=true)
  (Y:ev M x=some (.pointer (some F.sA))) (Z:ev M y=some (.int .u64 (Fam.word m 0))) (aa:ev M z=some (.int .u64 (Fam.word m 1)))
  (ab:JL (Bc P false) (Stop P F .HU) b n (Az M d (.bool true)) ds (.inRegion ops rest::k) cs s)
  (ae:JL (Bc P false) (Stop P F (.FI (m - 1))) b n (Az M d (.bool false)) ds (.inRegion ops rest::k) cs s):
  JL (Bc P false) (Stop P F (.Ho m)) b n M ds (.inRegion ops (i::rest)::k) cs s:=by
 refine IB (vs:=[.pointer (some F.sA),.int .u64 (Fam.word m 0),.int .u64 (Fam.word m 1)]) O hw U H.f_uCas (nm_uCas L) V (by simp[evs,Y,Z,aa]) (f7 V) λag back=>JL.seq (JL.region ?_);refine Aj V V V (λρ h=>Yl.assign (h _ _ V)) (JL.done ?_);refine JL.seq (JL.region ?_);refine Aj V V V (λρ h=>Yl.move (h _ _ V)) (Aj V V V (λρ h=>Yl.nilCheck (h _ _ V)) ?_);refine Aj V V V (λρ h=>Yl.fieldAddr H.underlying_tAU V (Fi H.sizeOf_tU64) (h _ _ V)) (Aj V V V (λρ h=>Yl.move (h _ _ V)) ?_);refine Aj V V V (λρ h=>Yl.move (h _ _ V)) (WQ (m:=m) K V V V V (VI H) V V V ?_ ?_);refine Aj V V V (λρ h=>Yl.assign (h _ _ V)) (JL.done ?_);exact JL.ret V V (Bq.one H.f_uCas V V) (back _ _ _ _ ab);refine Aj V V V (λρ h=>Yl.assign (h _ _ V)) (JL.done ?_);exact JL.ret V V (Bq.one H.f_uCas V V) (back _ _ _ _ ae)
end
theorem Kb{v wt:Nat}(K:v<2147483648)(O:wt<=1):IntKind.u64.wrap (BitVec.ofInt IntKind.u64.bits (Fam.word v wt)&&& BitVec.ofInt IntKind.u64.bits 2147483648).toNat=0:=by
 have:=Go.ConcN.st_flag v wt K O;simpa [bits,Fam.word,Fam.KK] using this
theorem Kj{v wt:Nat}(K:v<2147483648)(O:wt<=1):IntKind.u64.wrap (BitVec.ofInt IntKind.u64.bits (Fam.word v wt)&&& BitVec.ofInt IntKind.u64.bits 2147483647).toNat=(wt:Int):=by
 have:=Go.ConcN.st_waiters v wt K O;simpa [bits,Fam.word,Fam.KK] using this
theorem J0{v wt:Nat}(K:wt<=1):(Fam.word v wt).fdiv (2^(min (32:Int).toNat IntKind.u64.bits))=(v:Int):=by
 have e:(2:Int)^(min (32:Int).toNat IntKind.u64.bits)=4294967296:=by decide
 rw[e,nI _ (by decide)];simp only[Fam.word,Fam.KK];omega
theorem wrap_i32{v:Nat}(K:v<2147483648):IntKind.i32.wrap (v:Int)=v:=by
 simp only[IntKind.wrap,IntKind.bits,IntKind.signed];simp;split<;>omega
theorem wrap_u32{v:Nat}(K:v<=1):IntKind.u32.wrap (v:Int)=v:=by
 simp only[IntKind.wrap,IntKind.bits,IntKind.signed];simp;omega
theorem TH{F:Fam}:∀v wt sm r,F.act .Gp v wt sm=some r->r.1=(v,wt,sm)/\r.2.1=#[Fam.Fc F.sA]:=by
 intro v wt sm r h;simp only[Fam.act] at h;split at h;rename_i K;obtain⟨rfl,rfl⟩:=K;cases h;exact⟨V,V⟩;cases h
theorem UH{F:Fam}{v wt:Nat}{r}(h:F.act .Gp v wt sm=some r):v=0/\wt=1/\r.2.2=.ph .GN:=by
 simp only[Fam.act] at h;split at h;rename_i K;cases h;exact⟨K.1,K.2,V⟩;cases h
section
variable {P:Program}{L:WgLink}(H:WgLib P L){F:Fam}{n:Nat}{M:Env}{ds:Ld_}{k:Li_}{cs:Lf_}{s:St}{b:Frame}
variable {rest:List Nat}{x:Operand}
include H
theorem TV(U:s.q=false)(Y:ops[i]?=some ⟨d,.call ⟨.value (.func L.add),#[x,y],ats⟩,ty,pp,af,g⟩)(hw:AQ M ops ⟨d,.call ⟨.value (.func L.add),#[x,y],ats⟩,ty,pp,af,g⟩=some true)(Z:((b.kind != .early)&&A6 n d)=true)
  (aa:ev M x=some (.pointer (some F.sA))) (ab:ev M y=some (.int .i64 (-1)))
  (h:JL (GF P) (Hl P 0) b n (Az M d (.tuple #[])) ds (.inRegion ops rest::k) cs .quiet):
  JL (Bc P false) (Stop P F .CF) b n M ds (.inRegion ops (i::rest)::k) cs s:=by
 refine IB (vs:=[.pointer (some F.sA),.int .i64 (-1)]) Y hw Z H.f_add (nm_add L) V (by simp[evs,aa,ab]) (f7 V) λag back=>JL.seq (EP V ?_);refine JL.seq (JL.seq ?_);refine JL.region (Aj V V V (λρ h=>Yl.move (h _ _ V)) ?_);refine Aj V V V (λρ h=>Yl.lss (h _ _ V) (h _ _ V)) (JL.done ?_);refine EP V (JL.region ?_);refine Aj V V V (λρ h=>Yl.move (h _ _ V)) (K0 (p:=.CF) (q:=.Gr) (ad:=F.sA) V U (by simp) (λ_ _ _=>V) V V V V V H.underlying_tWgP H.underlying_tUP H.room_tWg V (.inl V) ?_)
 refine KR (p:=.Gr) (q:=.Ii) (mk:=.releaseMerge) (ad:=F.sA) (vs:=[.pointer (some F.sA)]) V U (by simp) (λ_ _ _=>V) V V V V (by simp) (SJ H) V V (JL.done ?_);refine JL.seq (JL.region ?_);refine KV (p:=.Ii) (q:=.Hm) V V (by simp) (λ_ _ _=>V) V V V V V (by simp) (NR H) (JL.done ?_);refine JL.region (JL.defer (vs:=[]) V V V V V ?_);refine JL.done (JL.seq ?_);refine JL.region (Aj V V V (λρ h=>Yl.assign (h _ _ V)) ?_);refine JL.done (JL.seq ?_);refine JL.seq (JL.region ?_);refine JL.ext (vs:=[]) V V V (PU H) V V (JL.done ?_);refine Cx V (JL.skip ?_);refine JL.seq (JL.region ?_);refine Aj V V V (λρ h=>Yl.move (h _ _ V)) (Aj V V V (λρ h=>Yl.nilCheck (h _ _ V)) ?_);refine Aj V V V (λρ h=>Yl.fieldAddr H.underlying_tWg V (Fi H.sizeOf_tAU) (h _ _ V)) (Aj V V V (λρ h=>Yl.move (h _ _ V)) ?_);refine Aj V V V (λρ h=>Ek H.underlying_t3 H.underlying_tU64 (h _ _ V)) ?_
 refine Aj (v:=.int .u64 18446744069414584320) V V V (λρ h=>(Yl.shl (h _ _ V) (h _ _ V) (by decide)).to (lq _ (by decide))) (Vd H V V V V V ?_ λv wt ah K ai=>?_)
 .refine Aj V V V (λρ h=>Yl.assign (h _ _ V)) (JL.done ?_);refine JL.seq (JL.seq ?_);refine JL.region (Aj V V V (λρ h=>Yl.move (h _ _ V)) ?_);refine Aj (v:=.int .u64 0) V V V (λρ h=>(Yl.and (h _ _ V) (h _ _ V)).to (lq _ (Kb (v:=0) (wt:=1) (by decide) (by decide)))) (Aj V V V (λρ h=>Yl.neq (h _ _ V) (h _ _ V)) ?_);refine Aj V V V (λρ h=>Yl.move (h _ _ V)) (Bw V V V ?_);refine Bw V V V (Aj V V V (λρ h=>Er (h _ _ V) (h _ _ V)) ?_);refine JL.done (Cx V ?_);refine JL.skip (JL.seq ?_);refine JL.region (Aj V V V (λρ h=>Yl.move (h _ _ V)) ?_);refine Aj (v:=.int .u64 (0:Nat)) V V V (λρ h=>(Yl.shr (h _ _ V) (h _ _ V) (by decide)).to (lq _ (J0 (v:=0) (wt:=1) (by decide)))) (Aj (v:=.int .i32 (0:Nat)) V V V (λρ h=>(Ek H.underlying_tU64 H.underlying_t21 (h _ _ V)).to (lq _ (wrap_i32 (by decide)))) ?_)
  refine Aj V V V (λρ h=>Yl.assign (h _ _ V)) (JL.done ?_);refine JL.seq (JL.region ?_);refine Aj V V V (λρ h=>Yl.move (h _ _ V)) (Aj (v:=.int .u64 (1:Nat)) V V V (λρ h=>(Yl.and (h _ _ V) (h _ _ V)).to (lq _ (Kj (v:=0) (wt:=1) (by decide) (by decide)))) ?_);refine Aj (v:=.int .u32 (1:Nat)) V V V (λρ h=>(Ek H.underlying_tU64 H.underlying_tU32 (h _ _ V)).to (lq _ (wrap_u32 (by decide)))) ?_
  refine Aj V V V (λρ h=>Yl.assign (h _ _ V)) (JL.done ?_);refine JL.seq (JL.seq ?_);refine JL.region (Aj V V V (λρ h=>Yl.move (h _ _ V)) ?_);refine Aj V V V (λρ h=>Yl.move (h _ _ V)) (Aj V V V (λρ h=>Yl.gtr (h _ _ V) (h _ _ V)) ?_);refine Aj V V V (λρ h=>FG (h _ _ V) (h _ _ V)) (Aj V V V (λρ h=>Yl.move (h _ _ V)) ?_);refine Bw V V V (Bw V V V ?_);refine Bw V V V (Bw V V V ?_);refine Aj V V V (λρ h=>Er (h _ _ V) (h _ _ V)) (JL.done ?_);refine Cx V (JL.skip ?_);refine JL.seq (JL.seq ?_);refine JL.region (Aj V V V (λρ h=>Yl.move (h _ _ V)) ?_);refine Aj V V V (λρ h=>Yl.lss (h _ _ V) (h _ _ V)) (JL.done ?_);refine Cx V (JL.skip ?_);refine JL.seq (JL.seq ?_);refine JL.region (Aj V V V (λρ h=>Yl.move (h _ _ V)) ?_);refine Aj V V V (λρ h=>Yl.neq (h _ _ V) (h _ _ V)) (Aj V V V (λρ h=>Yl.move (h _ _ V)) ?_);refine Aj V V V (λρ h=>Yl.move (h _ _ V)) (Aj V V V (λρ h=>Yl.gtr (h _ _ V) (h _ _ V)) ?_);refine Aj V V V (λρ h=>FG (h _ _ V) (h _ _ V)) (Aj V V V (λρ h=>Yl.move (h _ _ V)) ?_);refine Bw V V V (Bw V V V ?_);refine Bw V V V (Bw V V V ?_);refine Aj V V V (λρ h=>Er (h _ _ V) (h _ _ V)) (JL.done ?_);refine Cx V (JL.skip ?_);refine JL.seq (JL.seq ?_);refine JL.region (Aj V V V (λρ h=>Yl.move (h _ _ V)) ?_);refine Aj V V V (λρ h=>Yl.gtr (h _ _ V) (h _ _ V)) (Aj V V V (λρ h=>Yl.move (h _ _ V)) ?_);refine Aj V V V (λρ h=>Yl.move (h _ _ V)) (Aj V V V (λρ h=>Yl.eql (h _ _ V) (h _ _ V)) ?_);refine Aj V V V (λρ h=>Er (h _ _ V) (h _ _ V)) (JL.done ?_);refine Cx V (JL.skip ?_);refine JL.seq (JL.seq ?_);refine JL.region (Aj V V V (λρ h=>Yl.move (h _ _ V)) ?_);refine Aj V V V (λρ h=>Yl.nilCheck (h _ _ V)) (Aj V V V (λρ h=>Yl.fieldAddr H.underlying_tWg V (Fi H.sizeOf_tAU) (h _ _ V)) ?_);refine JL.uLoad H (p:=.Gp) V V (by simp) V TH V V V V λv wt sm r ae=>?_;obtain⟨rfl,rfl,e⟩:=UH ae;refine⟨.GN,e,?_⟩;refine Aj V V V (λρ h=>Yl.move (h _ _ V)) (Aj (v:=.bool false) V V V (λρ h=>(Yl.neq (h _ _ V) (h _ _ V)).to (by simp)) ?_);refine JL.done (Cx V ?_);refine JL.skip (JL.seq ?_);refine JL.region (Aj V V V (λρ h=>Yl.move (h _ _ V)) ?_);refine Aj V V V (λρ h=>Yl.nilCheck (h _ _ V)) (Aj V V V (λρ h=>Yl.fieldAddr H.underlying_tWg V (Fi H.sizeOf_tAU) (h _ _ V)) ?_);refine JL.uStore H V V V V V (JL.done ?_);refine JL.seq (JL.seq ?_);refine JL.region (Aj V V V (λρ h=>Yl.move (h _ _ V)) ?_);refine JL.done (Cx V ?_);refine JL.skip (JL.block ?_);refine JY (JL.seq ?_);refine JL.seq (JL.region ?_);refine Aj V V V (λρ h=>Yl.move (h _ _ V)) (Aj V V V (λρ h=>Yl.neq (h _ _ V) (h _ _ V)) ?_);refine JL.done (EP V ?_);refine JL.skip (JL.seq ?_);refine JL.block (JL.region ?_);refine Aj V V V (λρ h=>Yl.move (h _ _ V)) (Aj V V V (λρ h=>Yl.nilCheck (h _ _ V)) ?_);refine Aj V V V (λρ h=>Yl.fieldAddr H.underlying_tWg V (Fi H.sizeOf_tU32) (h _ _ V)) (UR (vs:=[.pointer (some F.mA),.bool false,.int .i64 0]) V V V V (Ua H) V V ?_);refine JL.done (NT ?_);refine JL.region (Aj V V V (λρ h=>Yl.move (h _ _ V)) ?_);refine Aj (v:=.int .u32 ((0:Nat):Int)) V V V (λρ h=>(Yl.sub (h _ _ V) (h _ _ V)).to (lq _ (by decide))) (Aj V V V (λρ h=>Yl.assign (h _ _ V)) ?_);refine JL.done (JL.again ?_);refine JL.seq (JL.seq ?_);refine JL.region (Aj V V V (λρ h=>Yl.move (h _ _ V)) ?_);refine Aj V V V (λρ h=>Yl.neq (h _ _ V) (h _ _ V)) (JL.done ?_);refine Cx V (JL.exit V ?_);refine JL.out V (JO.MN V (Ix H) (JO.leave V (Bq.none H.f_add V) (back _ _ _ _ h)))
 .refine Aj V V V (λρ h=>Yl.assign (h _ _ V)) (JL.done ?_);refine JL.seq (JL.seq ?_);refine JL.region (Aj V V V (λρ h=>Yl.move (h _ _ V)) ?_);refine Aj (v:=.int .u64 0) V V V (λρ h=>(Yl.and (h _ _ V) (h _ _ V)).to (lq _ (Kb (v:=v) (wt:=wt) (by omega) K))) (Aj V V V (λρ h=>Yl.neq (h _ _ V) (h _ _ V)) ?_);refine Aj V V V (λρ h=>Yl.move (h _ _ V)) (Bw V V V ?_);refine Bw V V V (Aj V V V (λρ h=>Er (h _ _ V) (h _ _ V)) ?_);refine JL.done (Cx V ?_);refine JL.skip (JL.seq ?_);refine JL.region (Aj V V V (λρ h=>Yl.move (h _ _ V)) ?_);refine Aj (v:=.int .u64 (v:Nat)) V V V (λρ h=>(Yl.shr (h _ _ V) (h _ _ V) (by decide)).to (lq _ (J0 (v:=v) (wt:=wt) K))) (Aj (v:=.int .i32 (v:Nat)) V V V (λρ h=>(Ek H.underlying_tU64 H.underlying_t21 (h _ _ V)).to (lq _ (wrap_i32 (by omega)))) ?_)
  refine Aj V V V (λρ h=>Yl.assign (h _ _ V)) (JL.done ?_);refine JL.seq (JL.region ?_);refine Aj V V V (λρ h=>Yl.move (h _ _ V)) (Aj (v:=.int .u64 (wt:Nat)) V V V (λρ h=>(Yl.and (h _ _ V) (h _ _ V)).to (lq _ (Kj (v:=v) (wt:=wt) (by omega) K))) ?_);refine Aj (v:=.int .u32 (wt:Nat)) V V V (λρ h=>(Ek H.underlying_tU64 H.underlying_tU32 (h _ _ V)).to (lq _ (wrap_u32 K))) ?_
  refine Aj V V V (λρ h=>Yl.assign (h _ _ V)) (JL.done ?_);refine JL.seq (JL.seq ?_);refine JL.region (Aj V V V (λρ h=>Yl.move (h _ _ V)) ?_);refine Aj V V V (λρ h=>Yl.move (h _ _ V)) (Aj V V V (λρ h=>Yl.gtr (h _ _ V) (h _ _ V)) ?_);refine Aj V V V (λρ h=>FG (h _ _ V) (h _ _ V)) (Aj V V V (λρ h=>Yl.move (h _ _ V)) ?_);refine Bw V V V (Bw V V V ?_);refine Bw V V V (Bw V V V ?_);refine Aj V V V (λρ h=>Er (h _ _ V) (h _ _ V)) (JL.done ?_);refine Cx V (JL.skip ?_);refine JL.seq (JL.seq ?_);refine JL.region (Aj V V V (λρ h=>Yl.move (h _ _ V)) ?_);refine Aj (v:=.bool false) V V V (λρ h=>(Yl.lss (h _ _ V) (h _ _ V)).to (by simp)) (JL.done ?_);refine Cx V (JL.skip ?_);refine JL.seq (JL.seq ?_);refine JL.region ?_;by_cases O:wt=0;refine Aj V V V (λρ h=>Yl.move (h _ _ V)) (Aj (v:=.bool false) V V V (λρ h=>(Yl.neq (h _ _ V) (h _ _ V)).to (by simp[O])) ?_);refine Aj V V V (λρ h=>Yl.move (h _ _ V)) (Bw V V V ?_);refine Bw V V V (Aj V V V (λρ h=>Er (h _ _ V) (h _ _ V)) ?_);refine Aj V V V (λρ h=>Yl.move (h _ _ V)) (Bw V V V ?_);refine Bw V V V (Bw V V V ?_);refine Bw V V V (Aj V V V (λρ h=>Er (h _ _ V) (h _ _ V)) ?_);refine JL.done (Cx V ?_);refine JL.skip (JL.seq ?_);refine JL.seq (JL.region ?_);by_cases aj:0<v;refine Aj V V V (λρ h=>Yl.move (h _ _ V)) (Aj (v:=.bool true) V V V (λρ h=>(Yl.gtr (h _ _ V) (h _ _ V)).to (by simp<;>omega)) ?_);refine Aj V V V (λρ h=>Yl.move (h _ _ V)) (Bw V V V ?_);refine Bw V V V (Aj V V V (λρ h=>FG (h _ _ V) (h _ _ V)) ?_);refine JL.done (EP V ?_);refine Fj V (JO.MN V (Ix H) (JO.leave V (Bq.none H.f_add V) (back _ _ _ _ h)));refine Aj V V V (λρ h=>Yl.move (h _ _ V)) (Aj (v:=.bool false) V V V (λρ h=>(Yl.gtr (h _ _ V) (h _ _ V)).to (by simp<;>omega)) ?_);refine Aj V V V (λρ h=>Yl.move (h _ _ V)) (Aj V V V (λρ h=>Yl.move (h _ _ V)) ?_);refine Aj (v:=.bool true) V V V (λρ h=>(Yl.eql (h _ _ V) (h _ _ V)).to (by simp[O])) (Aj V V V (λρ h=>Er (h _ _ V) (h _ _ V)) ?_);refine JL.done (EP V ?_);refine Fj V (JO.MN V (Ix H) (JO.leave V (Bq.none H.f_add V) (back _ _ _ _ h)));refine Aj V V V (λρ h=>Yl.move (h _ _ V)) (Aj (v:=.bool true) V V V (λρ h=>(Yl.neq (h _ _ V) (h _ _ V)).to (by simp[O])) ?_);refine Aj V V V (λρ h=>Yl.move (h _ _ V)) (Aj V V V (λρ h=>Yl.move (h _ _ V)) ?_);refine Aj V V V (λρ h=>Yl.gtr (h _ _ V) (h _ _ V)) (Aj V V V (λρ h=>FG (h _ _ V) (h _ _ V)) ?_);refine Aj V V V (λρ h=>Yl.move (h _ _ V)) (Bw V V V ?_);refine Bw V V V (Bw V V V ?_);refine Bw V V V (Aj V V V (λρ h=>Er (h _ _ V) (h _ _ V)) ?_);refine JL.done (Cx V ?_);refine JL.skip (JL.seq ?_);refine JL.seq (JL.region ?_);refine Aj V V V (λρ h=>Yl.move (h _ _ V)) (Aj (v:=.bool true) V V V (λρ h=>(Yl.gtr (h _ _ V) (h _ _ V)).to (by simp<;>omega)) ?_);refine Aj V V V (λρ h=>Yl.move (h _ _ V)) (Bw V V V ?_);refine Bw V V V (Aj V V V (λρ h=>FG (h _ _ V) (h _ _ V)) ?_);refine JL.done (EP V ?_);refine Fj V (JO.MN V (Ix H) (JO.leave V (Bq.none H.f_add V) (back _ _ _ _ h)))
theorem Ue{j:Nat}(K:s.q=false)(O:ops[i]?=some ⟨d,.call ⟨.value (.func L.add),#[x,y],ats⟩,ty,pp,af,g⟩)(hw:AQ M ops ⟨d,.call ⟨.value (.func L.add),#[x,y],ats⟩,ty,pp,af,g⟩=some true)(U:((b.kind != .early)&&A6 n d)=true)
  (Y:ev M x=some (.pointer (some F.sA))) (Z:ev M y=some (.int .i64 1))
  (h:JL (Bc P true) (Stop P F (.Fb j)) b n (Az M d (.tuple #[])) ds (.inRegion ops rest::k) cs s):
  JL (Bc P true) (Stop P F (.EX j)) b n M ds (.inRegion ops (i::rest)::k) cs s:=by
 refine IB (vs:=[.pointer (some F.sA),.int .i64 1]) O hw U H.f_add (nm_add L) V (by simp[evs,Y,Z]) (f7 V) λaa back=>JL.seq (EP V ?_);refine JL.seq (JL.seq ?_);refine JL.region (Aj V V V (λρ h=>Yl.move (h _ _ V)) ?_);refine Aj V V V (λρ h=>Yl.lss (h _ _ V) (h _ _ V)) (JL.done ?_);refine Cx V (JL.skip ?_);refine JL.seq (JL.region ?_);refine KV (p:=.EX j) (q:=.HS j) V K (by simp) (λ_ _ _=>V) V V V V V (by simp) (NR H) (JL.done ?_);refine JL.region (JL.defer (vs:=[]) V V V V V ?_);refine JL.done (JL.seq ?_);refine JL.region (Aj V V V (λρ h=>Yl.assign (h _ _ V)) ?_);refine JL.done (JL.seq ?_);refine JL.seq (JL.region ?_);refine JL.ext (vs:=[]) V V V (PU H) V V (JL.done ?_);refine Cx V (JL.skip ?_);refine JL.seq (JL.region ?_);refine Aj V V V (λρ h=>Yl.move (h _ _ V)) (Aj V V V (λρ h=>Yl.nilCheck (h _ _ V)) ?_);refine Aj V V V (λρ h=>Yl.fieldAddr H.underlying_tWg V (Fi H.sizeOf_tAU) (h _ _ V)) (Aj V V V (λρ h=>Yl.move (h _ _ V)) ?_);refine Aj V V V (λρ h=>Ek H.underlying_t3 H.underlying_tU64 (h _ _ V)) ?_
 refine Aj (v:=.int .u64 4294967296) V V V (λρ h=>(Yl.shl (h _ _ V) (h _ _ V) (by decide)).to (lq _ (by decide))) (Ur H K V V V V V ?_ λv ab ae=>?_)
 .refine Aj V V V (λρ h=>Yl.assign (h _ _ V)) (JL.done ?_);refine JL.seq (JL.seq ?_);refine JL.region (Aj V V V (λρ h=>Yl.move (h _ _ V)) ?_);refine Aj (v:=.int .u64 0) V V V (λρ h=>(Yl.and (h _ _ V) (h _ _ V)).to (lq _ (Kb (v:=1) (wt:=0) (by decide) (by decide)))) (Aj V V V (λρ h=>Yl.neq (h _ _ V) (h _ _ V)) ?_);refine Aj V V V (λρ h=>Yl.move (h _ _ V)) (Bw V V V ?_);refine Bw V V V (Aj V V V (λρ h=>Er (h _ _ V) (h _ _ V)) ?_);refine JL.done (Cx V ?_);refine JL.skip (JL.seq ?_);refine JL.region (Aj V V V (λρ h=>Yl.move (h _ _ V)) ?_);refine Aj (v:=.int .u64 (1:Nat)) V V V (λρ h=>(Yl.shr (h _ _ V) (h _ _ V) (by decide)).to (lq _ (J0 (v:=1) (wt:=0) (by decide)))) (Aj (v:=.int .i32 (1:Nat)) V V V (λρ h=>(Ek H.underlying_tU64 H.underlying_t21 (h _ _ V)).to (lq _ (wrap_i32 (by decide)))) ?_)
  refine Aj V V V (λρ h=>Yl.assign (h _ _ V)) (JL.done ?_);refine JL.seq (JL.region ?_);refine Aj V V V (λρ h=>Yl.move (h _ _ V)) (Aj (v:=.int .u64 (0:Nat)) V V V (λρ h=>(Yl.and (h _ _ V) (h _ _ V)).to (lq _ (Kj (v:=1) (wt:=0) (by decide) (by decide)))) ?_);refine Aj (v:=.int .u32 (0:Nat)) V V V (λρ h=>(Ek H.underlying_tU64 H.underlying_tU32 (h _ _ V)).to (lq _ (wrap_u32 (by decide)))) ?_
  refine Aj V V V (λρ h=>Yl.assign (h _ _ V)) (JL.done ?_);refine JL.seq (JL.seq ?_);refine JL.region (Aj V V V (λρ h=>Yl.move (h _ _ V)) ?_);refine Aj V V V (λρ h=>Yl.move (h _ _ V)) (Aj V V V (λρ h=>Yl.gtr (h _ _ V) (h _ _ V)) ?_);refine Aj V V V (λρ h=>FG (h _ _ V) (h _ _ V)) (Aj V V V (λρ h=>Yl.move (h _ _ V)) ?_);refine Aj V V V (λρ h=>Yl.move (h _ _ V)) (Aj V V V (λρ h=>Yl.move (h _ _ V)) ?_);refine Aj (v:=.int .i32 1) V V V (λρ h=>(Ek H.underlying_t3 H.underlying_t21 (h _ _ V)).to (lq _ (by decide))) ?_
  refine Aj (v:=.bool true) V V V (λρ h=>(Yl.eql (h _ _ V) (h _ _ V)).to (by simp)) (Aj V V V (λρ h=>FG (h _ _ V) (h _ _ V)) ?_);refine JL.done (EP V ?_);refine JL.region (Aj V V V (λρ h=>Yl.move (h _ _ V)) ?_);refine Aj V V V (λρ h=>Yl.nilCheck (h _ _ V)) (Aj V V V (λρ h=>Yl.fieldAddr H.underlying_tWg V (Fi H.sizeOf_tU32) (h _ _ V)) ?_);refine K0 (p:=.Hu j) (q:=.GU j) (ad:=F.mA) V K (by simp) (λ_ _ _=>V) V V V V V H.underlying_tPU32 H.underlying_tUP H.room_tU32 V (.inr V) ?_
  refine KR (p:=.GU j) (q:=.Ga j) (mk:=.read) (ad:=F.mA) (vs:=[.pointer (some F.mA)]) V K (by simp) (λ_ _ _=>V) V V V V (by simp) (Vj H) V V (JL.done ?_);refine JL.seq (JL.seq ?_);refine JL.region (Aj V V V (λρ h=>Yl.move (h _ _ V)) ?_);refine Aj (v:=.bool false) V V V (λρ h=>(Yl.lss (h _ _ V) (h _ _ V)).to (by simp)) (JL.done ?_);refine Cx V (JL.skip ?_);refine JL.seq (JL.seq ?_);refine JL.region (Aj V V V (λρ h=>Yl.move (h _ _ V)) ?_);refine Aj (v:=.bool false) V V V (λρ h=>(Yl.neq (h _ _ V) (h _ _ V)).to (by simp)) (Aj V V V (λρ h=>Yl.move (h _ _ V)) ?_);refine Bw V V V (Bw V V V ?_);refine Aj V V V (λρ h=>Er (h _ _ V) (h _ _ V)) (Aj V V V (λρ h=>Yl.move (h _ _ V)) ?_);refine Bw V V V (Bw V V V ?_);refine Bw V V V (Bw V V V ?_);refine Aj V V V (λρ h=>Er (h _ _ V) (h _ _ V)) (JL.done ?_);refine Cx V (JL.skip ?_);refine JL.seq (JL.seq ?_);refine JL.region (Aj V V V (λρ h=>Yl.move (h _ _ V)) ?_);refine Aj (v:=.bool true) V V V (λρ h=>(Yl.gtr (h _ _ V) (h _ _ V)).to (by simp)) (Aj V V V (λρ h=>Yl.move (h _ _ V)) ?_);refine Bw V V V (Bw V V V ?_);refine Aj V V V (λρ h=>FG (h _ _ V) (h _ _ V)) (JL.done ?_);exact EP V (Fj V (JO.Q0 K V (Ix H) (JO.leave V (Bq.none H.f_add V) (back _ _ _ _ h))))
 .refine Aj V V V (λρ h=>Yl.assign (h _ _ V)) (JL.done ?_);refine JL.seq (JL.seq ?_);refine JL.region (Aj V V V (λρ h=>Yl.move (h _ _ V)) ?_);refine Aj (v:=.int .u64 0) V V V (λρ h=>(Yl.and (h _ _ V) (h _ _ V)).to (lq _ (Kb (v:=(v+1)) (wt:=0) (by omega) (by decide)))) (Aj V V V (λρ h=>Yl.neq (h _ _ V) (h _ _ V)) ?_);refine Aj V V V (λρ h=>Yl.move (h _ _ V)) (Bw V V V ?_);refine Bw V V V (Aj V V V (λρ h=>Er (h _ _ V) (h _ _ V)) ?_);refine JL.done (Cx V ?_);refine JL.skip (JL.seq ?_);refine JL.region (Aj V V V (λρ h=>Yl.move (h _ _ V)) ?_);refine Aj (v:=.int .u64 ((v+1):Nat)) V V V (λρ h=>(Yl.shr (h _ _ V) (h _ _ V) (by decide)).to (lq _ (J0 (v:=(v+1)) (wt:=0) (by decide)))) (Aj (v:=.int .i32 ((v+1):Nat)) V V V (λρ h=>(Ek H.underlying_tU64 H.underlying_t21 (h _ _ V)).to (lq _ (wrap_i32 (by omega)))) ?_)
  refine Aj V V V (λρ h=>Yl.assign (h _ _ V)) (JL.done ?_);refine JL.seq (JL.region ?_);refine Aj V V V (λρ h=>Yl.move (h _ _ V)) (Aj (v:=.int .u64 (0:Nat)) V V V (λρ h=>(Yl.and (h _ _ V) (h _ _ V)).to (lq _ (Kj (v:=(v+1)) (wt:=0) (by omega) (by decide)))) ?_);refine Aj (v:=.int .u32 (0:Nat)) V V V (λρ h=>(Ek H.underlying_tU64 H.underlying_tU32 (h _ _ V)).to (lq _ (wrap_u32 (by decide)))) ?_
  refine Aj V V V (λρ h=>Yl.assign (h _ _ V)) (JL.done ?_);refine JL.seq (JL.seq ?_);refine JL.region (Aj V V V (λρ h=>Yl.move (h _ _ V)) ?_);refine Aj V V V (λρ h=>Yl.move (h _ _ V)) (Aj V V V (λρ h=>Yl.gtr (h _ _ V) (h _ _ V)) ?_);refine Aj V V V (λρ h=>FG (h _ _ V) (h _ _ V)) (Aj V V V (λρ h=>Yl.move (h _ _ V)) ?_);refine Aj V V V (λρ h=>Yl.move (h _ _ V)) (Aj V V V (λρ h=>Yl.move (h _ _ V)) ?_);refine Aj (v:=.int .i32 1) V V V (λρ h=>(Ek H.underlying_t3 H.underlying_t21 (h _ _ V)).to (lq _ (by decide))) ?_
  refine Aj (v:=.bool false) V V V (λρ h=>(Yl.eql (h _ _ V) (h _ _ V)).to (by simp<;>omega)) (Aj V V V (λρ h=>FG (h _ _ V) (h _ _ V)) ?_);refine JL.done (Cx V ?_);refine JL.skip (JL.seq ?_);refine JL.seq (JL.region ?_);refine Aj V V V (λρ h=>Yl.move (h _ _ V)) (Aj (v:=.bool false) V V V (λρ h=>(Yl.lss (h _ _ V) (h _ _ V)).to (by simp<;>omega)) ?_);refine JL.done (Cx V ?_);refine JL.skip (JL.seq ?_);refine JL.seq (JL.region ?_);refine Aj V V V (λρ h=>Yl.move (h _ _ V)) (Aj (v:=.bool false) V V V (λρ h=>(Yl.neq (h _ _ V) (h _ _ V)).to (by simp)) ?_);refine Aj V V V (λρ h=>Yl.move (h _ _ V)) (Bw V V V ?_);refine Bw V V V (Aj V V V (λρ h=>Er (h _ _ V) (h _ _ V)) ?_);refine Aj V V V (λρ h=>Yl.move (h _ _ V)) (Bw V V V ?_);refine Bw V V V (Bw V V V ?_);refine Bw V V V (Aj V V V (λρ h=>Er (h _ _ V) (h _ _ V)) ?_);refine JL.done (Cx V ?_);refine JL.skip (JL.seq ?_);refine JL.seq (JL.region ?_);refine Aj V V V (λρ h=>Yl.move (h _ _ V)) (Aj (v:=.bool true) V V V (λρ h=>(Yl.gtr (h _ _ V) (h _ _ V)).to (by simp<;>omega)) ?_);refine Aj V V V (λρ h=>Yl.move (h _ _ V)) (Bw V V V ?_);refine Bw V V V (Aj V V V (λρ h=>FG (h _ _ V) (h _ _ V)) ?_);refine JL.done (EP V ?_);exact Fj V (JO.Q0 K V (Ix H) (JO.leave V (Bq.none H.f_add V) (back _ _ _ _ h)))
omit H in
theorem TM{m:Nat}:∀v wt sm r,F.act (.FI m) v wt sm=some r->r.1=(v,wt,sm)/\r.2.1=#[Fam.Fc F.sA]:=by
 intro v wt sm r h;simp only[Fam.act] at h;split at h;rename_i K;obtain⟨_,rfl⟩:=K;cases h;exact⟨V,V⟩;cases h
omit H in
theorem UZ{m v wt:Nat}{r}(h:F.act (.FI m) v wt sm=some r):v<=m/\wt=0/\r.2.2=if v=0 then .ph .Ft else .ph (.Ho v):=by
 simp only[Fam.act] at h;split at h;rename_i K;cases h;exact⟨K.1,K.2,V⟩;cases h
omit H in
theorem S4:∀v wt sm r,F.act .GO v wt sm=some r->r.1=(v,wt,sm)/\r.2.1=#[Fam.Fc F.sA]:=by
 intro v wt sm r h;simp only[Fam.act] at h;split at h;rename_i K;obtain⟨rfl,rfl⟩:=K;cases h;exact⟨V,V⟩;cases h
omit H in
theorem Tp{v wt:Nat}{r}(h:F.act .GO v wt sm=some r):v=0/\wt=0/\r.2.2=.ph .Ft:=by
 simp only[Fam.act] at h;split at h;rename_i K;cases h;exact⟨K.1,K.2,V⟩;cases h
omit H in
theorem Tz{v:Nat}(K:v<2147483648):IntKind.u64.wrap (Fam.word v 0+1)=Fam.word v 1:=by
 simp only[Fam.word,Fam.KK,IntKind.wrap,IntKind.bits,IntKind.signed];simp;omega
theorem JL.wait(Z:F.n<2147483648)(K:s.q=false)(aa:ops[i]?=some ⟨d,.call ⟨.value (.func L.wait),#[x],ats⟩,ty,pp,af,g⟩)(hw:AQ M ops ⟨d,.call ⟨.value (.func L.wait),#[x],ats⟩,ty,pp,af,g⟩=some true)(ab:((b.kind != .early)&&A6 n d)=true)
  (ae:ev M x=some (.pointer (some F.sA)))
  (h:JL (Bc P false) (Stop P F .Dh) b n (Az M d (.tuple #[])) ds (.inRegion ops rest::k) cs s):
  JL (Bc P false) (Stop P F .Cv) b n M ds (.inRegion ops (i::rest)::k) cs s:=by
 refine IB (vs:=[.pointer (some F.sA)]) aa hw ab H.f_wait (nm_wait L) V (by simp[evs,ae]) (f7 V) λah back=>JL.seq (EP V ?_);refine JL.region (KV (p:=.Cv) (q:=.FI F.n) V K (by simp) (λ_ _ _=>V) V V V V V (by simp) (NR H) ?_);refine JL.done (JL.block ?_);refine JY (Jb (L':=[(0,.pointer (some F.sA))]) ⟨V,trivial⟩ ?_);generalize F.n=m at Z ⊢
 induction m using Nat.strongRecOn with
 | _ m ag=>?_
 refine JL.block (JL.seq ?_);refine JL.region (Aj V V V (λρ h=>Yl.move (h _ _ V)) ?_);refine Aj V V V (λρ h=>Yl.nilCheck (h _ _ V)) (Aj V V V (λρ h=>Yl.fieldAddr H.underlying_tWg V (Fi H.sizeOf_tAU) (h _ _ V)) ?_);refine JL.uLoad H (p:=.FI m) V K (by simp) V TM V V V V λv wt sm r U=>?_;obtain⟨ai,rfl,e⟩:=UZ U;have O:v<2147483648:=by omega
 by_cases Y:v=0
 .subst Y;refine⟨.Ft,e,?_⟩;refine Aj V V V (λρ h=>Yl.assign (h _ _ V)) (JL.done ?_);refine JL.seq (JL.region ?_);refine Aj V V V (λρ h=>Yl.move (h _ _ V)) (Aj (v:=.int .u64 (0:Nat)) V V V (λρ h=>(Yl.shr (h _ _ V) (h _ _ V) (by decide)).to (lq _ (J0 (v:=0) (wt:=0) (by decide)))) ?_);refine Aj (v:=.int .i32 (0:Nat)) V V V (λρ h=>(Ek H.underlying_tU64 H.underlying_t21 (h _ _ V)).to (lq _ (wrap_i32 (by decide)))) ?_
  refine Aj V V V (λρ h=>Yl.assign (h _ _ V)) (JL.done ?_);refine JL.seq (JL.region ?_);refine Aj V V V (λρ h=>Yl.move (h _ _ V)) (Aj (v:=.int .u64 ((0:Nat):Int)) V V V (λρ h=>(Yl.and (h _ _ V) (h _ _ V)).to (lq _ (Kj (v:=0) (wt:=0) (by decide) (by decide)))) ?_);refine Aj (v:=.int .u32 ((0:Nat):Int)) V V V (λρ h=>(Ek H.underlying_tU64 H.underlying_tU32 (h _ _ V)).to (lq _ (wrap_u32 (by decide)))) ?_
  refine Aj V V V (λρ h=>Yl.assign (h _ _ V)) (JL.done ?_);refine JL.seq (JL.seq ?_);refine JL.region (Aj V V V (λρ h=>Yl.move (h _ _ V)) ?_);refine Aj (v:=.bool true) V V V (λρ h=>(Yl.eql (h _ _ V) (h _ _ V)).to (by simp)) (JL.done ?_);refine EP V (JL.seq ?_);refine EP V (JL.seq ?_);refine JL.region (KV (p:=.Ft) (q:=.HT) V K (by simp) (λ_ _ _=>V) V V V V V (by simp) (Ix H) ?_);refine JL.done (JL.region ?_);refine Aj V V V (λρ h=>Yl.move (h _ _ V)) (K0 (p:=.HT) (q:=.GV) (ad:=F.sA) V K (by simp) (λ_ _ _=>V) V V V V V H.underlying_tWgP H.underlying_tUP H.room_tWg V (.inl V) ?_)
  refine KR (p:=.GV) (q:=.Dh) (mk:=.acquire) (ad:=F.sA) (vs:=[.pointer (some F.sA)]) V K (by simp) (λ_ _ _=>V) V V V V (by simp) (PD H) V V (JL.done ?_);refine JL.seq (JL.seq ?_);refine JL.region (Aj V V V (λρ h=>Yl.move (h _ _ V)) ?_);refine Aj (v:=.bool true) V V V (λρ h=>(Yl.eql (h _ _ V) (h _ _ V)).to (by simp)) (Aj V V V (λρ h=>Yl.move (h _ _ V)) ?_);refine Aj V V V (λρ h=>Yl.move (h _ _ V)) (Aj (v:=.int .u64 0) V V V (λρ h=>(Yl.and (h _ _ V) (h _ _ V)).to (lq _ (Kb (v:=0) (wt:=0) (by decide) (by decide)))) ?_);refine Aj (v:=.bool false) V V V (λρ h=>(Yl.neq (h _ _ V) (h _ _ V)).to (by simp)) (Aj V V V (λρ h=>FG (h _ _ V) (h _ _ V)) ?_);refine Aj V V V (λρ h=>Yl.move (h _ _ V)) (Bw V V V ?_);refine Bw V V V (Aj V V V (λρ h=>Er (h _ _ V) (h _ _ V)) ?_);refine JL.done (Cx V ?_);exact JL.skip (JL.ret V V (Bq.none H.f_wait V) (back _ _ _ _ h))
 .refine⟨.Ho v,by rw[e,d7 Y],?_⟩;refine Aj V V V (λρ h=>Yl.assign (h _ _ V)) (JL.done ?_);refine JL.seq (JL.region ?_);refine Aj V V V (λρ h=>Yl.move (h _ _ V)) (Aj (v:=.int .u64 (v:Nat)) V V V (λρ h=>(Yl.shr (h _ _ V) (h _ _ V) (by decide)).to (lq _ (J0 (v:=v) (wt:=0) (by decide)))) ?_);refine Aj (v:=.int .i32 (v:Nat)) V V V (λρ h=>(Ek H.underlying_tU64 H.underlying_t21 (h _ _ V)).to (lq _ (wrap_i32 O))) ?_
  refine Aj V V V (λρ h=>Yl.assign (h _ _ V)) (JL.done ?_);refine JL.seq (JL.region ?_);refine Aj V V V (λρ h=>Yl.move (h _ _ V)) (Aj (v:=.int .u64 ((0:Nat):Int)) V V V (λρ h=>(Yl.and (h _ _ V) (h _ _ V)).to (lq _ (Kj (v:=v) (wt:=0) O (by decide)))) ?_);refine Aj (v:=.int .u32 ((0:Nat):Int)) V V V (λρ h=>(Ek H.underlying_tU64 H.underlying_tU32 (h _ _ V)).to (lq _ (wrap_u32 (by decide)))) ?_
  refine Aj V V V (λρ h=>Yl.assign (h _ _ V)) (JL.done ?_);refine JL.seq (JL.seq ?_);refine JL.region (Aj V V V (λρ h=>Yl.move (h _ _ V)) ?_);refine Aj (v:=.bool false) V V V (λρ h=>(Yl.eql (h _ _ V) (h _ _ V)).to (by simp<;>omega)) (JL.done ?_);refine Cx V (JL.skip ?_);refine JL.seq (JL.region ?_);refine Aj V V V (λρ h=>Yl.move (h _ _ V)) (Aj V V V (λρ h=>Yl.nilCheck (h _ _ V)) ?_);refine Aj V V V (λρ h=>Yl.fieldAddr H.underlying_tWg V (Fi H.sizeOf_tAU) (h _ _ V)) (Aj V V V (λρ h=>Yl.move (h _ _ V)) ?_);refine Aj V V V (λρ h=>Yl.move (h _ _ V)) (Aj (v:=.int .u64 (Fam.word v 1)) V V V (λρ h=>(Yl.add (h _ _ V) (h _ _ V)).to (lq _ (Tz O))) ?_);refine JL.uCas H (m:=v) K V V V V V V ?_ ?_
  .refine JL.done (EP V ?_);refine JL.seq (JL.seq ?_);refine JL.region (Aj V V V (λρ h=>Yl.move (h _ _ V)) ?_);refine Aj V V V (λρ h=>Yl.move (h _ _ V)) (Aj (v:=.bool true) V V V (λρ h=>(Yl.eql (h _ _ V) (h _ _ V)).to (by simp)) ?_);refine Aj V V V (λρ h=>FG (h _ _ V) (h _ _ V)) (JL.done ?_);refine EP V (JL.region ?_);refine Aj V V V (λρ h=>Yl.move (h _ _ V)) (Aj V V V (λρ h=>Yl.nilCheck (h _ _ V)) ?_);refine Aj V V V (λρ h=>Yl.fieldAddr H.underlying_tWg V (Fi H.sizeOf_tU32) (h _ _ V)) (K0 (p:=.HU) (q:=.Ht) (ad:=F.mA) V K (by simp) (λ_ _ _=>V) V V V V V H.underlying_tPU32 H.underlying_tUP H.room_tU32 V (.inr V) ?_)
   refine KR (p:=.Ht) (q:=.CY) (mk:=.write) (ad:=F.mA) (vs:=[.pointer (some F.mA)]) V K (by simp) (λ_ _ _=>V) V V V V (by simp) (TG H) V V (JL.done ?_);refine JL.seq (JL.region ?_);refine Aj V V V (λρ h=>Yl.assign (h _ _ V)) (JL.done ?_);refine JL.seq (JL.seq ?_);refine JL.region (Aj V V V (λρ h=>Yl.move (h _ _ V)) ?_);refine Aj (v:=.int .u64 0) V V V (λρ h=>(Yl.and (h _ _ V) (h _ _ V)).to (lq _ (Kb (v:=v) (wt:=0) O (by decide)))) (Aj (v:=.bool false) V V V (λρ h=>(Yl.neq (h _ _ V) (h _ _ V)).to (by simp)) ?_);refine Aj V V V (λρ h=>Yl.move (h _ _ V)) (Bw V V V ?_);refine Aj V V V (λρ h=>Er (h _ _ V) (h _ _ V)) (JL.done ?_);refine Cx V (JL.skip ?_);refine JL.seq (JL.region ?_);refine Aj V V V (λρ h=>Yl.move (h _ _ V)) (Aj V V V (λρ h=>Yl.nilCheck (h _ _ V)) ?_);refine Aj V V V (λρ h=>Yl.fieldAddr H.underlying_tWg V (Fi H.sizeOf_tU32) (h _ _ V)) (Aj V V V (λρ h=>Yl.move (h _ _ V)) ?_);refine S9 (vs:=[.pointer (some F.mA),.bool false]) K V V V V (SM H) V V (JL.done ?_);refine JL.seq (JL.region ?_);refine Aj V V V (λρ h=>Yl.move (h _ _ V)) (Aj V V V (λρ h=>Yl.nilCheck (h _ _ V)) ?_);refine Aj V V V (λρ h=>Yl.fieldAddr H.underlying_tWg V (Fi H.sizeOf_tAU) (h _ _ V)) (JL.uLoad H (p:=.GO) V K (by simp) V S4 V V V V λv wt sm r U=>?_);obtain⟨rfl,rfl,e⟩:=Tp U;refine⟨.Ft,e,?_⟩;refine Aj (v:=.bool false) V V V (λρ h=>(Yl.neq (h _ _ V) (h _ _ V)).to (by simp[Fam.word])) (Aj V V V (λρ h=>Yl.assign (h _ _ V)) ?_);refine JL.done (JL.seq ?_);refine EP V (JL.seq ?_);refine JL.region (KV (p:=.Ft) (q:=.HT) V K (by simp) (λ_ _ _=>V) V V V V V (by simp) (Ix H) ?_);refine JL.done (JL.region ?_);refine Aj V V V (λρ h=>Yl.move (h _ _ V)) (K0 (p:=.HT) (q:=.GV) (ad:=F.sA) V K (by simp) (λ_ _ _=>V) V V V V V H.underlying_tWgP H.underlying_tUP H.room_tWg V (.inl V) ?_)
   refine KR (p:=.GV) (q:=.Dh) (mk:=.acquire) (ad:=F.sA) (vs:=[.pointer (some F.sA)]) V K (by simp) (λ_ _ _=>V) V V V V (by simp) (PD H) V V (JL.done ?_);refine JL.seq (JL.seq ?_);refine JL.region (Aj V V V (λρ h=>Yl.move (h _ _ V)) ?_);refine JL.done (Cx V ?_);exact JL.skip (JL.ret V V (Bq.none H.f_wait V) (back _ _ _ _ h))
  .refine JL.done (Cx V ?_);refine JL.skip (NT ?_);refine JL.again (Jb (L':=[(0,.pointer (some F.sA))]) ⟨V,trivial⟩ ?_);exact ag (v - 1) (by omega) (by omega)
theorem JO.Yg(K:b.roundOf=none)(O:s.q=false)(h:JO (GF P) (Hl P 0) b n M ds cs .quiet):
  JO (Bc P false) (Stop P F .CF) b n M (dcall L.done #[.pointer (some F.sA)]::ds) cs s:=by
 refine JO.enter (vs:=[.pointer (some F.sA)]) K H.f_done (nm_done L) V (f7 V) λT U todo=>JL.region (Aj V V V (λρ h=>Yl.move (h _ _ V)) ?_);refine TV H O V V V V V (JL.done ?_);exact JL.out V (JO.leaveD V H.f_done V (.inl V) (h T U todo))
end
end Pal
namespace Pal
open Go Go.Conc
variable {P:Program}{J:Judge P}{Q:Gs_}{g:Goroutine}{cs:Lf_}{c:Frame}{E:LH}{S S':List Seg}
variable{f:FuncId}{vs:Lv_}{seg:Seg}{R:Value->LH->Seg->Prop}
section
variable {H:LH}
theorem I9(K:S.flatten.Perm S'.flatten)(O:An E H S)(h:An E H S'->J.ok Q g (Ah E H S')):J.ok Q g (Ah E H S):=by
 have U:Ah E H S=Ah E H S':=C3 O K;rw[U];exact h (Nd.perm O K)
theorem MO(K:S'.flatten=S.flatten)(O:An E H S)(h:An E H S'->J.ok Q g (Ah E H S')):J.ok Q g (Ah E H S):=I9 (by rw[K]) O h
theorem Oc(j:Nat)(ae:AO J f vs E seg R)(K:An E H S)(O:S[j]?=some seg)
  (ag:∀v E' seg',Le E E'->R v E' seg'->An E' H (S.set j seg')->J.ok Q (G (c.finish v) cs) (Ah E' H (S.set j seg'))):
  J.ok Q (G (Frame.enter P f vs.toArray .normal) (c::cs)) (Ah E H S):=by
 have U:S.flatten.Perm (seg++(S.set j []).flatten):=(Cl (seg':=seg) O).1.trans f6;have Y:Nd E H (seg++(S.set j []).flatten):=Nd.perm K U;have ah:Ah E H S=mk E (AM (S.set j []).flatten H) seg:=by
  rw[show Ah E H S=mk E H S.flatten from rfl,C3 K U];unfold mk;rw[DC]
 have Z:=DK.Km (ae (AM (S.set j []).flatten H) (Nd.front Y)) (by rintro v s' ⟨E',B',_,_,_,rfl⟩;rfl);rw[← ah] at Z;refine Z Q c cs ?_;rintro v ar ⟨⟨E',B',hle,ai,aj,rfl⟩,w,ak⟩;have e2:mk E' (AM (S.set j []).flatten H) B'=mk E' H (B'++(S.set j []).flatten):=by unfold mk;rw[DC]
 have al:Nd E H (S.set j []).flatten:=by
  have:=Y;rw[Nd.iff] at this ⊢;rw[lL,lG] at this;exact⟨this.1.2.1,λq am=>this.2 q (lI _ am)⟩
 have an:Nd E' H (S.set j []).flatten:=al.grow λx ao=>by
  have ap:=ak.d x ao;have aq:AM B' (AM (S.set j []).flatten H) x=none:=ap;exact(FF aq).1
 have aa:Nd E' H (B'++(S.set j []).flatten):=Nd.glue aj an;rw[e2];have ab:(B'++(S.set j []).flatten).Perm (S.set j B').flatten:=f6.trans (Cl O).2.symm;rw[C3 aa ab];exact ag v E' B' hle ai (Nd.perm aa ab)
end
variable {L:Env}{ds:Ld_}{k:Li_}{ops:Ao_}{i:Nat}{d:Option Tmp}{t ty e:TypeId}{p:String}{af:Ae_}
variable{K:Nat}
section
variable {b:Frame}{n:Nat}{H:LH}{rest:List Nat}{g:On_}
theorem JS.makeChan{dir:ChanDir}(O:ops[i]?=some ⟨d,.makeChan t (.const (.int .i64 0)),ty,p,af,g⟩)(hw:AQ L ops ⟨d,.makeChan t (.const (.int .i64 0)),ty,p,af,g⟩=some true)(U:BH b n ⟨d,.makeChan t (.const (.int .i64 0)),ty,p,af,g⟩=true)
  (Y:P.underlying t=some (.chan dir e)) (hb:Ew P e=some K) (Z:An E H S)
  (h:∀r,An E H (S++ [[(r,.chan 0 #[] false 0 0 false)]])->JL J Q b n (Az L d (.chan (some r))) ds (.inRegion ops rest::k) cs (Ah E H (S++ [[(r,.chan 0 #[] false 0 0 false)]]))):
  JL J Q b n L ds (.inRegion ops (i::rest)::k) cs (Ah E H S):=
 JL.op O hw U λρ aa=>by
  show lp P (do pure (Next.value (← Instr.makeChan t (ρ (.const (.int .i64 0)))))) _ _ _
  rw[aa _ _ rfl]
  let⟨inf,hi,ak⟩:=KT hb
  refine Av _ _ ?_
  unfold Instr.makeChan
  simp only[asInt,bind,Sem.bind,pure]
  refine Av (x:=underlying t) _ (B6 Y ?_)
  simp only
  refine Av (x:=typeInfo e) _ (GC hi ?_)
  have ab:¬((0:Int)<0∨(0:Int)>IntKind.i64.max∨(inf.bytes:Int)*0>2^48 - 112):=by
   simp[IntKind.max,IntKind.signed,IntKind.bits]
  rw[d7 ab];simp only[newObj,Sem.bind,lp];refine⟨rfl,λr ae ag=>?_⟩;let⟨ah,ai⟩:=I6 ae ag (.chan 0 #[] false 0 0 false) Z;let⟨p1,p2⟩:=EU ah;have aj:(Ah E H S).upd r (.chan 0 #[] false 0 0 false)=Ah E H (S++ [[(r,.chan 0 #[] false 0 0 false)]]):=by rw[← p1,← ai];rfl
  show JL J Q b n (Az L d (.chan (some r))) ds (.inRegion ops rest::k) cs ((Ah E H S).upd r (.chan 0 #[] false 0 0 false));rw[aj];exact h r p2
end
theorem An.up{E E' H:LH}{S:List Seg}(U:An E H S)(h:∀x,E' x≠none->(Ah E H S).H x=none):An E' H S:=by
 have K:=Nd.iff.1 U;refine Nd.iff.2 ⟨K.1,λq O=>⟨?_,(K.2 q O).2⟩⟩;cases Y:E' q.1 with
 | none=>rfl
 | some o=>
  have Z:=h q.1 (by rw[Y];simp);have aa:AM S.flatten H q.1=none:=Z;exact absurd V ((FF aa).2 q O)
theorem KU{P:Program}{J:Judge P}{Q:Gs_}{b:Frame}{n:Nat}{L:Env}{ds:Ld_}{cs:Lf_}{E H:LH}{S:List Seg}{todo:Li_}{A B:Seg}(j K:Nat)(O:S[j]?=some A)(Z:(S.set j [])[K]?=some B)(aa:An E H S)
  (h:An E H (((S.set j []).set K []).set j (A++B))->JL J Q b n L ds todo cs (Ah E H (((S.set j []).set K []).set j (A++B)))):JL J Q b n L ds todo cs (Ah E H S):=by
 refine JS.perm ?_ aa h;have U:j<S.length:=(d0.1 O).1;have ab:=(Cl (seg':=A) O).1;have ae:=(Cl (seg':=B) Z).1;have ag:((S.set j []).set K [])[j]?=some []:=by
  by_cases e:K=j;subst e;rw[np (by simpa using U)];rw[l7 e,np U]
 have Y:=(Cl (seg':=A++B) ag).2;have ah:(((S.set j []).set K []).set j [])=(S.set j []).set K []:=by
  by_cases e:K=j;subst e;simp;rw[nJ _ _ e];simp
 rw[ah] at Y;refine ab.trans (List.Perm.trans ?_ Y.symm);refine(List.Perm.append_right A ae).trans ?_;rw[ls];exact oa _ f6
def WL{α:Type}(e:TypeId)(pp:Rp α)(E:LH)(bk c n:Nat)(f:Av_)(xs:List α):Prop:=
 OL e pp E (some ⟨bk,0,none⟩) c [(bk,.cells f e (0,0))] xs/\xs.length=n
variable{α:Type}
theorem WL.Ad{e:TypeId}{pp:Rp α}{E E':LH}{bk c n:Nat}{f:Av_}{xs:List α}(h:WL e pp E bk c n f xs)(hle:Le E E'):WL e pp E' bk c n f xs:=⟨h.1.Ad hle,h.2⟩
theorem WL.at{e:TypeId}{pp:Rp α}{E:LH}{bk c n:Nat}{f:Av_}{xs:List α}{m:Int}{x:α}(h:WL e pp E bk c n f xs)(hm:ix xs m=some x):
  ∃ws,pp.r E ws x/\(∀j w,ws[j]?=some w->f[m.toNat*pp.n+j]?=some w):=by
 let⟨ws,K,O,_,_⟩:=OL.again h.1 hm V;exact⟨ws,K,O⟩
theorem WL.put{e:TypeId}{pp:Rp α}{E:LH}{bk c n:Nat}{f:Av_}{xs K:List α}{m:Int}{x0 x':α}{ws':Lv_}(h:WL e pp E bk c n f xs)(O:K.length=n)(hm:ix K m=some x0)(U:pp.r E ws' x'):
  WL e pp E bk c n (Bx f (m.toNat*pp.n) ws') (xs.set m.toNat x')/\m.toNat*pp.n+pp.n<=f.size:=by
 obtain⟨mm,rfl,Y⟩:=Ig hm;have Z:mm<xs.length:=by rw[h.2,← O];exact(d0.1 Y).1
 have aa:ix xs (mm:Int)=some xs[mm]:=by simp[ix,Z]
 let⟨ws,ag,ah,ab,ae⟩:=OL.again h.1 aa V;exact⟨⟨ae x' ws' U,by rw[l9];exact h.2⟩,ab⟩
theorem OL.cases{e:TypeId}{pp:Rp α}{E:LH}{a:Option Addr}{c:Nat}{xs:List α}(h:OL e pp E a c seg xs):
  (a=none/\c=0/\seg=[]/\xs=[])∨∃bk f,a=some ⟨bk,0,none⟩/\seg=[(bk,.cells f e (0,0))]/\WL e pp E bk c xs.length f xs:=by
 have Y:=h;obtain⟨wss,Z,ab,ae⟩:=h;rcases Z with⟨K,O,U,aa,ag⟩ | ⟨bk,f,K,O,U⟩;exact .inl ⟨K,U,aa,mo.1 O⟩;subst K O;exact .inr ⟨bk,f,V,V,Y,V⟩
theorem Q5{P:Program}{s:St}{ρ:Operand->Value}{x y:Operand}{d:Option Tmp}{t ty e:TypeId}{p:String}{af:Ae_}{g:On_}{kd:IntKind}{xs:List α}{xv:α}{m:Int}{bk c n:Nat}(O:xs.length=n)(hm:ix xs m=some xv)(U:P.underlying t=some (.slice e))(Y:A5 P e=some K)(Z:ρ x=.slice (some ⟨bk,0,none⟩) n c)(aa:ρ y=.int kd m):
  Yl P ⟨d,.indexAddr t x y,ty,p,af,g⟩ ρ s (.pointer (some ⟨bk,m.toNat*K,none⟩)):=by
 subst O;exact UD hm U Y Z aa
variable{ats:Array TypeId}
theorem VG{P:Program}{s:St}{ρ:Operand->Value}{x:Operand}{d:Option Tmp}{t ty e:TypeId}{p:String}{af:Ae_}{g:On_}{xs:List α}{a:Option Addr}{n c:Nat}(K:xs.length=n)(O:ats[0]?=some t)(U:P.underlying t=some (.slice e))(Y:ρ x=.slice a n c):
  Yl P ⟨d,.call ⟨.builtin .len,#[x],ats⟩,ty,p,af,g⟩ ρ s (.int .i64 (xs.length:Int)):=by
 subst K;exact Yl.len O U Y
variable {D:Nat->Bool}{listed:Array Bool}{s:St}{E':LH}
variable {y:Operand}{u:TypeId}{v:Value}{kd:IntKind}
variable{args:Array Operand}
section
variable {b:Frame}{n m fuel:Nat}{H:LH}
variable {x:Operand}{g:On_}
theorem TF{R:Value->St->Prop}(U:s.q=false)(Y:Region.ready .any ops listed=[i])
  (Z:ops[i]?=some ⟨d,.call ⟨.value x,args,ats⟩,ty,p,af,g⟩) (aa:ev L x=some (.func (.func f) #[] #[])) (ab:A6 n d=true) (hw:AQ L ops ⟨d,.call ⟨.value x,args,ats⟩,ty,p,af,g⟩=some true) (hb:Cz P f=true) (ae:evs L args.toList=some vs)
  (ag:DK J f vs.toArray s R) (h:∀v K,R v K->K.q=false/\(∀x o,(A2 D s).E x=some o->(A2 D K).E x=some o)/\AI J Q b n ds ops k cs m D fuel (AV listed i) (Az L d v) K):
  AI J Q b n ds ops k cs m D (fuel+1) listed L s:=by
 refine AI.one U Y Z (by simp[CQ,ab]) hw λρ O=>?_;have ah:args.map ρ=vs.toArray:=by
  rw[← ER O ae];apply lR;simp
 have ai:ρ x=.func (.func f) #[] #[]:=O _ _ aa;simp only[execOp,resolve,bind,Sem.bind,Deferred.ofValue,ai,pure,invoke];have e: #[]++args.map ρ++ #[]=vs.toArray:=by rw[ah];simp
 rw[e];refine H2 hb ?_;rw[JZ];exact⟨R,ag,h⟩
theorem TL{bks:List Nat}(ag:Hf S bks)(ah:AO J f vs E [] R)(ai:Region.ready .any ops listed=[i])
  (aj:ops[i]?=some ⟨d,.call ⟨.value x,args,ats⟩,ty,p,af,g⟩) (K:ev L x=some (.func (.func f) #[] #[])) (ak:A6 n d=true) (hw:AQ L ops ⟨d,.call ⟨.value x,args,ats⟩,ty,p,af,g⟩=some true) (hb:Cz P f=true) (al:evs L args.toList=some vs) (Z:An E H S)
  (am:∀v E' seg',Le E E'->R v E' seg'->An E' H (S++ [seg'])->AI J Q b n ds ops k cs m (AL bks) fuel (AV listed i) (Az L d v) (Ah E' H (S++ [seg']))):
  AI J Q b n ds ops k cs m (AL bks) (fuel+1) listed L (Ah E H S):=by
 have an:=DK.Km (ah (AM S.flatten H) trivial) (by rintro v s' ⟨E',B',_,_,_,rfl⟩;rfl);refine TF V ai aj K ak hw hb al an ?_;rintro v ay ⟨⟨E',B',hle,ao,ap,rfl⟩,w,aq⟩;have e2:mk E' (AM S.flatten H) B'=mk E' H (B'++S.flatten):=by unfold mk;rw[DC]
 have ar:Nd E' H S.flatten:=Nd.grow Z λx K=>by
  have au:=aq.d x K;have U:AM B' (AM S.flatten H) x=none:=au;exact(FF U).1
 have aa:Nd E' H (B'++S.flatten):=Nd.glue ap ar;have ab:(B'++S.flatten).Perm (S++ [B']).flatten:=by rw[Gi];exact f6
 have ae:An E' H (S++ [B']):=Nd.perm aa ab;rw[e2,C3 aa ab];refine⟨V,λx o K=>?_,am v E' B' hle ao ae⟩;by_cases hd:AL bks x=true
 .obtain⟨j,o',Y⟩:=ag.mem x (by simpa [AL] using hd);have U:(Ah E H S).get x=some o':=Ef (i:=0) Z Y V;have av:j<S.length:=(d0.1 Y).1;have aw:(Ah E' H (S++ [B'])).get x=some o':=Ef (i:=0) ae (by rw[lg av];exact Y) rfl;have O:(if AL bks x then(Ah E H S).get x else E x)=some o:=K
  show(if AL bks x then(Ah E' H (S++ [B'])).get x else E' x)=some o
  rw[d5 hd] at O ⊢;rw[aw,← U];exact O
 .have O:(if AL bks x then(Ah E H S).get x else E x)=some o:=K
  show(if AL bks x then(Ah E' H (S++ [B'])).get x else E' x)=some o
  rw[d7 hd] at O ⊢;exact hle _ _ O
end
section
variable {b:Frame}{n:Nat}{H:LH}
variable {x:Operand}{g:On_}{rest:List Nat}
theorem Ol
  (O:AO J f vs E [] R) (U:ops[i]?=some ⟨d,.call ⟨.value x,args,ats⟩,ty,p,af,g⟩) (Y:ev L x=some (.func (.func f) #[] ([]:Lv_).toArray)) (hw:AQ L ops ⟨d,.call ⟨.value x,args,ats⟩,ty,p,af,g⟩=some true) (Z:((b.kind != .early)&&A6 n d)=true) (hb:Cz P f=true)
  (aa:evs L args.toList=some vs) (ab:An E H S) (ae:∀v E' seg',Le E E'->R v E' seg'->An E' H (S++ [seg'])->JL J Q b n (Az L d v) ds (.inRegion ops rest::k) cs (Ah E' H (S++ [seg']))):
  JL J Q b n L ds (.inRegion ops (i::rest)::k) cs (Ah E H S):=by
 have ag:Co J (.func (.func f) #[] ([]:Lv_).toArray) vs E [] R:=Co.ofFn hb (by rw[lf];exact O);have ah:An E H (S++ [[]]):=by unfold An at*;rw[Gi,lf];exact ab
 have ai:Ah E H S=Ah E H (S++ [[]]):=by unfold Ah;rw[Gi,lf]
 rw[ai];refine GG (seg:=[]) S.length ag U hw Z Y aa ah (by simp) λv E' seg' hle aj K=>?_;have ak:(S++ [([]:Seg)]).set S.length seg'=S++ [seg']:=HE _ _ _ _;rw[ak] at K ⊢;exact ae v E' seg' hle aj K
end
def Nn(a b:Int):Option Int:=if b=0 then none else AG (a.tdiv b)
def O9(l:List Nat)(i:Int):Option Nat:=if 0<=i then l[i.toNat]? else none
variable {ρ:Operand->Value}{z:Operand}{kd':IntKind}{m':Int}{a:Nat}
variable{r:Int}
section
variable {x:Operand}{g:On_}{m:Int}{b:Nat}
theorem Vm(K:ρ x=iV m)(O:ρ y=iV m')(h:Nn m m'=some r):Yl P ⟨d,.binOp .quo t x y u,ty,p,af,g⟩ ρ s (iV r):=by
 unfold Nn at h;split at h;cases h
 .rename_i U;obtain⟨rfl,hb⟩:=JX h;have:=Yl.quo (P:=P) (s:=s) (d:=d) (t:=t) (u:=u) (ty:=ty) (p:=p) (af:=af) (g:=g) K O U
  rwa[H5 hb] at this
theorem YY{a:Nat}:IntKind.u8.wrap (a:Int)=((a%256:Nat):Int):=by
 simp only[IntKind.wrap,IntKind.bits,IntKind.signed];simp
theorem Wy(K:P.underlying t=some (.int .u64))(hu:P.underlying u=some (.int .u8))(O:ρ x=.int .u64 (a:Int)):Yl P ⟨d,.convert t u x,ty,p,af,g⟩ ρ s (.int .u8 ((a%256:Nat):Int)):=by
 have h:=Ek (P:=P) (s:=s) (d:=d) (ty:=ty) (p:=p) (af:=af) (g:=g) K hu O
 rw[YY] at h;exact h
theorem Vp(K:P.underlying t=some (.int .u8))(hu:P.underlying u=some (.int .i64))(O:ρ x=.int .u8 (a:Int))(h:AG ((a:Nat):Int)=some r):Yl P ⟨d,.convert t u x,ty,p,af,g⟩ ρ s (iV r):=by
 obtain⟨rfl,hb⟩:=JX h;have h:=Ek (P:=P) (s:=s) (d:=d) (ty:=ty) (p:=p) (af:=af) (g:=g) K hu O
 rwa[H5 hb] at h
theorem Ub{l:List Nat}{bs:ByteArray}{r:Nat}(O:(bs.data.toList.map UInt8.toNat==l)=true)(U:P.underlying t=some .string)(Y:ρ y=.int kd m)(Z:ρ (.const (.string bs))=.string bs)(h:O9 l m=some r):Yl P ⟨d,.index t (.const (.string bs)) y,ty,p,af,g⟩ ρ s (.int .u8 (r:Int)):=by
 unfold O9 at h;split at h
 .rename_i aa;have ab:=eq_of_beq O;rw[← ab,l8] at h;obtain⟨K,hb,rfl⟩:=lJ.1 h;have ae:bs[m.toNat]?=some K:=by
   have ag:bs.data[m.toNat]?=some K:=by rw[← lN];exact hb
   let⟨ah,ai⟩:=d4.1 ag;rw[getElem?_pos bs m.toNat ah];exact lq some ai
  simp[Yl,execOp,lp,pure,bind,Sem.bind,Z,Y,Instr.index,underlying,program,U,aa,ae,asIntOf]
 .cases h
end
variable{s':St}{oi:Oper}{pure w:Bool}
section
variable (J:Judge P)(Q:Gs_)(b:Frame)(ds:Ld_)(ops:Ao_)(k:Li_)(cs:Lf_)(X D D0:Nat->Bool)
def JB:Nat->Array Bool->Av_->St->Prop
 | 0,listed,T,s=>Region.ready .any ops listed=[]/\J.ok Q (G (fr b T ds (.inRegion ops []::k)) cs) s
 | fuel+1,listed,T,s=>
  Region.ready .any ops listed≠ []/\s.q=false/\∀i∈Region.ready .any ops listed,∀o,ops[i]?=some o->(∀c,o.op≠ .defer c)/\
   (Region.wanted o (yielded ops T)=false->JB fuel (AV listed i) (Cb T o.dst undef) s)/\
   (Region.wanted o (yielded ops T)=true->X i=true->lp P (execOp (A7 T) o) s (λK s'=>(∀x u,D0 x=true->s.get x=some u->s'.get x=some u)/\match K with
    | .value v=>JB fuel (AV listed i) (Cb T o.dst v) s'
    | .skip=>JB fuel (AV listed i) (Cb T o.dst undef) s'
    | _=>False) (λ_ _=>False))/\
   (Region.wanted o (yielded ops T)=true->X i=false->lp P (execOp (A7 T) o) (A2 D s) (λK s'=>match K with
    | .value v=>JB fuel (AV listed i) (Cb T o.dst v) (BV D s s')
    | .skip=>JB fuel (AV listed i) (Cb T o.dst undef) (BV D s s')
    | _=>False) (λ_ _=>False))
variable {J Q b ds ops k cs X D D0}
theorem UE(Z:b.kind≠ .early):∀(fuel t:Nat) (listed:Array Bool) (T:Av_) (s:St),JB J Q b ds ops k cs X D D0 fuel listed T s->
  J.ok Q (G (fr b T ds (.inRegion ops (Region.linearise.go .any ops fuel t listed [])::k)) cs) s:=by
 intro fuel
 induction fuel with
 | zero=>intro t listed T s h;simpa [Region.linearise.go] using h.2
 | succ fuel O=>
  intro t listed T s h;obtain⟨ae,ag,h⟩:=h;obtain⟨i,hi⟩:∃i,(Region.ready .any ops listed)[t%(Region.ready .any ops listed).length]?=some i:=by
   have:0<(Region.ready .any ops listed).length:=List.length_pos_iff.2 ae;exact⟨_,d3 (nP _ this)⟩
  have aa:=ll hi;have hgo:Region.linearise.go .any ops (fuel+1) t listed []=i::Region.linearise.go .any ops fuel (t/(Region.ready .any ops listed).length) (AV listed i) []:=by
   simp only[Region.linearise.go];change (match(Region.ready .any ops listed)[t%(Region.ready .any ops listed).length]? with
    | some i=>Region.linearise.go .any ops fuel (t/(Region.ready .any ops listed).length) (listed.setIfInBounds i true) [i]
    | none=>[].reverse)=_
   rw[hi];simp only;rw[linearise_go_acc];rfl
  rw[hgo];let⟨_,o,U,_⟩:=mem_ready.1 aa;let⟨hd,ah,ai,aj⟩:=h i aa o U;cases hw:Region.wanted o (yielded ops T) with
  | false=>exact Judge.unwanted U hw (O _ _ _ _ (ah hw))
  | true=>
   cases ab:X i with
   | true=>
    refine Judge.oper U hw Z (.inr hd) (CH _ (ai hw ab) ?_ (λ_ _ h=>h.elim));rintro Y s' ⟨_,K⟩;cases Y with
    | value v=>exact O _ _ _ _ K
    | skip=>exact O _ _ _ _ K
    | _=>exact K.elim
   | false=>
    refine Judge.Q8 D U hw Z hd ag (CH _ (aj hw ab) ?_ (λ_ _ h=>h));intro Y s' K;cases Y with
    | value v=>exact O _ _ _ _ K
    | skip=>exact O _ _ _ _ K
    | _=>exact K.elim
def waitAll(ops:Ao_)(X:Nat->Bool)(i:Nat):Bool:=(List.range ops.size).all λj=> !X j || waits ops ops.size j i
theorem VK{D:Nat->Bool}{s:St}(K:s'.E=(A2 D s).E){x:Nat}{o:Obj}(h:s.E x=some o):(BV D s s').E x=some o:=by
 by_cases hd:D x;simp[BV,hd,h];have:=congrFun K x;simp[A2,hd] at this;simp[BV,hd,this,h]
theorem Vo{D0 D:Nat->Bool}{s:St}(h:∀x,D0 x=true->D x=true):∀x o,(A2 D0 s).E x=some o->(A2 D s).E x=some o:=λx o K=>by
 simp only[A2] at K ⊢
 split;split at K;exact K;unfold St.get;rw[K];rename_i hd;rw[d7 (λe=>hd (h x e))] at K;exact K
theorem UM{D0:Nat->Bool}{s:St}(h:∀x u,D0 x=true->s.get x=some u->s'.get x=some u)(O:s'.E=s.E):∀x o,(A2 D0 s).E x=some o->(A2 D0 s').E x=some o:=λx o K=>by
 simp only[A2] at K ⊢
 split;rename_i hd;rw[d5 hd] at K;exact h x o hd K;rename_i hd;rw[d7 hd] at K;rw[O];exact K
theorem Pp{D0 D:Nat->Bool}{s:St}(h:∀x,D0 x=true->D x=true)(O:s'.E=(A2 D s).E):∀x o,(A2 D0 s).E x=some o->(A2 D0 (BV D s s')).E x=some o:=λx o K=>by
 simp only[A2] at K ⊢
 split
 .rename_i hd;rw[d5 hd] at K
  unfold St.get BV;simp only[h x hd,lQ];exact K
 .rename_i hd;rw[d7 hd] at K;exact VK O K
theorem Vh{i:Nat}{v:Value}(aH:∀x,D0 x=true->D x=true)(hi:ops[i]?=some oi)(a2:X i=false)(aR:(pure || waitAll ops X i)=true)(a3:Region.noSelect ops=true)(a4:∀c,oi.op≠ .defer c):
  ∀(fuel:Nat) (listed:Array Bool) (T:Av_) (s:St),HJ ops listed i oi=true->GL ops listed=true->listed.size=ops.size->i∈Region.ready .any ops listed->s.q=false->Region.wanted oi (yielded ops T)=w->
   (w=true->∀s',s'.q=false->(∀x o,(A2 D0 s).E x=some o->s'.E x=some o)->(pure=false->∀x o,(A2 D s).E x=some o->s'.E x=some o)->Yl P oi (A7 T) s' v)->
   JB J Q b ds ops k cs X D D0 fuel (AV listed i) (Cb T oi.dst (if w then v else undef)) s->JB J Q b ds ops k cs X D D0 (fuel+1) listed T s:=by
 have aj:∀(j:Nat) (ae:Oper),ops[j]?=some ae->∀cs b,ae.op≠Op.select cs b:=λj ae h cs b=>Region.noSelect_spec a3 j ae cs b h;intro fuel
 induction fuel with
 | zero=>?_
 | succ fuel ao=>?_
 all_goals
  intro listed T s aS aT ap aE aq hw ak h;refine⟨λe=>(by rw[e] at aE;cases aE),aq,λj aU ae U=>?_⟩;by_cases ar:j=i
  .subst ar;obtain rfl:ae=oi:=by rw[hi] at U;exact(d6 U).symm
   refine⟨a4,λO=>?_,λal K=>?_,λal K=>?_⟩;rw[O] at hw;subst hw;exact h;rw[a2] at K;cases K;rw[al] at hw;subst hw;refine CH _ (ak V (A2 D s) aq (Vo aH) λ_ _ _ h=>h).out ?_ (λ_ _ h=>h);rintro aF s' ⟨rfl,rfl⟩;rw[JZ];exact h
  ·
   have aV:j∈Region.ready .any ops (AV listed i):=ready_mono aU ar;let⟨am,Y,aW,aI⟩:=mem_ready.1 aU;obtain rfl:Y=ae:=by rw[U] at aW;exact(d6 aW).symm
   have aJ:=(mem_ready.1 aE).1;have a5:(Y.after.any λe=>Region.binds .any e&&e.on==i)=false:=by
    rw[Array.any_eq_false];intro e he K;simp only[f5,mH] at K;have:=aI _ (Array.getElem_mem he) K.1;rw[K.2] at this;have an:listed.getD i true=listed.getD i false∨listed.size<=i:=by
     rcases lb i listed.size with q | q;left;simp[f4,q];exact .inr q
    rcases an with an | an;rw[aJ,this] at an;cases an;rw[f4,lk an] at this;simp at this
   have a6:oi.apart ops Y=true:=by
    have aK:j<ops.size:=(d4.1 U).1;have:=lE.1 aS j (lO.2 aK);simp only[l6,mH] at this;rcases this with(q | q) | q;exact absurd q ar;rw[am] at q;cases q;rw[U] at q;simp only[l6] at q;rw[a5] at q;exact q.resolve_left (by simp)
   let⟨a1,au,av⟩:=Oper.apart_spec a6;let⟨p1,p2⟩:=G7 (ops:=ops) (T:=T) (v:=if w then v else undef) (aj j Y U) a1
   first
    | exact absurd aV (by rw[h.1];simp)
    | (
     obtain⟨bi,_,h⟩:=h
     let⟨hd,O,a7,a8⟩:=h j aV Y U
     have aw:AV (AV listed i) j=AV (AV listed j) i:=by
      unfold AV;exact nf _ _ (lu ar)
     have ay:i∈Region.ready .any ops (AV listed j):=ready_mono aE (lu ar)
     have az:HJ ops (AV listed j) i oi=true:=by
      refine lE.2 λx K=>?_
      have:=lE.1 aS x K
      simp only[l6,mH] at this ⊢
      rcases this with(q | q) | q;exact .inl (.inl q)
      .left;right
       by_cases e:j=x;subst e;rw[am] at q;cases q;rw[AV,getD_set_ne true e];exact q
      .exact .inr q
     have aA:(AV listed j).size=ops.size:=by unfold AV;simpa using ap
     have aB:GL ops (AV listed j)=true:=by
      refine lE.2 λx K=>?_
      cases aL:ops[x]? with
      | none=>simp
      | some a9=>
       simp only[l6,nk]
       by_cases e:j=x
       .subst e
        obtain rfl:a9=Y:=by rw[U] at aL;exact(d6 aL).symm
        right
        refine mU.2 λe he=>?_
        cases hb:Region.binds .any e with
        | false=>simp
        | true=>
         have:=aI e he hb
         by_cases e2:j=e.on
         .rw [← e2] at this
          have aM:j<listed.size:=by rw[ap];exact(d4.1 U).1
          simp[f4,aM] at this am
          rw[am] at this;cases this
         .rw [AV,getD_set_ne false e2];simpa using this
       .cases aX:(AV listed j).getD x false with
        | false=>exact .inl rfl
        | true=>
         right
         have ba:listed.getD x false=true:=by rw[AV,getD_set_ne false e] at aX;exact aX
         refine mU.2 λaN he=>?_
         cases hb:Region.binds .any aN with
         | false=>simp
         | true=>
          have:=NS aT aL ba aN he hb
          by_cases e2:j=aN.on
          .rw [← e2] at this
           have aM:j<listed.size:=by rw[ap];exact(d4.1 U).1
           simp[f4,aM] at this am
           rw[am] at this;cases this
          .rw [AV,getD_set_ne false e2];simpa using this
     refine⟨hd,λbb=>?_,λaO aG=>?_,λaO aG=>?_⟩
     .have:=O (by rw[p2];exact bb)
      rw[aw,H6 au] at this
      let⟨Z,aa⟩:=G7 (ops:=ops) (T:=T) (d:=Y.dst) (v:=undef) (o:=oi) (aj i oi hi) av
      exact ao _ _ _ az aB aA ay aq (by rw[aa];exact hw) (λab s' be O ag=>by unfold Yl;rw[Z];exact(ak ab s' be O ag).out) this
     ·
      have bf:pure=true:=by
       cases bg:pure with
       | true=>rfl
       | false=>
        exfalso
        rw[bg,oj] at aR
        have aK:j<ops.size:=(d4.1 U).1
        have al:=lE.1 aR j (lO.2 aK)
        rw[aG] at al
        simp only[nH,oj] at al
        rcases Pv aT _ j Y U (λe he hb=>aI e he hb) al with q | ⟨x,Z,aa⟩
        .have bh:i<listed.size:=by rw[ap];exact(d4.1 hi).1
         simp[f4,bh] at q aJ
         rw[aJ] at q;cases q
        .have:¬x<listed.size:=by rw[ap];intro K;simp[K] at Z
         simp[f4,this] at aa
      have aC:=Ni _ (a7 (by rw[p2];exact aO) aG)
      rw[p1] at aC
      refine CH _ aC ?_ (λ_ _ h=>h)
      rintro aF s' ⟨⟨aP,K⟩,ag,aQ⟩
      have aY:=UM aP ag
      have aD:s'.q=false:=aQ.trans aq
      have aZ:pure=false->∀{α:Prop},α:=λe=>by rw[bf] at e;cases e
      cases aF with
      | value u=>
       simp only at K ⊢
       rw[aw,H6 au] at K
       let⟨Z,aa⟩:=G7 (ops:=ops) (T:=T) (d:=Y.dst) (v:=u) (o:=oi) (aj i oi hi) av
       exact⟨aP,ao _ _ _ az aB aA ay aD (by rw[aa];exact hw) (λab s2 ah O ai=>by unfold Yl;rw[Z];exact(ak ab s2 ah (λx o h=>O x o (aY x o h)) (λe=>aZ e)).out) K⟩
      | skip=>
       simp only at K ⊢
       rw[aw,H6 au] at K
       let⟨Z,aa⟩:=G7 (ops:=ops) (T:=T) (d:=Y.dst) (v:=undef) (o:=oi) (aj i oi hi) av
       exact⟨aP,ao _ _ _ az aB aA ay aD (by rw[aa];exact hw) (λab s2 ah O ai=>by unfold Yl;rw[Z];exact(ak ab s2 ah (λx o h=>O x o (aY x o h)) (λe=>aZ e)).out) K⟩
      | _=>exact K.elim
     .have aC:=Ni _ (a8 (by rw[p2];exact aO) aG)
      rw[p1] at aC
      refine CH _ aC ?_ (λ_ _ h=>h)
      rintro aF s' ⟨K,ag,aQ⟩
      have a0:=PI (D:=D) ag
      have aD:(BV D s s').q=false:=by show s'.q=false;rw[aQ];exact aq
      cases aF with
      | value u=>
       simp only at K ⊢
       rw[aw,H6 au] at K
       let⟨Z,aa⟩:=G7 (ops:=ops) (T:=T) (d:=Y.dst) (v:=u) (o:=oi) (aj i oi hi) av
       exact ao _ _ _ az aB aA ay aD (by rw[aa];exact hw) (λab s2 ah O ai=>by unfold Yl;rw[Z];exact(ak ab s2 ah (λx o h=>O x o (Pp aH ag x o h)) (λe=>by rw[a0] at ai;exact ai e)).out) K
      | skip=>
       simp only at K ⊢
       rw[aw,H6 au] at K
       let⟨Z,aa⟩:=G7 (ops:=ops) (T:=T) (d:=Y.dst) (v:=undef) (o:=oi) (aj i oi hi) av
       exact ao _ _ _ az aB aA ay aD (by rw[aa];exact hw) (λab s2 ah O ai=>by unfold Yl;rw[Z];exact(ak ab s2 ah (λx o h=>O x o (Pp aH ag x o h)) (λe=>by rw[a0] at ai;exact ai e)).out) K
      | _=>exact K.elim)
end
section
variable (J:Judge P)(Q:Gs_)(b:Frame)(n:Nat)(ds:Ld_)(ops:Ao_)(k:Li_)(cs:Lf_)(X D D0:Nat->Bool)
def Fv(fuel:Nat)(listed:Array Bool)(L:Env)(s:St):Prop:=∀T,Has n L T->JB J Q b ds ops k cs X D D0 fuel listed T s
end
theorem JB.take{i:Nat}{v:Value}{P:Program}{J:Judge P}{Q:Gs_}{b:Frame}{ds:Ld_}{ops:Ao_}{k:Li_}{cs:Lf_}{X D D0:Nat->Bool}(K:∀x,D0 x=true->D x=true)(hi:ops[i]?=some oi)(O:X i=false)(U:(pure || waitAll ops X i)=true)(Y:Region.noSelect ops=true)(Z:∀c,oi.op≠ .defer c)
  (fuel:Nat) (listed:Array Bool) (T:Av_) (s:St) (aa:HJ ops listed i oi=true) (ab:GL ops listed=true) (ae:listed.size=ops.size) (ag:i∈Region.ready .any ops listed) (ah:s.q=false) (ai:Region.wanted oi (yielded ops T)=w)
  (aj:w=true->∀s',s'.q=false->(pure=false->∀x o,(A2 D s).E x=some o->s'.E x=some o)->Yl P oi (A7 T) s' v)
  (h:JB J Q b ds ops k cs X D D0 fuel (AV listed i) (Cb T oi.dst (if w then v else undef)) s):JB J Q b ds ops k cs X D D0 (fuel+1) listed T s:=
 Vh K hi O U Y Z fuel listed T s aa ab ae ag ah ai (λe s' ak _ al=>aj e s' ak al) h
def Kn(ops:Ao_)(listed:Array Bool)(xs:List Nat)(pure:Bool)(i:Nat):Bool:=match ops[i]? with
 | some oi=> !AL xs i&&(pure || waitAll ops (AL xs) i)&&Region.noSelect ops&& !CQ oi.op&&HJ ops listed i oi&&GL ops listed&&listed.size==ops.size&&(Region.ready .any ops listed).contains i
 | none=>false
variable {X:Nat->Bool}{l0 xl bks:List Nat}
section
variable {b:Frame}{n fuel:Nat}{H:LH}
variable {x:Operand}{g:On_}
theorem VN(xl bks l0:List Nat){id:Nat}(hm:P.follows .mixedOrders=true)(K:(b.kind != .early)=true)
  (h:Fv J Q b n ds ops k cs (AL xl) (AL (l0++bks)) (AL l0) ops.size (Array.replicate ops.size false) L (Ah E H S)):JL J Q b n L ds (.code (.region id ops true)::k) cs (Ah E H S):=
 Q9 V hm λt T O=>UE (by simpa using K) ops.size t _ T _ (h T O)
theorem WS:∀x,AL l0 x=true->AL (l0++bks) x=true:=λx h=>by
 simp only[AL,List.contains_iff_mem,lm] at h ⊢;exact .inl h
theorem JB.val(i:Nat)(pure:Bool)(hi:ops[i]?=some oi)(K:Kn ops listed xl pure i=true)(Y:s.q=false)
  (hw:AQ L ops oi=some true) (Z:A6 n oi.dst=true) (aa:∀ρ,Ed L ρ->∀s':St,(pure=false->∀x o,(A2 (AL (l0++bks)) s).E x=some o->s'.E x=some o)->Yl P oi ρ s' v)
  (h:Fv J Q b n ds ops k cs (AL xl) (AL (l0++bks)) (AL l0) fuel (AV listed i) (Az L oi.dst v) s):Fv J Q b n ds ops k cs (AL xl) (AL (l0++bks)) (AL l0) (fuel+1) listed L s:=λT O=>by
 simp only[Kn,hi,f5] at K
 obtain⟨⟨⟨⟨⟨⟨⟨ab,ae⟩,ag⟩,U⟩,ah⟩,ai⟩,aj⟩,ak⟩:=K
 refine JB.take (w:=true) (v:=v) (pure:=pure) WS hi (by simpa using ab) ae ag (λc K=>by rw[K] at U;simp[CQ] at U) fuel listed T s ah ai (by simpa using aj) (by simpa using ak) Y (Cd O hw) (λ_ s' am al=>aa _ O.El s' al) ?_
 exact h _ (O.put Z v)
theorem JB.fin{l0:List Nat}(K:Region.ready .any ops listed=[])(h:JL J Q b n L ds k cs s):Fv J Q b n ds ops k cs X D (AL l0) 0 listed L s:=λT O=>⟨K,JL.done h T O⟩
def LM(S:List Seg)(j:Nat):List Nat->Prop
 | []=>True
 | bk::l=>(∃(i:Nat) (o:Obj),(i==j)=false/\S[i]?=some [(bk,o)])/\LM S j l
theorem LM.mem{S:List Seg}{j:Nat}:∀{l:List Nat},LM S j l->∀bk∈l,∃(i:Nat) (o:Obj),i≠j/\S[i]?=some [(bk,o)]
 | [],_,_,h=>by cases h
 | b::l,⟨⟨i,o,hi,h⟩,K⟩,bk,hb=>by
  rcases li.1 hb with rfl | hb;exact⟨i,o,by simpa using hi,h⟩;exact K.mem bk hb
theorem JB.store{bk off:Nat}{c:Av_}(i j:Nat)(Y:Region.ready .any ops listed=[i])(aj:AL xl i=true)(ak:ops[i]?=some ⟨d,.store t x y,ty,p,af,g⟩)(hw:AQ L ops ⟨d,.store t x y,ty,p,af,g⟩=some true)(al:A6 n d=true)(Z:An E H S)
  (O:ev L x=some (.pointer (some ⟨bk,off,none⟩))) (am:ev L y=some v) (an:A5 P t=some v.cells.size) (ao:∀u∈v.cells.toList,BX u=true) (aa:S[j]?=some [(bk,.cells c e (0,0))]) (ap:LM S j l0) (hle:off+v.cells.size<=c.size)
  (h:An E H (S.set j [(bk,.cells (Bx c off v.cells.toList) e (0,0))])->Fv J Q b n ds ops k cs (AL xl) (AL (l0++bks)) (AL l0) fuel (AV listed i) (Az L d undef) (Ah E H (S.set j [(bk,.cells (Bx c off v.cells.toList) e (0,0))]))):
  Fv J Q b n ds ops k cs (AL xl) (AL (l0++bks)) (AL l0) (fuel+1) listed L (Ah E H S):=λT K=>by
 refine⟨by rw[Y];simp,rfl,λaB U o' ab=>?_⟩
 rw[Y] at U
 simp at U
 subst U
 obtain rfl:o'=⟨d,.store t x y,ty,p,af,g⟩:=by rw[ak] at ab;exact(d6 ab).symm
 have aq:=Cd K hw;refine⟨λc ar=>(by cases ar),λe=>?_,λ_ _=>?_,λ_ e=>?_⟩;rw[aq] at e;cases e
 .let⟨ae,au⟩:=FU Z aa;rw[ae];show lp P (do Instr.storeAt t (A7 T x) (A7 T y);pure Next.skip) _ _ _
  rw[K.ev O,K.ev am];refine Av _ _ ?_;unfold Instr.storeAt;simp only[Instr.sureAddr,bind,Sem.bind,pure];refine NO (pl:=(S.set j []).flatten.length) an ao au (c:=c) (e:=e) (by simp) hle λag=>?_;have av:((S.set j []).flatten++ [(bk,Obj.cells c e (0,0))]).set (S.set j []).flatten.length (bk,.cells (Bx c off v.cells.toList) e (0,0))=(S.set j []).flatten++ [(bk,.cells (Bx c off v.cells.toList) e (0,0))]:=HE _ _ _ _;rw[av] at ag ⊢;let⟨aw,ah⟩:=HH aa ag;rw[aw];refine⟨λx u O ay=>?_,h ah _ (K.put al undef)⟩;obtain⟨aC,o',az,ai⟩:=ap.mem x (by simpa [AL] using O);have aA:(Ah E H S).get x=some o':=Ef (i:=0) Z ai rfl;have g2:(Ah E H (S.set j [(bk,.cells (Bx c off v.cells.toList) e (0,0))])).get x=some o':=Ef (i:=0) ah (by rw[l7 (lu az)];exact ai) rfl;have g0:(Ah E H S).get x=some u:=by rw[ae];exact ay
  rw[aA] at g0;rw[g2];exact g0
 .rw [aj] at e;cases e
end
theorem KO{E H:LH}{S:List Seg}{bks:List Nat}{bk o:Nat}{l ws:Lv_}{e:TypeId}{f:Nat×Nat}{w:Value}(j:Nat)(K:An E H S)(O:S[j]?=some [(bk,.cells (l++ws).toArray e f)])(U:AL bks bk=true)(Y:∀x o,(A2 (AL bks) (Ah E H S)).E x=some o->s'.E x=some o)(Z:ws[o]?=some w):s'.cell? ⟨bk,l.length+o,none⟩=some w:=by
 have:=UT j K O U Y o w Z
 rwa[CV rfl] at this
variable {B:List (Nat×Obj)}
variable{l:Nat}
section
variable {H:LH}
theorem SA{a:Option Addr}{k' m cx:Nat}{ax:Option Addr}{xs ys:Lv_}{z:Value}{Q:Value->St->Prop}{X:Halt->St->Prop}
  (an:ats[0]?=some t) {t1 ao:TypeId}(ap:ats[1]?=some t1) (aq:P.underlying t1=some (.slice ao)) (ar:P.underlying t=some (.slice e)) (au:A5 P e=some K) (hb:Ew P e=some k') (av:zeroOf P e=some z) (aw:z.cells.size=K)
  (ay:Nd E H B) (ae:GR (mk E H B) (.slice a l l) K xs)
  (Z:GR (mk E H B) (.slice ax m cx) K ys) (aH:∀w∈ys,BX w=true) (aI:0<k') (aJ:l+m<=2^40) (az:k'<=127)
  (al:m=0->Q (.slice a (l+m) l) (mk E H B))
  (aA:∀r aa ag,l+m<=ag->aa.size=ag*K->aa.toList.take ((l+m)*K)=xs++ys->Nd E H (B++ [(r,.cells aa e (0,0))])->Q (.slice (some ⟨r,0,none⟩) (l+m) ag) (mk E H (B++ [(r,.cells aa e (0,0))]))):
  lp P (Builtin.append_ ats ty #[.slice a l l,.slice ax m cx]) (mk E H B) Q X:=by
 unfold Builtin.append_;simp only[an,ap,lA,l4,nh];refine Av _ _ (B6 ar ?_);refine Av _ _ (DO au ?_);refine Av _ _ (B6 aq ?_);simp only[GB,ld,lK,Builtin.lenOf,nB,lQ];have ab:ys.length=m*K:=by
  cases ax with
  | none=>obtain⟨U,Y⟩:=Z;subst U Y;simp
  | some ad=>exact Z.2.1
 have ah:xs.length=l*K:=by
  cases a with
  | none=>obtain⟨U,Y⟩:=ae;subst U Y;simp
  | some ad=>exact ae.2.1
 obtain⟨c,aK⟩:∃c,c=l:=⟨_,V⟩;split
 .rename_i aL;have hm:m=0:=by omega
  have aB:ys=[]:=lD (by rw[ab,hm];simp);refine Av _ _ (JV ⟨ax,cx,V⟩ Z ?_);subst aB;cases a with
  | none=>exact al hm
  | some ad=>exact al hm
 .rename_i aM;have U:¬(((l+m:Nat):Int)>IntKind.i64.max/\(False∨k'=0)):=by rintro⟨_,h | h⟩<;>omega
  have Y:¬(Builtin.nextslicecap (l+m) l*k'>2^48):=by
   have:=NY (need:=l+m) (old:=l) (by omega);have aN:Builtin.nextslicecap (l+m) l*k'<=(2*(l+m)+768)*127:=n8 this az;omega
  let⟨inf,ai,aj⟩:=KT hb;refine Av _ _ (GC ai ?_);rw[aj,d7 U];refine Av _ _ (GC ai ?_);rw[aj,d7 Y];refine Av _ _ ?_;simp only[choose,lp,Question.forced,ld,lK];refine⟨V,λaC=>?_⟩;generalize aD:(Question.appendCap (l+m) l e).cut aC=ak;have aE:l+m<=ak:=by rw[← aD];simp[Question.cut]
  refine Av _ _ (GC ai ?_);rw[aj];have aF:∀{α:Type}{f:Unit->Sem α}{Q:α->St->Prop},lp P (f ()) (mk E H B) Q X->lp P (askRoom (ak*k')>>=f) (mk E H B) Q X:=by
   intro α f Q am;refine Av _ _ ?_;unfold askRoom;split;exact⟨.inl ⟨V,V⟩,am⟩;exact am
  refine aF (Av _ _ (JV ⟨a,l,V⟩ ae ?_));refine Av _ _ (JV ⟨ax,cx,V⟩ Z ?_);refine Av _ _ (Fh av ?_);refine Av _ _ (HA ay λr aG=>?_);refine aA r _ ak aE ?_ ?_ aG;simp only[nN,mE,NJ,aw,ah,ab];rw[← ml,← ml];congr 1;omega;simp only[Array.toList_append];rw[ny (by simp[ah,ab,ml])];rw[me (by simp[ah,ab,ml])]
end
theorem Ak.spot{pp:Rp α}{E:LH}{a:Option Addr}{c:Nat}{xs:List α}(h:Ak pp E a c xs):∀ad,a=some ad->ad.spot=none∨c=0:=λad K=>by
 rcases h.2 with⟨_,h⟩ | ⟨bk,off,h,_⟩;exact h ad K;rw[h] at K;cases K;exact .inl rfl
theorem Ak.full{pp:Rp α}{E:LH}{a:Option Addr}{c:Nat}{xs:List α}(h:Ak pp E a c xs):Ak pp E a xs.length xs:=⟨la _,h.2.imp (λ⟨h,_⟩=>⟨h,λ_ _=>.inr (by rw[h];rfl)⟩) id⟩
theorem Ak.Q7{pp:Rp α}{E H:LH}{B:List (Nat×Obj)}{a:Option Addr}{c:Nat}{ys:List α}(aa:Ak pp E a c ys):
  ∃K:List (Lv_),K.length=ys.length/\(∀(i:Nat) x ws,ys[i]?=some x->K[i]?=some ws->pp.r E ws x)/\GR (mk E H B) (.slice a ys.length c) pp.n K.flatten/\∀w∈K.flatten,BX w=true:=by
 obtain⟨K,U,Z,Y⟩:=aa.rows;have ab:=Ic U Z;refine⟨K,U,Z,?_,λw hw=>?_⟩
 .rcases Y with⟨Y,ak⟩ | ⟨bk,off,rfl,Y⟩
  .subst Y;have:K=[]:=lD U;subst this;cases a with
   | none=>exact⟨rfl,rfl⟩
   | some ad=>exact⟨.inr rfl,by simp,mz _,λq w O=>by simp at O⟩
  .refine⟨.inl V,by rw[L8 ab,U],aa.1,λq w O=>?_⟩;let⟨ae,m,ws,ag,e2,ah⟩:=NQ ab O;have:=(Y ae ws ag).cell (H:=H) (B:=B) e2;subst ah;rw[← mc];exact this
 .let⟨us,ai,hw⟩:=mt.1 hw;let⟨q,O⟩:=lw.1 ai;have aj:q<ys.length:=by rw[← U];exact(d0.1 O).1
  exact pp.one (Z q _ us (d3 aj) O) w hw
variable {z1:Operand}
section
variable {b:Frame}{n:Nat}{H:LH}
variable {x:Operand}{g:On_}{rest:List Nat}
theorem Tg{a:Option Addr}{c:Nat}(O:∀ad,a=some ad->ad.spot=none∨c=0)(U:l<=c)(Y:P.underlying t=some (.slice e))(Z:A5 P e=some K)(aa:ρ x=.slice a l c)(ab:ρ y=iV (l:Int))(ae:ρ z1=iV (l:Int)):
  Yl P ⟨d,.slice t x none (some y) (some z1),ty,p,af,g⟩ ρ s (.slice a l l):=by
 have h:=Yl.slice (P:=P) (s:=s) (d:=d) (ty:=ty) (p:=p) (af:=af) (g:=g) (olo:=none) (ohi:=some y) (omx:=some z1) (lo:=0) (hi:=l) (mx:=l) Y Z aa ae ab V U (la _) (mz _);have ag:(if l=0 then a else a.map (·.add (0*K)))=a:=by
  split;rfl
  .cases a with
   | none=>rfl
   | some ad=>
    have:=(O ad rfl).resolve_right (by omega);simp only[lW,mC];rw[CV this];obtain⟨b,o,sp⟩:=ad;simp only at this;subst this;simp
 rw[ag] at h;simpa using h
end
end Pal
