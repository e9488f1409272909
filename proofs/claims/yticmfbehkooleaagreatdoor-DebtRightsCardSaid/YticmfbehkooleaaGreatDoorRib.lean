/- DebtRights: a part (2 of 9) of the proof of its row. -/
import Derived.Test.YticmfbehkooleaaGreatDoorRia
import Derived.Conc.CrowdComm
import Derived.Conc.TokenWalk
import Derived.Conc.MarkLaws
import Derived.Conc.AtomicLaws2
import Derived.Conc.ClockLaws
import Derived.Conc.WgLib
import Derived.Conc.WgArith
import Derived.Conc.WgGenW
set_option linter.all false
set_option maxRecDepth 100000
namespace Pal
open Go Go.Conc
open Go.ConcN (upd upd_same upd_ne sumTo sumTo_upd)
abbrev GP:=Gs_
structure M4 where
 l:Bool
 k:Bool
 s:Bool
 w:Nat
instance:DecidableEq M4:=λa b=>decidable_of_iff (a.l=b.l/\a.k=b.k/\a.s=b.s/\a.w=b.w) ⟨λh=>by cases a;cases b;simp_all,λh=>by subst h;simp⟩
def M4.zero:M4:=⟨false,false,false,0⟩
def M4.num(m:M4):Int:=((m.l.toNat+2*m.k.toNat+4*m.s.toNat+8*m.w:Nat):Int)
inductive LP where
 | GQ | HZ | EZ (sv aw:Bool) (it:Nat) | CN (sv aw:Bool) (it:Nat) (old:M4) | I4 (sv:Bool) | C9 (sv:Bool) | GN | Fl (sv:Bool) | EY (ex:Bool) | len | LK | KR | Gr
 | Hp | K1 | KZ | KT | IA | FC (old:M4) | H0 | FT (st:Bool) | FW
inductive Ph where
 | HX (k:Nat) | Hk | JJ | H4 | Hz | HV | F9
 | Et | GM (m:Nat) | H2 (v:Nat) | IJ | Gp | HU | GU | G4 | Iq
 | G5 (j:Nat) | I8 (j:Nat) | Iz (j:Nat) | HH (j:Nat) | Gy (j:Nat) | HB | Gw (K:List Nat) (vs:Lv_)
 | IG | Jh | I9 | Je (j:Nat)
 | lk (k:Nat) (p:LP)
inductive Nx where
 | ph (p:Ph) | gone (d:Nat)
structure Fam where
 wg:Nat
 mu:Nat
 fd:Nat
 ty:TypeId
 jO:TypeId
 jR:TypeId
 n:Nat
 msg:Nat->Value->LH->Prop
 fin:GP
namespace Fam
variable (F:Fam)
def has(_:Fam)(_:Nat):Bool:=false
def KK:Int:=4294967296
def IE(st sm:Int):Obj:=.cells #[.int .u64 st,.int .u32 sm] F.ty (0,0)
def word(v wt:Nat):Int:=(v:Int)*KK+wt
def WG(w:World)(v wt sm:Nat):Prop:=w.heap[F.wg]?=some (F.IE (word v wt) sm)
def put(w:World)(v wt sm:Nat):World:={w with heap:=w.heap.setIfInBounds F.wg (F.IE (word v wt) sm)}
def sA:Addr:=⟨F.wg,0,none⟩
def mA:Addr:=⟨F.wg,1,none⟩
def IF(st sm:Int):Obj:=.cells #[.int .i32 st,.int .u32 sm] F.jO (0,0)
def MU(w:World)(m:M4)(q:Nat):Prop:=w.heap[F.mu]?=some (F.IF m.num q)
def Gx(w:World)(m:M4)(q:Nat):World:={w with heap:=w.heap.setIfInBounds F.mu (F.IF m.num q)}
def uA:Addr:=⟨F.mu,0,none⟩
def qA:Addr:=⟨F.mu,1,none⟩
def Jg(f:Nat->Value):Obj:=.cells (Array.ofFn λi:Fin F.n=>f i) F.jR (0,0)
def FD(w:World)(f:Nat->Value):Prop:=w.heap[F.fd]?=some (F.Jg f)
def H3(w:World)(f:Nat->Value):World:={w with heap:=w.heap.setIfInBounds F.fd (F.Jg f)}
def CC(a:Addr):Event:=⟨.cell a,false,true⟩
def Fb(a:Addr):Event:=⟨.cell a,true,true⟩
def Dg(m:Mark):Event:=⟨.mark m,false,true⟩
def act:Ph->Nat->Nat->Nat->Option ((Nat×Nat×Nat)×Array Event×Nx)
 | .Hk,v,wt,sm=>some ((v,wt,sm),#[Dg (.releaseMerge F.sA)],.ph .JJ)
 | .JJ,v,wt,sm=>some ((v,wt,sm),#[Dg .disable],.ph .H4)
 | .H4,v,wt,sm=>if 1<=v/\v<2147483648/\wt<=1 then some ((v - 1,wt,sm),#[CC F.sA,Fb F.sA],if v=1/\wt=1 then .ph .Hz else .gone 1) else none
 | .Hz,v,wt,sm=>if v=0/\wt=1 then some ((0,1,sm),#[CC F.sA],.ph .HV) else none
 | .HV,v,wt,sm=>if v=0/\wt=1 then some ((0,0,sm),#[Fb F.sA],.ph .F9) else none
 | .F9,v,wt,sm=>if sm=0 then some ((v,wt,1),semEvents F.mA,.gone 1) else none
 | .Et,v,wt,sm=>some ((v,wt,sm),#[Dg .disable],.ph (.GM F.n))
 | .GM m,v,wt,sm=>if v<=m/\wt=0 then some ((v,0,sm),#[CC F.sA],if v=0 then .ph .GU else .ph (.H2 v)) else none
 | .H2 m,v,wt,sm=>if v<=m/\1<=m/\wt=0 then some (if v=m then((v,1,sm),#[CC F.sA,Fb F.sA],.ph .Jh) else((v,0,sm),#[CC F.sA],.ph (.GM (m - 1)))) else none
 | .IJ,v,wt,sm=>some ((v,wt,sm),#[Dg (.write F.mA)],.ph .Gp)
 | .Gp,v,wt,sm=>if sm=1 then some ((v,wt,0),semEvents F.mA,.ph .HU) else none
 | .HU,v,wt,sm=>if v=0/\wt=0 then some ((0,0,sm),#[CC F.sA],.ph .GU) else none
 | .GU,v,wt,sm=>some ((v,wt,sm),#[Dg .enable],.ph .I9)
 | .IG,v,wt,sm=>some ((v,wt,sm),#[],.ph .Hk)
 | .Jh,v,wt,sm=>some ((v,wt,sm),#[],.ph .IJ)
 | .I9,v,wt,sm=>some ((v,wt,sm),#[],.ph .G4)
 | .Je j,v,wt,sm=>some ((v,wt,sm),#[],.ph (.Iz j))
 | .G5 j,v,wt,sm=>some ((v,wt,sm),#[Dg .disable],.ph (.I8 j))
 | .I8 j,v,wt,sm=>if v<2147483647/\wt=0 then some ((v+1,0,sm),#[CC F.sA,Fb F.sA],if v=0 then .ph (.Je j) else .ph (.HH j)) else none
 | .Iz j,v,wt,sm=>some ((v,wt,sm),#[Dg (.read F.mA)],.ph (.HH j))
 | .HH j,v,wt,sm=>some ((v,wt,sm),#[Dg .enable],.ph (.Gy j))
 | _,_,_,_=>none
abbrev LO:=M4×Nat×Array Event×Option LP
def Gn(sv aw:Bool)(it:Nat)(old m:M4)(q:Nat):List LO:=
 (if old.l=true/\old.s=false/\it<4 then
  (if aw=false/\old.k=false/\old.w≠0 then
   [if m=old then({m with k:=true},q,#[CC F.uA,Fb F.uA],some (.EZ sv true (it+1))) else(m,q,#[CC F.uA],some (.EZ sv aw (it+1)))]
  else [(m,q,#[],some (.CN sv aw (it+1) m))])
 else [])++
 (if m=old then
  (if old.l=false/\old.s=false then [({m with l:=true,k:= !aw&&m.k},q,#[CC F.uA,Fb F.uA],some .len)]
  else [({m with k:= !aw&&m.k,s:=m.s || (sv&&m.l),w:=m.w+1},q,#[CC F.uA,Fb F.uA],some (.I4 sv)),({m with k:= !aw&&m.k,s:=m.s || (sv&&m.l),w:=m.w+1},q,#[CC F.uA,Fb F.uA],some (.C9 sv))])
 else [(m,q,#[CC F.uA],some (.EZ sv aw it))])
def Ci:LP->M4->Nat->List LO
 | .GQ,m,q=>[(m,q,#[Dg .disable],some .HZ)]
 | .HZ,m,q=>if m=M4.zero then [(⟨true,false,false,0⟩,q,#[CC F.uA,Fb F.uA],some .len)] else [(m,q,#[CC F.uA],some (.EZ false false 0))]
 | .EZ sv aw it,m,q=>[(m,q,#[],some (.CN sv aw it m))]
 | .CN sv aw it old,m,q=>F.Gn sv aw it old m q
 | .I4 sv,m,q=>[(m,q,#[],some (.C9 sv))]
 | .C9 sv,m,q=>[(m,q - 1,semEvents F.qA,some (if sv then .Fl true else .GN))]
 | .GN,m,q=>[(m,q,#[],some (.Fl false)),(m,q,#[],some (.Fl true))]
 | .Fl sv,m,q=>if m.s=true then [(m,q,#[],some (.EY (!sv || m.w==1)))] else [(m,q,#[],some (.CN sv true 0 m))]
 | .EY ex,m,q=>[(⟨true,m.k,!ex,m.w - 1⟩,q,#[CC F.uA,Fb F.uA],some .len)]
 | .len,m,q=>[(m,q,#[Dg .enable],some .LK)]
 | .LK,m,q=>[(m,q,#[],some .KR)]
 | .KR,m,q=>[(m,q,#[Dg (.acquire F.uA)],some .Gr)]
 | .Gr,_,_=>[]
 | .Hp,m,q=>[(m,q,#[],some .K1)]
 | .K1,m,q=>[(m,q,#[],some .KZ)]
 | .KZ,m,q=>[(m,q,#[Dg (.releaseMerge F.uA)],some .KT)]
 | .KT,m,q=>[(m,q,#[Dg .disable],some .IA)]
 | .IA,m,q=>[({m with l:=false},q,#[CC F.uA,Fb F.uA],some (if m.s=true then .FT true else if m.k=false/\m.w≠0 then .FC {m with l:=false} else .FW))]
 | .FC old,m,q=>if m=old then [(⟨false,true,false,old.w - 1⟩,q,#[CC F.uA,Fb F.uA],some (.FT false))] else [(m,q,#[CC F.uA],some .H0)]
 | .H0,m,q=>[(m,q,#[],some (if m.l=false/\m.k=false/\m.s=false/\m.w≠0 then .FC m else .FW))]
 | .FT _,m,q=>[(m,q+1,semEvents F.qA,some .FW)]
 | .FW,m,q=>[(m,q,#[Dg .enable],none)]
def Dd:Ph->Bool
 | .G5 _ | .I8 _ | .Iz _ | .HH _ | .Gy _ | .HB | .Gw _ _ | .Je _=>true
 | .Et | .GM _ | .H2 _ | .IJ | .Gp | .HU | .GU | .G4 | .Iq | .Jh | .I9=>true
 | _=>false
def Dr:Ph->Bool
 | .JJ | .H4 | .Hz | .HV | .F9=>true
 | _=>false
def Kl:Ph->St->St
 | .Hk,_=>.quiet
 | _,s=>s
def start(_:Fam)(k:Nat):Ph:=.lk k .GQ
def Gl(j:Nat):Ph:=if j+1=F.n then .HB else .G5 (j+1)
def Fp(j:Nat):Ph:=if j+1=F.n then .Et else .G5 (j+1)
def DX(k:Nat):Option LP->Ph
 | some p=>.lk k p
 | none=>.IG
end Fam
def DU(m:M4):Prop:=m.w<134217728
def EB:LP->M4->Nat->Prop
 | .CN sv aw it old,m,_=>(aw=true->old.k=true)/\(sv=true->aw=true)/\it<=4/\DU old/\DU m/\(aw=true->m.k=true)
 | .EZ sv aw it,m,_=>(sv=true->aw=true)/\it<=4/\DU m/\(aw=true->m.k=true)
 | .C9 _,_,q=>q≠0
 | .Fl _,m,_=>(m.s=true->m.l=false/\m.k=false/\m.w≠0)/\(m.s=false->m.k=true)/\DU m
 | .EY ex,m,_=>m.s=true/\m.l=false/\m.k=false/\1<=m.w/\(ex=false->2<=m.w)/\DU m
 | .IA,m,_=>m.l=true/\DU m
 | .FC old,m,_=>old.l=false/\old.k=false/\old.s=false/\old.w≠0/\DU old/\DU m
 | .FT _,m,q=>q<=1/\DU m
 | _,m,_=>DU m
def Way(P:Program)(main:Bool)(X:GP):GP:=(Bd P main).ok X
theorem Jr.Ag{P:Program}{main:Bool}{Q K:GP}(h:∀g s,Q g s->K g s):∀{r:Rk}{g:Goroutine}{s:St},Jr P main Q r g s->Jr P main K r g s
 | .leaf,_,_,x=>h _ _ x
 | .node _,_,_,.inl x=>.inl (h _ _ x)
 | .node _,_,_,.inr ⟨O,x⟩=>.inr ⟨O,λw f=>let ⟨g',s',w',es,U,Y,Z⟩:=x w f;⟨g',s',w',es,U,Jr.Ag h Y,Z⟩⟩
variable{g:Goroutine}{s:St}
theorem Way.Ag{P:Program}{main:Bool}{Q K:GP}(h:∀g s,Q g s->K g s)(x:Way P main Q g s):Way P main K g s:=
 let ⟨r,O⟩:=x;⟨r,Jr.Ag (λg s ⟨s₀,a,b⟩=>⟨s₀,a,h g s₀ b⟩) O⟩
def Hn(w K w':World):Prop:=w'.heap=K.heap/\w'.tape=w.tape/\G6 w.os w'.os/\w'.output=w.output
variable{X:Ph->GP}{p:Ph}
section
variable (P:Program)(F:Fam)
def NO(X:Ph->GP)(main:Bool):Nx->GP
 | .ph p,g,s=>Way P main (X p) g s
 | .gone d,g,_=>∃q,QuitsD P q d g
def Fam.KH(H:LH)(f:Nat->Value):LH:=λb=>if b=F.fd then some (F.Jg f) else H b
structure HG (X:Ph->GP) (p:Ph) (g:Goroutine) (s:St):Prop where
 run:g.status=.running
 offers:g.offers=none
 quiet:Fam.Dr p=true->s=.quiet
 live:Fam.Dr p=false->s.q=false
 act:∀v wt sm v' wt' sm' es K,F.act p v wt sm=some ((v',wt',sm'),es,K)->
  ∃g',(∀w,F.WG w v wt sm->stepG P (Fam.Dd p) g w=.go g' (F.put w v' wt' sm') es)/\g'.status=.running/\NO P X (Fam.Dd p) K g' (Fam.Kl p s)
 JE:(p=.F9∨∃k b,p=.lk k (.FT b))->mayWake P g=true
 FU:p=.Gp->∀w v wt,F.WG w v wt 0->stepG P true g w=.go {g with status:=.blocked} w #[]
 go:∀j,p=.Gy j->∃g' child,g'.status=.running/\child.status=.running/\(∀w,stepG P true g w=.spawn g' child w #[])/\Way P false (X (F.start j)) child ⟨s.E,λ_=>none,false⟩/\Way P true (X (F.Fp j)) g' s
 lk:∀k l,p=.lk k l->l≠ .Gr->∀w m q,F.MU w m q->EB l m q->∃m' q' es x g' w',(m',q',es,x)∈F.Ci l m q/\stepG P false g w=.go g' w' es/\Hn w (F.Gx w m' q') w'/\g'.status=.running/\Way P false (X (Fam.DX k x)) g' s
 C9:∀k sv,p=.lk k (.C9 sv)->∀w m,F.MU w m 0->stepG P false g w=.go {g with status:=.blocked} w #[]
 store:∀k,p=.lk k .Gr->∃v,F.msg k v s.E/\∃g',g'.status=.running/\(∀w f,F.FD w f->stepG P false g w=.go g' (F.H3 w (upd f k v)) #[⟨.cell ⟨F.fd,k,none⟩,true,false⟩])/\Way P false (X (.lk k .Hp)) g' s
 fin:p=.G4->∃g',(∀w,stepG P true g w=.go g' w #[Fam.Dg (.acquire F.sA)])/\∀E' f,Le s.E E'->E' F.fd=none->(∀b,E' b≠none->s.H b=none)->(∀k,k<F.n->F.msg k (f k) E')->F.fin g' ⟨E',F.KH s.H f,false⟩
theorem NO.Ag{O:Ph->GP}(h:∀p g s,X p g s->O p g s){main:Bool}{K:Nx}(x:NO P X main K g s):NO P O main K g s:=by
 cases K with
 | ph p=>exact Way.Ag (h p) x
 | gone d=>exact x
theorem HG.Ag{ac:Ph->GP}(h:∀p g s,X p g s->ac p g s)(x:HG P F X p g s):HG P F ac p g s where
 run:=x.run
 offers:=x.offers
 quiet:=x.quiet
 live:=x.live
 act v wt sm v' wt' sm' es ag e:=let ⟨g',K,O,U⟩:=x.act v wt sm v' wt' sm' es ag e;⟨g',K,O,U.Ag P h⟩
 JE:=x.JE
 FU:=x.FU
 go j e:=let ⟨g',c,K,O,U,Y,Z⟩:=x.go j e;⟨g',c,K,O,U,Y.Ag (h _),Z.Ag (h _)⟩
 lk k l e ai w m q hm aj:=let ⟨m',q',es,y,g',w',K,O,U,Y,Z⟩:=x.lk k l e ai w m q hm aj;⟨m',q',es,y,g',w',K,O,U,Y,Z.Ag (h _)⟩
 C9:=x.C9
 store k e:=let ⟨v,K,g',O,U,Y⟩:=x.store k e;⟨v,K,g',O,U,Y.Ag (h _)⟩
 fin:=x.fin
def Stop(p:Ph)(g:Goroutine)(s:St):Prop:=∃X:Ph->GP,(∀p g s,X p g s->HG P F X p g s)/\X p g s
variable {P F}
theorem Stop.law(h:Stop P F p g s):HG P F (Stop P F) p g s:=by
 obtain⟨X,O,K⟩:=h;exact(O p g s K).Ag P F λp g s K=>⟨X,O,K⟩
theorem HG.stop(h:HG P F (Stop P F) p g s):Stop P F p g s:=
 ⟨λp g s=>HG P F (Stop P F) p g s,λ_ _ _ x=>x.Ag P F λ_ _ _ y=>y.law,h⟩
end
end Pal
namespace Pal
open Go Go.Conc
open Go.ConcN (upd upd_same upd_ne sumTo sumTo_upd sumTo_upd_out sumTo_congr le_sumTo sumTo_le)
def cU:Nx->Nat
 | .ph (.HX _) | .ph .IG | .ph .Hk | .ph .JJ | .ph .H4 | .ph (.lk _ _)=>1
 | _=>0
def cL:Nx->Nat
 | .ph .Hz | .ph .HV=>1
 | _=>0
def cS:Nx->Nat
 | .ph .F9=>1
 | _=>0
def pend:Nx->Nat
 | .ph (.Je _) | .ph (.Iz _) | .ph (.HH _) | .ph (.Gy _)=>1
 | _=>0
def got:Nx->List Nat
 | .ph (.Gw K _)=>K
 | _=>[]
def PD:Nx->Prop
 | .gone _=>True
 | _=>False
def Ip(n j:Nat)(c:Bool):Ph->Prop
 | .G5 K | .I8 K | .Je K | .Iz K | .HH K | .Gy K=>K=j/\j<n/\c=false
 | .HB=>j=n/\c=false
 | .Gw _ _=>j=n/\c=true
 | _=>False
def Hw(F:Fam)(k:Nat):Nx->Prop
 | .gone _=>True
 | .ph (.HX k')=>k'=k/\F.has k=true
 | .ph (.lk k' _)=>k'=k
 | .ph .IG | .ph .Hk | .ph .JJ | .ph .H4 | .ph .Hz | .ph .HV | .ph .F9=>True
 | _=>False
def Kc:Nx->Prop
 | .gone _=>True
 | .ph .Et | .ph (.GM _) | .ph (.H2 _) | .ph .Jh | .ph .IJ | .ph .Gp | .ph .HU | .ph .GU | .ph .I9 | .ph .G4 | .ph .Iq=>True
 | _=>False
def EA(x:Nx)(v wt sm L S:Nat)(cl:Bool):Prop:=
 match x with
 | .ph .Et=>L=0/\S=0/\sm=0/\wt=0/\cl=false
 | .ph (.GM m)=>L=0/\S=0/\sm=0/\wt=0/\cl=false/\v<=m
 | .ph (.H2 m)=>L=0/\S=0/\sm=0/\wt=0/\cl=false/\v<=m/\1<=m
 | .ph .Jh | .ph .IJ | .ph .Gp=>L+S+sm+min v 1=1/\wt=L+min v 1/\cl=false
 | .ph .HU | .ph .GU | .ph .I9 | .ph .G4 | .ph .Iq=>L=0/\S=0/\sm=0/\wt=0/\v=0/\cl=false
 | .gone _=>L=0/\S=0/\sm=0/\wt=0/\v=0/\cl=true
 | _=>False
structure De (F:Fam) (N0 N j:Nat) (c:Bool) (φ:Nat->Nx) (v wt sm:Nat) (cl:Bool):Prop where
 pos:0<N0
 n1:1<=F.n
 ID:F.n<2147483647
 size:N=N0+j+c.toNat
 jn:j<=F.n
 cj:c=true->j=F.n
 main:∃p,φ 0=.ph p/\Ip F.n j c p
 old:∀i,0<i->i<N0->PD (φ i)
 work:∀k,k<j->Hw F k (φ (N0+k))
 cls:c=true->Kc (φ (N0+F.n))
 cnt:v=sumTo N (λi=>cU (φ i))+pend (φ 0)
 KW:v<=j+pend (φ 0)
 mode:EA (if c=true then φ (N0+F.n) else .ph .Et) v wt sm (sumTo N λi=>cL (φ i)) (sumTo N λi=>cS (φ i)) cl
 LQ:∀k,k<j->F.has k=true->(φ (N0+k)=.ph (.HX k)↔k ∉ got (φ 0))
 nd:(got (φ 0)).Nodup
 sub:∀k∈got (φ 0),k<j/\F.has k=true
variable{i:Nat}{x:Nx}{p:Ph}{es:Array Event}
section
variable {F:Fam}{N0 N j:Nat}{c:Bool}{φ:Nat->Nx}{v wt sm v' wt' sm':Nat}{cl cl':Bool}
theorem De.Fq(h:De F N0 N j c φ v wt sm cl)(hi:i<N):i=0∨(0<i/\i<N0)∨(∃k,k<j/\i=N0+k)∨(c=true/\i=N0+F.n):=by
 have:=h.size;rcases rD i with K | K;exact .inl K
 rcases f7 i N0 with U | U;exact .inr (.inl ⟨K,U⟩)
 rcases f7 i (N0+j) with Y | Y;exact .inr (.inr (.inl ⟨i - N0,by omega,by omega⟩))
 .cases O:c with
  | false=>rw[O] at this;simp at this;omega
  | true=>have e:=h.cj O;rw[O] at this;simp at this;exact .inr (.inr (.inr ⟨rfl,by omega⟩))
theorem De.Sv(h:De F N0 N j c φ v wt sm cl):v<=F.n:=by
 have K:=h.KW;obtain⟨p,O,hm⟩:=h.main;have:=h.jn;rw[O] at K;cases p<;>simp[Ip] at hm<;>simp[pend] at K<;>omega
theorem De.Jd(h:De F N0 N j c φ v wt sm cl){k:Nat}(ag:k<j)(ai:Hw F k x)(aj:∀k',φ (N0+k)≠ .ph (.HX k'))(al:∀k',x≠ .ph (.HX k'))
  (a4:v'+cU (φ (N0+k))=v+cU x)
  (hm:∀L S,L+cL (φ (N0+k))=(sumTo N λi=>cL (φ i))+cL x->S+cS (φ (N0+k))=(sumTo N λi=>cS (φ i))+cS x->EA (if c=true then φ (N0+F.n) else .ph .Et) v' wt' sm' L S cl'):
  De F N0 N j c (upd φ (N0+k) x) v' wt' sm' cl':=by
 have a5:=h.size;have a6:=h.jn;have a7:=h.pos;have Y:N0+k<N:=by omega
 have K:upd φ (N0+k) x 0=φ 0:=upd_ne _ _ (by omega);have am:(if c=true then upd φ (N0+k) x (N0+F.n) else .ph .Et)=(if c=true then φ (N0+F.n) else .ph .Et):=by
  cases O:c with
  | false=>rfl
  | true=>have:=h.cj O;simp only[rH];exact upd_ne _ _ (by omega)
 have s1:=sumTo_upd φ x cU Y;have s2:=sumTo_upd φ x cL Y;have ap:=sumTo_upd φ x cS Y;have a8:=h.cnt;have a9:=h.KW;refine⟨h.pos,h.n1,h.ID,h.size,h.jn,h.cj,by rw[K];exact h.main,λi aq aw=>by rw[upd_ne _ _ (by omega)];exact h.old i aq aw,λk' U=>?_,λO=>?_,by rw[K];omega,?_,?_,λk' U hh=>?_,by rw[K];exact h.nd,by rw[K];exact h.sub⟩;by_cases e:k'=k;subst e;rw[upd_same];exact ai;rw[upd_ne _ _ (by omega)];exact h.work k' U;have:=h.cj O;rw[upd_ne _ _ (by omega)];exact h.cls O
 .rw [K];have:cU x<=1:=by cases x with
   | gone d=>simp[cU]
   | ph p=>cases p<;>simp[cU]
  have hw:=h.work k ag;have key:cU x<=cU (φ (N0+k))∨cU (φ (N0+k))<cU x:=by omega
  rcases key with hle | bb;omega
  ·
   have:(sumTo N λa=>cU (upd φ (N0+k) x a))<=j:=by
    have hb:∀M,M<=N->(sumTo M λa=>cU (upd φ (N0+k) x a))<=min (M - N0) j:=by
     intro M
     induction M with
     | zero=>intro _;simp[sumTo]
     | succ M a0=>
      intro be;have:=a0 (by omega);simp only[sumTo];have bg:cU (upd φ (N0+k) x M)<=1:=by
       generalize upd φ (N0+k) x M=y;cases y with
       | gone d=>simp[cU]
       | ph p=>cases p<;>simp[cU]
      have ac:(M<N0∨N0+j<=M)->cU (upd φ (N0+k) x M)=0:=by
       intro bi;rw[upd_ne _ _ (by omega)];rcases h.Fq (i:=M) (by omega) with rfl | ⟨a,b⟩ | ⟨k',a,rfl⟩ | ⟨a,rfl⟩;obtain⟨p,a1,hm⟩:=h.main;rw[a1];cases p<;>simp[Ip] at hm<;>rfl
       .have:=h.old M a b;cases Z:φ M with
        | gone d=>rfl
        | ph p=>rw[Z] at this;exact this.elim
       .omega
       .have:=h.cls a;cases Z:φ (N0+F.n) with
        | gone d=>rfl
        | ph p=>rw[Z] at this;cases p<;>simp[Kc] at this<;>rfl
      rcases f7 M N0 with q | q;rw[ac (.inl q)];omega;rcases f7 M (N0+j) with q' | q';omega;rw[ac (.inr q')];omega
    have:=hb N (qH _);omega
   omega
 rw[am];exact hm _ _ s2 ap;rw[K];by_cases e:k'=k;subst e;rw[upd_same];have:=h.LQ k' U hh;constructor;intro a2;exact absurd a2 (al k');intro a3;exact absurd (this.2 a3) (aj k');rw[upd_ne _ _ (by omega)];exact h.LQ k' U hh
theorem De.IB(h:De F N0 N j c φ v wt sm cl)(O:c=true)(Z:Kc x)
  (hm:EA x v wt' sm' (sumTo N λi=>cL (φ i)) (sumTo N λi=>cS (φ i)) cl'):
  De F N0 N j c (upd φ (N0+F.n) x) v wt' sm' cl':=by
 have ac:=h.size;have am:=h.pos;have hj:=h.cj O;have U:N0+F.n<N:=by rw[O] at ac;simp at ac;omega
 have K:upd φ (N0+F.n) x 0=φ 0:=upd_ne _ _ (by omega);have z:∀y,Kc y->cU y=0/\cL y=0/\cS y=0:=by
  intro y ag;cases y with
  | gone d=>exact⟨rfl,rfl,rfl⟩
  | ph p=>cases p<;>simp[Kc] at ag<;>exact⟨rfl,rfl,rfl⟩
 have z1:=z _ (h.cls O);have ap:=z x Z;have s1:=sumTo_upd φ x cU U;have s2:=sumTo_upd φ x cL U;have aq:=sumTo_upd φ x cS U;have aw:=h.cnt;refine⟨h.pos,h.n1,h.ID,h.size,h.jn,h.cj,by rw[K];exact h.main,λi ai aj=>by rw[upd_ne _ _ (by omega)];exact h.old i ai aj,λk' Y=>?_,λO=>?_,by rw[K];omega,by rw[K];exact h.KW,?_,λk' Y hh=>?_,by rw[K];exact h.nd,by rw[K];exact h.sub⟩;rw[upd_ne _ _ (by omega)];exact h.work k' Y;rw[upd_same];exact Z
 .rw [d0 O,upd_same];have e2:(sumTo N λi=>cL (upd φ (N0+F.n) x i))=sumTo N λi=>cL (φ i):=by omega
  have al:(sumTo N λi=>cS (upd φ (N0+F.n) x i))=sumTo N λi=>cS (φ i):=by omega
  rw[e2,al];exact hm
 .rw [K,upd_ne _ _ (by omega)];exact h.LQ k' Y hh
theorem TW{n j:Nat}{c:Bool}(h:Ip n j c p):cU (.ph p)=0/\cL (.ph p)=0/\cS (.ph p)=0:=by
 cases p<;>simp[Ip] at h<;>exact⟨rfl,rfl,rfl⟩
theorem De.MH(h:De F N0 N j c φ v wt sm cl)(Y:Ip F.n j c p)(K:got (.ph p)=got (φ 0))(aq:v'+pend (φ 0)=v+pend (.ph p))(Z:v'<=j+pend (.ph p))
  (hm:EA (if c=true then φ (N0+F.n) else .ph .Et) v' wt' sm' (sumTo N λi=>cL (φ i)) (sumTo N λi=>cS (φ i)) cl'):
  De F N0 N j c (upd φ 0 (.ph p)) v' wt' sm' cl':=by
 have aw:=h.size;have a0:=h.pos;have O:0<N:=by omega
 obtain⟨a1,ac,ag⟩:=h.main;have z1:=TW ag;have a2:=TW Y;rw[← ac] at z1;have s1:=sumTo_upd φ (.ph p) cU O;have s2:=sumTo_upd φ (.ph p) cL O;have a3:=sumTo_upd φ (.ph p) cS O;have a4:=h.cnt;have ai:(if c=true then upd φ 0 (.ph p) (N0+F.n) else .ph .Et)=(if c=true then φ (N0+F.n) else .ph .Et):=by rw[upd_ne _ _ (by omega)]
 refine⟨h.pos,h.n1,h.ID,h.size,h.jn,h.cj,⟨p,upd_same _ _ _,Y⟩,λi aj al=>by rw[upd_ne _ _ (by omega)];exact h.old i aj al,λk' U=>by rw[upd_ne _ _ (by omega)];exact h.work k' U,λam=>by rw[upd_ne _ _ (by omega)];exact h.cls am,by rw[upd_same];omega,by rw[upd_same];exact Z,?_,λk' U hh=>?_,by rw[upd_same,K];exact h.nd,by rw[upd_same,K];exact h.sub⟩
 .rw [ai];have e2:(sumTo N λi=>cL (upd φ 0 (.ph p) i))=sumTo N λi=>cL (φ i):=by omega
  have ap:(sumTo N λi=>cS (upd φ 0 (.ph p) i))=sumTo N λi=>cS (φ i):=by omega
  rw[e2,ap];exact hm
 .rw [upd_same,K,upd_ne _ _ (by omega)];exact h.LQ k' U hh
theorem De.act(h:De F N0 N j c φ v wt sm cl)(hi:i<N)(K:φ i=.ph p){a3:Nx}(O:F.act p v wt sm=some ((v',wt',sm'),es,a3)):
  De F N0 N j c (upd φ i a3) v' wt' sm' cl:=by
 have U:=h.mode;have a5:=h.Sv;rcases h.Fq hi with rfl | ⟨a,b⟩ | ⟨k,al,rfl⟩ | ⟨ac,rfl⟩
 ·
  obtain⟨aw,a4,am⟩:=h.main;have:aw=p:=by rw[a4] at K;exact Nx.ph.inj K
  subst this;have a7:∀q,Ip F.n j c q->(∀a6 vs,q≠ .Gw a6 vs)->c=false:=by
   intro q a0 a1;cases q<;>simp[Ip] at a0<;>first | exact a0.2.2 | exact a0.2 | exact absurd rfl (a1 _ _)
  have aj:=h.KW;cases aw<;>simp only[Ip] at am<;>(try exact am.elim)<;>simp only[Fam.act] at O<;>(try (cases O;done));cases O;obtain⟨rfl,hj,rfl⟩:=am;exact h.MH (p:=.I8 _) ⟨V,hj,V⟩ (by rw[K];rfl) (by rw[K];rfl) (by rw[K] at aj;exact aj) (by simpa [EA] using U);split at O;rename_i ag;cases O;obtain⟨rfl,hj,rfl⟩:=am;rw[K] at aj;simp only[pend,rE] at aj;simp only[qP,rr,EA] at U;split;exact h.MH (p:=.Je _) ⟨V,hj,V⟩ (by rw[K];rfl) (by rw[K];simp[pend]) (by simp[pend];omega) ⟨U.1,U.2.1,U.2.2.1,V,U.2.2.2.2⟩;exact h.MH (p:=.HH _) ⟨V,hj,V⟩ (by rw[K];rfl) (by rw[K];simp[pend]) (by simp[pend];omega) ⟨U.1,U.2.1,U.2.2.1,V,U.2.2.2.2⟩;cases O;cases O;obtain⟨rfl,hj,rfl⟩:=am;exact h.MH (p:=.HH _) ⟨V,hj,V⟩ (by rw[K];rfl) (by rw[K];rfl) (by rw[K] at aj;exact aj) (by simpa [EA] using U);cases O;obtain⟨rfl,hj,rfl⟩:=am;exact h.MH (p:=.Gy _) ⟨V,hj,V⟩ (by rw[K];rfl) (by rw[K];rfl) (by rw[K] at aj;exact aj) (by simpa [EA] using U);cases O;obtain⟨rfl,hj,rfl⟩:=am;exact h.MH (p:=.Iz _) ⟨V,hj,V⟩ (by rw[K];rfl) (by rw[K];rfl) (by rw[K] at aj;exact aj) (by simpa [EA] using U)
 .have:=h.old i a b;rw[K] at this;exact this.elim
 ·
  have hw:=h.work k al;rw[K] at hw;have a8:∀q k',q=Nx.ph p->(∀k',p≠ .HX k')->q≠ .ph (.HX k'):=by
   rintro q k' rfl a1 e;exact a1 k' (Nx.ph.inj e)
  cases p<;>simp only[Hw] at hw<;>(try exact hw.elim)<;>simp only[Fam.act] at O<;>(try (cases O;done));cases O;refine h.Jd al (x:=.ph .JJ) trivial (λk'=>by rw[K];simp) (by simp) (by rw[K];rfl) λL S Y Z=>?_;rw[K] at Y Z;simp only[cL,cS,rE] at Y Z;subst Y Z;exact U;cases O;refine h.Jd al (x:=.ph .H4) trivial (λk'=>by rw[K];simp) (by simp) (by rw[K];rfl) λL S Y Z=>?_;rw[K] at Y Z;simp only[cL,cS,rE] at Y Z;subst Y Z;exact U
  .split at O
   .rename_i ag;cases O;have aq:∀y ai S0 L S,y=(if c=true then φ (N0+F.n) else .ph .Et)->EA y v wt sm ai S0 cl->(if v=1/\wt=1 then L=ai+1 else L=ai)->S=S0->EA y (v - 1) wt sm L S cl:=by
     intro y ai S0 L S a9 hm Y Z;cases y with
     | gone d=>simp only[EA] at hm ⊢;split at Y<;>omega
     | ph q=>
      cases q<;>simp only[EA] at hm ⊢<;>(try exact hm)<;>(try (split at Y<;>omega));split at Y;exfalso;omega;exact⟨by omega,by omega,by omega,by omega,hm.2.2.2.2⟩;split at Y;exfalso;omega;exact⟨by omega,by omega,by omega,by omega,hm.2.2.2.2.1,by omega⟩;split at Y;exfalso;omega;exact⟨by omega,by omega,by omega,by omega,hm.2.2.2.2.1,by omega,by omega⟩;split at Y;exact⟨by omega,by omega,hm.2.2⟩;exact⟨by omega,by omega,hm.2.2⟩;split at Y;exact⟨by omega,by omega,hm.2.2⟩;exact⟨by omega,by omega,hm.2.2⟩;split at Y;exact⟨by omega,by omega,hm.2.2⟩;exact⟨by omega,by omega,hm.2.2⟩
    split;rename_i ap;refine h.Jd al (x:=.ph .Hz) trivial (λk'=>by rw[K];simp) (by simp) (by rw[K];simp[cU];omega) λL S Y Z=>?_;rw[K] at Y Z;simp only[cL,cS,rE] at Y Z;exact aq _ _ _ L S V U (by rw[d0 ap];exact Y) Z;rename_i ap;refine h.Jd al (x:=.gone 1) trivial (λk'=>by rw[K];simp) (by simp) (by rw[K];simp[cU];omega) λL S Y Z=>?_;rw[K] at Y Z;simp only[cL,cS,rE] at Y Z;exact aq _ _ _ L S V U (by rw[d7 ap];exact Y) Z
   .cases O
  .split at O
   .rename_i ag;cases O;refine h.Jd al (x:=.ph .HV) trivial (λk'=>by rw[K];simp) (by simp) (by rw[K];simp[cU];omega) λL S Y Z=>?_;rw[K] at Y Z;simp only[cL,cS,rE] at Y Z;have e:L=sumTo N λi=>cL (φ i):=by
     have bb:L+1=(sumTo N λi=>cL (φ i))+1:=Y;omega
    obtain⟨ap,a2⟩:=ag;subst e Z ap a2;exact U
   .cases O
  .split at O
   .rename_i ag;cases O;obtain⟨ap,a2⟩:=ag;subst ap a2;refine h.Jd al (x:=.ph .F9) trivial (λk'=>by rw[K];simp) (by simp) (by rw[K];simp[cU]) λL S Y Z=>?_;rw[K] at Y Z;simp only[cL,cS,rE] at Y Z;have aq:∀y ai S0,EA y 0 1 sm ai S0 cl->L+1=ai->S=S0+1->EA y 0 0 sm L S cl:=by
     intro y ai S0 hm Y Z;cases y with
     | gone d=>simp only[EA] at hm ⊢;omega
     | ph q=>
      cases q<;>simp only[EA] at hm ⊢<;>(try exact hm)<;>(try (exfalso;omega));exact⟨by omega,by omega,hm.2.2⟩;exact⟨by omega,by omega,hm.2.2⟩;exact⟨by omega,by omega,hm.2.2⟩
    exact aq _ _ _ U Y Z
   .cases O
  .split at O
   .rename_i ag;cases O;subst ag;refine h.Jd al (x:=.gone 1) trivial (λk'=>by rw[K];simp) (by simp) (by rw[K];simp[cU]) λL S Y Z=>?_;rw[K] at Y Z;simp only[cL,cS,rE] at Y Z;have aq:∀y ai S0,EA y v wt 0 ai S0 cl->L=ai->S+1=S0->EA y v wt 1 L S cl:=by
     intro y ai S0 hm Y Z;cases y with
     | gone d=>simp only[EA] at hm ⊢;omega
     | ph q=>
      cases q<;>simp only[EA] at hm ⊢<;>(try exact hm)<;>(try (exfalso;omega));exact⟨by omega,by omega,hm.2.2⟩;exact⟨by omega,by omega,hm.2.2⟩;exact⟨by omega,by omega,hm.2.2⟩
    exact aq _ _ _ U Y Z
   .cases O
  .cases O;refine h.Jd al (x:=.ph .Hk) trivial (λk'=>by rw[K];simp) (by simp) (by rw[K];rfl) λL S Y Z=>?_;rw[K] at Y Z;simp only[cL,cS,rE] at Y Z;subst Y Z;exact U
 ·
  have hw:=h.cls ac;rw[d0 ac,K] at U;rw[K] at hw;obtain⟨aw,a4,am⟩:=h.main;cases p<;>simp only[Kc] at hw<;>(try exact hw.elim)<;>simp only[Fam.act] at O<;>(try (cases O;done))<;>simp only[EA] at U;cases O;exact h.IB ac (x:=.ph (.GM F.n)) trivial ⟨U.1,U.2.1,U.2.2.1,U.2.2.2.1,U.2.2.2.2,a5⟩;split at O;rename_i m ag;cases O;split;exact h.IB ac (x:=.ph .GU) trivial ⟨U.1,U.2.1,U.2.2.1,V,by assumption,U.2.2.2.2.1⟩;exact h.IB ac (x:=.ph (.H2 _)) trivial ⟨U.1,U.2.1,U.2.2.1,V,U.2.2.2.2.1,qH _,by omega⟩;cases O;split at O;rename_i m ag;split at O;cases O;exact h.IB ac (x:=.ph .Jh) trivial ⟨by omega,by omega,U.2.2.2.2.1⟩;cases O;exact h.IB ac (x:=.ph (.GM _)) trivial ⟨U.1,U.2.1,U.2.2.1,V,U.2.2.2.2.1,by omega⟩;cases O;cases O;exact h.IB ac (x:=.ph .Gp) trivial U;split at O;rename_i ag;cases O;exact h.IB ac (x:=.ph .HU) trivial ⟨by omega,by omega,V,by omega,by omega,U.2.2⟩;cases O;split at O;rename_i ag;obtain⟨rfl,rfl⟩:=ag;cases O;exact h.IB ac (x:=.ph .GU) trivial U;cases O;cases O;exact h.IB ac (x:=.ph .I9) trivial U;cases O;exact h.IB ac (x:=.ph .IJ) trivial U;cases O;exact h.IB ac (x:=.ph .G4) trivial U
end
open Go.ConcN (fork_knows)
section
variable {F:Fam}{N0 N j:Nat}{c:Bool}{φ:Nat->Nx}{v wt sm:Nat}{cl:Bool}
theorem De.spawn(h:De F N0 N j c φ v wt sm cl)(U:φ 0=.ph (.Gy j)):
  De F N0 (N+1) (j+1) c (upd (upd φ N (.ph (F.start j))) 0 (.ph (F.Gl j))) v wt sm cl:=by
 obtain⟨ap,aq,aw⟩:=h.main;obtain rfl:ap=.Gy j:=by rw[aq] at U;exact Nx.ph.inj U
 obtain⟨_,hj,rfl⟩:=aw;have a0:=h.size;have a4:=h.pos;simp only[qM,rE] at a0;have Y:cU (.ph (F.start j))=1/\cL (.ph (F.start j))=0/\cS (.ph (F.start j))=0:=by
  exact⟨V,V,V⟩
 have K:cU (.ph (F.Gl j))=0/\cL (.ph (F.Gl j))=0/\cS (.ph (F.Gl j))=0/\pend (.ph (F.Gl j))=0/\got (.ph (F.Gl j))=[]:=by
  unfold Fam.Gl;split<;>exact⟨rfl,rfl,rfl,rfl,rfl⟩
 have Z:cU (φ 0)=0/\cL (φ 0)=0/\cS (φ 0)=0:=by rw[U];exact⟨V,V,V⟩
 let φ':Nat->Nx:=upd (upd φ N (.ph (F.start j))) 0 (.ph (F.Gl j));have O:φ' 0=.ph (F.Gl j):=upd_same _ _ _;have am:φ' N=.ph (F.start j):=by show upd _ _ _ _=_;rw[upd_ne _ _ (by omega),upd_same]
 have ac:∀i,0<i->i≠N->φ' i=φ i:=λi ag ai=>by show upd _ _ _ _=_;rw[upd_ne _ _ (by omega),upd_ne _ _ ai]
 have sum:∀f:Nx->Nat,f (φ 0)=0->f (.ph (F.Gl j))=0->(sumTo (N+1) λi=>f (φ' i))=(sumTo N λi=>f (φ i))+f (.ph (F.start j)):=by
  intro f f0 f1;simp only[sumTo,am];congr 1;have a1:0<N:=by omega
  have:=sumTo_upd (upd φ N (.ph (F.start j))) (.ph (F.Gl j)) f a1;have e2:upd φ N (.ph (F.start j)) 0=φ 0:=upd_ne _ _ (by omega);rw[e2,f0,f1] at this;have a5:=sumTo_upd_out φ (.ph (F.start j)) f (i:=N) (j:=N) (qH _);show sumTo N (λi=>f (upd (upd φ N (.ph (F.start j))) 0 (.ph (F.Gl j)) i))=_;omega
 have aj:=h.cnt;have al:=h.KW;rw[U] at aj al;simp only[pend] at aj al;show De F N0 (N+1) (j+1) false φ' v wt sm cl;have a2:got (φ 0)=[]:=by rw[U];rfl
 refine⟨h.pos,h.n1,h.ID,by simp;omega,by omega,by simp,⟨F.Gl j,O,?_⟩,λi ag ai=>by rw[ac i ag (by omega)];exact h.old i ag ai,λk a3=>?_,by simp,?_,?_,?_,λk a3 hh=>?_,by rw[O,K.2.2.2.2];exact .nil,by rw[O,K.2.2.2.2];simp⟩;unfold Fam.Gl;split;exact⟨by assumption,V⟩;exact⟨V,by omega,V⟩;by_cases e:k=j;subst e;rw[show N0+k=N by omega,am];exact V;rw[ac _ (by omega) (by omega)];exact h.work k (by omega);rw[O,K.2.2.2.1,sum cU Z.1 K.1,Y.1];exact aj;rw[O,K.2.2.2.1];exact al;have hm:=h.mode;simp only[qP,rr] at hm ⊢;rw[sum cL Z.2.1 K.2.1,sum cS Z.2.2 K.2.2.1,Y.2.1,Y.2.2];exact hm
 .rw [O,K.2.2.2.2];by_cases e:k=j;exact absurd hh so
  .rw [ac _ (by omega) (by omega)];have:=h.LQ k (by omega) hh
   rwa[a2] at this
theorem De.eh(h:De F N0 N j c φ v wt sm cl)(O:φ 0=.ph .HB):
  De F N0 (N+1) j true (upd (upd φ N (.ph .Et)) 0 (.ph (.Gw [] []))) v wt sm cl:=by
 obtain⟨am,ap,aq⟩:=h.main;obtain rfl:am=.HB:=by rw[ap] at O;exact Nx.ph.inj O
 obtain⟨hj,rfl⟩:=aq;have aw:=h.size;have a2:=h.pos;simp only[qM,rE] at aw;have U:cU (φ 0)=0/\cL (φ 0)=0/\cS (φ 0)=0:=by rw[O];exact⟨V,V,V⟩
 let φ':Nat->Nx:=upd (upd φ N (.ph .Et)) 0 (.ph (.Gw [] []));have K:φ' 0=.ph (.Gw [] []):=upd_same _ _ _;have Y:φ' N=.ph .Et:=by show upd _ _ _ _=_;rw[upd_ne _ _ (by omega),upd_same]
 have Z:∀i,0<i->i≠N->φ' i=φ i:=λi ac ag=>by show upd _ _ _ _=_;rw[upd_ne _ _ (by omega),upd_ne _ _ ag]
 have sum:∀f:Nx->Nat,f (φ 0)=0->f (.ph (.Gw [] []))=0->f (.ph .Et)=0->(sumTo (N+1) λi=>f (φ' i))=(sumTo N λi=>f (φ i)):=by
  intro f f0 f1 f2;simp only[sumTo,Y,f2];have a0:0<N:=by omega
  have:=sumTo_upd (upd φ N (.ph .Et)) (.ph (.Gw [] [])) f a0;have e2:upd φ N (.ph .Et) 0=φ 0:=upd_ne _ _ (by omega);rw[e2,f0,f1] at this;have a3:=sumTo_upd_out φ (.ph .Et) f (i:=N) (j:=N) (qH _);show sumTo N (λi=>f (upd (upd φ N (.ph .Et)) 0 (.ph (.Gw [] [])) i))+0=_;omega
 have ai:=h.cnt;have aj:=h.KW;rw[O] at ai aj;simp only[pend] at ai aj;show De F N0 (N+1) j true φ' v wt sm cl;have a1:got (φ 0)=[]:=by rw[O];rfl
 refine⟨h.pos,h.n1,h.ID,by simp;omega,h.jn,λ_=>hj,⟨.Gw [] [],K,hj,V⟩,λi ac ag=>by rw[Z i ac (by omega)];exact h.old i ac ag,λk al=>?_,λ_=>by rw[show N0+F.n=N by omega,Y];trivial,?_,?_,?_,λk al hh=>?_,by rw[K];exact .nil,by rw[K];simp[got]⟩;rw[Z _ (by omega) (by omega)];exact h.work k al;rw[K,sum cU U.1 rfl rfl];exact ai;rw[K];exact aj;have hm:=h.mode;simp only[qP,rr,rH] at hm ⊢;rw[show N0+F.n=N by omega,Y,sum cL U.2.1 rfl rfl,sum cS U.2.2 rfl rfl];exact hm
 .rw [K];rw[Z _ (by omega) (by omega)];have:=h.LQ k al hh
  rwa[a1] at this
theorem De.leave(h:De F N0 N j c φ v wt sm cl){d d':Nat}(hi:i<N)(K:φ i=.gone d):De F N0 N j c (upd φ i (.gone d')) v wt sm cl:=by
 rcases h.Fq hi with rfl | ⟨a,b⟩ | ⟨k,U,rfl⟩ | ⟨Y,rfl⟩;obtain⟨p,Z,_⟩:=h.main;rw[K] at Z;cases Z
 .have aj:=hi;have z:∀f:Nx->Nat,f (.gone d)=0->f (.gone d')=0->(sumTo N λa=>f (upd φ i (.gone d') a))=sumTo N λa=>f (φ a):=by
   intro f f0 f1;have:=sumTo_upd φ (.gone d') f aj;rw[K] at this;omega
  have aq:=h.size;have O:upd φ i (.gone d') 0=φ 0:=upd_ne _ _ (by omega);refine⟨h.pos,h.n1,h.ID,h.size,h.jn,h.cj,by rw[O];exact h.main,λac al am=>?_,λk U=>by rw[upd_ne _ _ (by omega)];exact h.work k U,λY=>by rw[upd_ne _ _ (by omega)];exact h.cls Y,by rw[O,z cU rfl rfl];exact h.cnt,by rw[O];exact h.KW,?_,λk U hh=>by rw[O,upd_ne _ _ (by omega)];exact h.LQ k U hh,by rw[O];exact h.nd,by rw[O];exact h.sub⟩;by_cases e:ac=i;subst e;rw[upd_same];trivial;rw[upd_ne _ _ e];exact h.old ac al am;rw[z cL rfl rfl,z cS rfl rfl,upd_ne _ _ (by omega)];exact h.mode
 refine h.Jd U (x:=.gone d') trivial (by rw[K];simp) (by simp) (by rw[K];rfl) λL S ag ai=>?_;rw[K] at ag ai;have ap:L=sumTo N λi=>cL (φ i):=ag;have e2:S=sumTo N λi=>cS (φ i):=ai;subst ap e2;exact h.mode;have hm:=h.mode;rw[d0 Y,K] at hm;exact h.IB Y (x:=.gone d') trivial hm
theorem De.cH(h:De F N0 N j c φ v wt sm cl)(O:c=true)(U:φ (N0+F.n)=.ph .HU∨φ (N0+F.n)=.ph .GU∨φ (N0+F.n)=.ph .G4∨φ (N0+F.n)=.ph .Iq∨PD (φ (N0+F.n))):∀k,k<j->PD (φ (N0+k)):=by
 intro k Y;have hm:=h.mode;rw[d0 O] at hm;have Z:=h.size;have ac:=h.cnt;have ag:cU (φ (N0+k))<=sumTo N λi=>cU (φ i):=le_sumTo (f:=λi=>cU (φ i)) (show N0+k<N by omega);have ai:cL (φ (N0+k))<=sumTo N λi=>cL (φ i):=le_sumTo (f:=λi=>cL (φ i)) (show N0+k<N by omega);have aj:cS (φ (N0+k))<=sumTo N λi=>cS (φ i):=le_sumTo (f:=λi=>cS (φ i)) (show N0+k<N by omega);have al:v=0/\(sumTo N λi=>cL (φ i))=0/\(sumTo N λi=>cS (φ i))=0:=by
  rcases U with e | e | e | e | e;rw[e] at hm;exact⟨hm.2.2.2.2.1,hm.1,hm.2.1⟩;rw[e] at hm;exact⟨hm.2.2.2.2.1,hm.1,hm.2.1⟩;rw[e] at hm;exact⟨hm.2.2.2.2.1,hm.1,hm.2.1⟩;rw[e] at hm;exact⟨hm.2.2.2.2.1,hm.1,hm.2.1⟩
  .cases K:φ (N0+F.n) with
   | gone d=>rw[K] at hm;exact⟨hm.2.2.2.2.1,hm.1,hm.2.1⟩
   | ph p=>rw[K] at e;exact e.elim
 have hw:=h.work k Y;cases K:φ (N0+k) with
 | gone d=>trivial
 | ph p=>
  have am:1<=cU (φ (N0+k))+cL (φ (N0+k))+cS (φ (N0+k)):=by
   rw[K] at hw ⊢;cases p<;>simp only[Hw] at hw<;>simp[cU,cL,cS]
  exfalso;omega
end
open Go.ConcN (RelBy)
def dl:LP->Nat
 | .HZ | .EZ _ _ _ | .CN _ _ _ _ | .I4 _ | .C9 _ | .GN | .Fl _ | .EY _ | .len=>1
 | .IA | .FC _ | .H0 | .FT _ | .FW=>1
 | _=>0
def Gz:Nx->Nat
 | .gone d=>d
 | .ph .H4 | .ph .Hz | .ph .HV | .ph .F9=>1
 | .ph (.GM _) | .ph (.H2 _) | .ph .Jh | .ph .IJ | .ph .Gp | .ph .HU | .ph .GU=>1
 | .ph (.I8 _) | .ph (.Je _) | .ph (.Iz _) | .ph (.HH _)=>1
 | .ph (.lk _ p)=>dl p
 | _=>0
def late:Nx->Prop
 | .ph (.HX _) | .ph .IG | .ph .Hk | .ph (.lk _ _)=>False
 | _=>True
def KE(t:Trace)(E:LH)(ρ:Nat):Prop:=∀b,E b≠none->∀x a,touchAt t x=some a->Ds a.loc=some b->a.write=true->Before t x ρ
structure FR (F:Fam) (N0 t0 N j:Nat) (φ:Nat->Nx) (S:Nat->St) (t:Trace):Prop where
 deaf:∀i,i<N->Deaf t i=Gz (φ i)
 above:∀i,N<=i->Deaf t i=0
 plain:∀x a b,touchAt t x=some a->Ds a.loc=some b->(b=F.wg∨b=F.mu)->a.kind=.plain->∀i,i<N->(i=0∨N0<=i)->Knows t i x
 said:∀x a b,touchAt t x=some a->Ds a.loc=some b->(b=F.wg∨b=F.mu)->a.kind=.said->Knows t 0 x
 G9:∀x a,touchAt t x=some a->Ds a.loc=some F.fd->(∀i,i<N->(i=0∨N0<=i)->Knows t i x)∨∃k,k<j/\t.g? x=some (N0+k)/\t.counts x/\a.loc=.cell ⟨F.fd,k,none⟩
 over:∀x g,t.g? x=some g->g≠0->t.counts x->(∃y,t.g? y=some 0/\HappensBefore t x y)∨(N0<=g/\g<N)
 norel:∀x,t0<=x->t.act? x≠some (.mark (.release F.sA))
 NF:t0<=t.size
 rel:∀k,k<j->late (φ (N0+k))->∃ρ,t0<=ρ/\RelBy F.sA t (N0+k) ρ/\KE t (S (N0+k)).E ρ
variable{fn:FuncId}{pos:String}
section
variable {F:Fam}{N0 t0 N j:Nat}{φ:Nat->Nx}{S:Nat->St}{t u:Trace}
def EvS(F:Fam)(N0 j i:Nat)(e:Event):Prop:=
 (∀a,(MemAct.ofEvent e).touch?=some a->∃b,Ds a.loc=some b/\(((b=F.wg∨b=F.mu)/\a.kind≠ .plain/\(a.kind=.said->i=0))∨(b=F.fd/\∃k,k<j/\i=N0+k/\a.loc=.cell ⟨F.fd,k,none⟩/\a.kind=.plain)))/\e.loc≠ .mark (.release F.sA)
theorem FR.noRace(h:FR F N0 t0 N j φ S t)(aj:∀said,¬Race said t)(hi:i<N)(Z:i=0∨N0<=i)
  (al:∀e∈es,EvS F N0 j i e):∀said,¬Race said (t++MemOp.ofEvents i fn pos es):=by
 intro said;refine noRace_append (g:=i) (aj said) (λop O=>by obtain⟨e,_,rfl⟩:=mem_ofEvents O;rfl) λx a U op O d hd am=>?_;obtain⟨e,he,rfl⟩:=mem_ofEvents O;let⟨b,hb,K⟩:=(al e he).1 d hd;obtain⟨ac,hm,a4,ap⟩:=am;have Y:Ds a.loc=some b:=by rw[ac];exact hb
 rcases K with⟨K,ag,aq⟩ | ⟨rfl,k,ag,aw,a0,_⟩
 .rcases ap with q | q | ⟨_,q,q'⟩;exact h.plain x a b U Y K q i hi Z;exact absurd q ag
  .have:=h.said x a b U Y K q
   rwa[← aq q'] at this
 .rcases h.G9 x a U Y with q | ⟨k',_,a1,_,ai⟩;exact q i hi Z
  .rw [ac,a0] at ai;have:k=k':=by simpa using ai
   subst this;let⟨z,a2,a3⟩:=rg.1 a1;have:=knows_own a2;rw[a3,← aw] at this;exact this
theorem Rc(h:∀x g,t.g? x=some g->g≠0->t.counts x->(∃y,t.g? y=some 0/\HappensBefore t x y)∨(N0<=g/\g<N))(hu:∀op∈u,op.g=0∨(N0<=op.g/\op.g<N)∨op.act.touch?=none):
  ∀x g,(t++u).g? x=some g->g≠0->(t++u).counts x->(∃y,(t++u).g? y=some 0/\HappensBefore (t++u) x y)∨(N0<=g/\g<N):=by
 intro x g O U Y;rcases f7 x t.size with q | q
 .rcases h x g (by rw[← g?_old (u:=u) q];exact O) U ((counts_old q).1 Y) with⟨y,K,hb⟩ | hh
  .have ai:y<t.size:=by
    unfold Trace.g? at K;let⟨z,aj,_⟩:=rg.1 K;exact lt_size_of_getElem? aj
   exact .inl ⟨y,by rw[g?_old ai];exact K,hb_app u hb⟩
  .exact .inr hh
 .obtain⟨a,al,_⟩:=Y;let⟨op,Z,ac⟩:=touch_of al;have ag:op.g=g:=by simpa [Trace.g?,Z] using O
  rcases getElem?_append_cases Z with⟨ap,_⟩ | ⟨_,am⟩;omega;rcases hu op am with z | z | z;exact absurd (ag▸z) U;exact .inr (ag▸z);rw[z] at ac;cases ac
theorem QY(h:∀x,t0<=x->t.act? x≠some (.mark (.release F.sA)))(hu:∀op∈u,op.act≠ .mark (.release F.sA)):∀x,t0<=x->(t++u).act? x≠some (.mark (.release F.sA)):=by
 intro x O e;let⟨op,U,K⟩:=rg.1 e;rcases getElem?_append_cases U with⟨_,Y⟩ | ⟨_,Z⟩;exact h x O (by rw[act?_of Y,K]);exact hu op Z K
theorem XB{g:Nat}(hu:∀op∈u,op.g=g->op.act.touch?=none):∀x,t.size<=x->(t++u).g? x=some g->¬(t++u).counts x:=by
 intro x ag U Y;obtain⟨a,Z,_⟩:=Y;let⟨op,K,O⟩:=touch_of Z;rcases getElem?_append_cases K with⟨ai,_⟩ | ⟨_,ac⟩;omega;rw[hu op ac (by simpa [Trace.g?,K] using U)] at O;cases O
theorem KE.app{E:LH}{ρ:Nat}(h:KE t E ρ)(hu:∀op∈u,∀a b,op.act.touch?=some a->Ds a.loc=some b->a.write=true->E b=none):KE (t++u) E ρ:=by
 intro b hb x a U K hw;let⟨op,Y,O⟩:=touch_of U;rcases getElem?_append_cases Y with⟨ag,Z⟩ | ⟨_,ac⟩;exact(h b hb x a (by rw[touchAt_of Z];exact O) K hw).app u;exact absurd (hu op ac a b O K hw) hb
theorem FR.app(h:FR F N0 t0 N j φ S t)(hi:i<N){s':St}
  (hd:deafBehind (Gz (φ i)) es=Gz x)
  (am:∀e∈es,(∀a b,(MemAct.ofEvent e).touch?=some a->Ds a.loc=some b->(b=F.wg∨b=F.mu)->a.kind≠ .plain/\(a.kind=.said->i=0))/\
   (∀a,(MemAct.ofEvent e).touch?=some a->Ds a.loc=some F.fd->∃k,k<j/\i=N0+k/\a.loc=.cell ⟨F.fd,k,none⟩/\a.kind=.plain)/\e.loc≠ .mark (.release F.sA))
  (a8:(i=0∨N0<=i)∨∀e∈es,(MemAct.ofEvent e).touch?=none)
  (a9:∀k,k<j->late (φ (N0+k))->∀e∈es,∀a b,(MemAct.ofEvent e).touch?=some a->Ds a.loc=some b->a.write=true->(S (N0+k)).E b=none)
  (aq:∀k,k<j->i=N0+k->late x->(late (φ i)/\s'.E=(S i).E/\∀ρ,RelBy F.sA t i ρ->RelBy F.sA (t++MemOp.ofEvents i fn pos es) i ρ)∨∃ρ,t0<=ρ/\RelBy F.sA (t++MemOp.ofEvents i fn pos es) i ρ/\KE (t++MemOp.ofEvents i fn pos es) s'.E ρ):
  FR F N0 t0 N j (upd φ i x) (upd S i s') (t++MemOp.ofEvents i fn pos es):=by
 generalize hu:MemOp.ofEvents i fn pos es=u at*;have ag:∀op∈u,op.g=i:=λop O=>by rw[← hu] at O;obtain⟨e,_,rfl⟩:=mem_ofEvents O;rfl
 have ap:∀op∈u,∃e∈es,op.act=MemAct.ofEvent e:=λop O=>by rw[← hu] at O;obtain⟨e,he,rfl⟩:=mem_ofEvents O;exact⟨e,he,V⟩
 have hold:∀{y a},touchAt (t++u) y=some a->(touchAt t y=some a/\y<t.size)∨(Knows (t++u) i y/\(t++u).g? y=some i/\∃e∈es,(MemAct.ofEvent e).touch?=some a):=by
  intro y a bb;let⟨op,O,a2⟩:=touch_of bb;rcases getElem?_append_cases O with⟨aq,be⟩ | ⟨_,aw⟩;left;exact⟨by rw[touchAt_of be];exact a2,aq⟩;right;let⟨e,he,Z⟩:=ap op aw;exact⟨by have:=knows_own O;rwa[ag op aw] at this,by simp[Trace.g?,O,ag op aw],e,he,by rw[← Z];exact a2⟩
 have a3:∀k,k<j->late (φ (N0+k))->∀ρ,KE t (S (N0+k)).E ρ->KE (t++u) (S (N0+k)).E ρ:=λk K U ρ bg=>bg.app λop bi a b a4 hb hw=>by
  let⟨e,he,Z⟩:=ap op bi;rw[Z] at a4;exact a9 k K U e he a b a4 hb hw
 refine⟨λY ac=>?_,λY ac=>?_,λy a b ai hb aj K Y ac a0=>?_,λy a b ai hb aj K=>?_,λy a ai hb=>?_,Rc h.over λop O=>?_,QY h.norel λop O e=>?_,by simp;have:=h.NF;omega,λk K U=>?_⟩;by_cases e:Y=i;subst e;rw[upd_same,← hu,Deaf_own,h.deaf Y hi,hd];rw[upd_ne _ _ e,Deaf_other t (q2 e) u ag];exact h.deaf Y ac;rw[Deaf_other t (by omega) u ag];exact h.above Y ac;rcases hold ai with⟨q,_⟩ | ⟨_,_,e,he,al⟩;exact(h.plain y a b q hb aj K Y ac a0).app _;exact absurd K ((am e he).1 a b al hb aj).1;rcases hold ai with⟨q,_⟩ | ⟨a5,_,e,he,al⟩;exact(h.said y a b q hb aj K).app _;rw[← ((am e he).1 a b al hb aj).2 K];exact a5;rcases hold ai with⟨q,a6⟩ | ⟨a5,a1,e,he,al⟩;rcases h.G9 y a q hb with z | ⟨k,K,a1,bo,U⟩;exact .inl λY ac a0=>(z Y ac a0).app _;exact .inr ⟨k,K,by rw[g?_old a6];exact a1,(counts_old a6).2 bo,U⟩;let⟨k,K,bv,U,bw⟩:=(am e he).2.1 a al hb;exact .inr ⟨k,K,by rw[a1,bv],⟨a,ai,by rw[U];rfl,.inl (by rw[bw];simp)⟩,U⟩;rw[ag op O];rcases a8 with(q | q) | q;exact .inl q;exact .inr (.inl ⟨q,hi⟩);let⟨e,he,Z⟩:=ap op O;rw[Z];exact .inr (.inr (q e he))
 .let⟨ev,bx,Z⟩:=ap op O;rw[Z] at e;exact(am ev bx).2.2 (by
   obtain⟨loc,wr,b0⟩:=ev
   cases loc with
   | mark m=>simp only[MemAct.ofEvent,MemAct.mark.injEq] at e;rw[e]
   | obj r=>cases wr<;>cases b0<;>simp[MemAct.ofEvent] at e
   | _=>simp[MemAct.ofEvent] at e)
 .by_cases e:i=N0+k;subst e;rw[upd_same] at U;rw[upd_same];rcases aq k K rfl U with⟨a7,b1,b2⟩ | hh;let⟨ρ,a,b,c⟩:=h.rel k K a7;exact⟨ρ,a,b2 ρ b,by rw[b1];exact a3 k K a7 ρ c⟩;exact hh;rw[upd_ne _ _ (q2 e)] at U;rw[upd_ne _ _ (q2 e)];let⟨ρ,a,b,c⟩:=h.rel k K U;exact⟨ρ,a,b.appOther ag e,a3 k K U ρ c⟩
theorem FR.Eh(h:FR F N0 t0 N j φ S t)(hu:∀op∈u,op.act.touch?=none/\∀m,op.act≠ .mark m):FR F N0 t0 N j φ S (t++u):=by
 have al:∀g,Deaf (t++u) g=Deaf t g:=by
  intro g;obtain⟨l⟩:=u;rw[Deaf_append];have key:∀(l:List MemOp) (d:Nat),(∀op∈l,∀m,op.act≠ .mark m)->l.foldl (deafStep g) d=d:=by
   intro l
   induction l with
   | nil=>intro d _;rfl
   | cons z l aq=>
    intro d U;have aw:=U z (by simp);have e2:deafStep g d z=d:=by
     unfold deafStep;split<;>first | (rename_i e;exact absurd e (aw _)) | rfl
    rw[tt,e2];exact aq d λop K=>U op (by simp[K])
  exact key l _ λop K=>(hu op (by simpa using K)).2
 have hold:∀{y a},touchAt (t++u) y=some a->touchAt t y=some a/\y<t.size:=by
  intro y a Z;let⟨op,K,ac⟩:=touch_of Z;rcases getElem?_append_cases K with⟨a0,a1⟩ | ⟨_,a2⟩;exact⟨by rw[touchAt_of a1];exact ac,a0⟩;rw[(hu op a2).1] at ac;cases ac
 have a3:∀g x,t.size<=x->(t++u).g? x=some g->¬(t++u).counts x:=λg=>XB λop K _=>(hu op K).1;refine⟨λi hi=>by rw[al];exact h.deaf i hi,λi hi=>by rw[al];exact h.above i hi,λy a b Y hb ag O i hi ai=>(h.plain y a b (hold Y).1 hb ag O i hi ai).app _,λy a b Y hb ag O=>(h.said y a b (hold Y).1 hb ag O).app _,λy a Y hb=>?_,
  Rc h.over λop K=>.inr (.inr (hu op K).1),QY h.norel λop K=>(hu op K).2 _,by simp;have:=h.NF;omega,λk O U=>let ⟨ρ,a,b,c⟩:=h.rel k O U;⟨ρ,a,b.app λx Z aj=>a3 _ x Z aj,c.app λop K a b am=>by rw[(hu op K).1] at am;cases am⟩⟩
 let⟨q,ap⟩:=hold Y;rcases h.G9 y a q hb with z | ⟨k,O,aj,a4,U⟩;exact .inl λa5 a6 ai=>(z a5 a6 ai).app _;exact .inr ⟨k,O,by rw[g?_old ap];exact aj,(counts_old ap).2 a4,U⟩
theorem FR.spawn(h:FR F N0 t0 N j φ S t){φ':Nat->Nx}{S':Nat->St}(ac:0<N)(be:N=N0+j)(hd:∀i,i<N->Gz (φ' i)=Gz (φ i))(a3:Gz (φ' N)=0)(a4:Gz (φ 0)=0)
  (a5:∀k,k<j+1->late (φ' (N0+k))->k<j/\late (φ (N0+k))/\(S' (N0+k)).E=(S (N0+k)).E)
  {x y:MemOp}(Z:x.g=0/\x.act=.go N) (am:y.g=N/\y.act=.start):FR F N0 t0 (N+1) (j+1) φ' S' (t++ #[x,y]):=by
 have hu:∀op∈(#[x,y]:Array MemOp),op.act.touch?=none/\∀m,op.act≠ .mark m:=by
  intro op ap;simp only[r6,fP,qG,rq] at ap;rcases ap with rfl | rfl;rw[Z.2];exact⟨V,by simp⟩;rw[am.2];exact⟨V,by simp⟩
 have K:=h.Eh hu;have aq:∀z,Knows t 0 z->Knows (t++ #[x,y]) N z:=λz O=>fork_knows Z am (by rw[h.deaf 0 ac];exact a4) (h.above N (qH _)) O;have hold:∀{z a},touchAt (t++ #[x,y]) z=some a->touchAt t z=some a:=by
  intro z a O;let⟨op,ag,U⟩:=touch_of O;rcases getElem?_append_cases ag with⟨aw,a6⟩ | ⟨_,ai⟩;rw[touchAt_of a6];exact U;rw[(hu op ai).1] at U;cases U
 refine⟨λi hi=>?_,λi hi=>K.above i (by omega),λz a b O hb a0 Y i hi aj=>?_,K.said,λz a O hb=>?_,λz g al a7 a8=>?_,K.norel,K.NF,λk Y Z=>?_⟩
 .rcases f7 i N with q | q;rw[hd i q];exact K.deaf i q
  .obtain rfl:i=N:=by omega
   rw[a3];exact K.above i (qH _)
 .rcases f7 i N with q | q;exact K.plain z a b O hb a0 Y i q aj
  .obtain rfl:i=N:=by omega
   exact aq z (h.plain z a b (hold O) hb a0 Y 0 ac (.inl V))
 .have a1:z<t.size:=by
   let⟨op,ag,U⟩:=touch_of O;rcases getElem?_append_cases ag with⟨aw,_⟩ | ⟨_,ai⟩;exact aw;rw[(hu op ai).1] at U;cases U
  rcases h.G9 z a (hold O) hb with a2 | ⟨k,Y,al,a9,bb⟩
  .refine .inl λi hi aj=>?_;rcases f7 i N with q | q;exact(a2 i q aj).app _
   .obtain rfl:i=N:=by omega
    exact aq z (a2 0 ac (.inl V))
  .exact .inr ⟨k,by omega,by rw[g?_old a1];exact al,(counts_old a1).2 a9,bb⟩
 rcases K.over z g al a7 a8 with q | q;exact .inl q;exact .inr ⟨q.1,by omega⟩;let⟨a,b,c⟩:=a5 k Y Z;rw[c];exact K.rel k a b
end
end Pal
namespace Pal
open Go Go.Conc
open Go.ConcN (upd upd_same upd_ne sumTo sumTo_upd sumTo_upd_out sumTo_congr le_sumTo sumTo_le)
def pH:LP->Nat
 | .len | .LK | .KR | .Gr | .Hp | .K1 | .KZ | .KT | .IA=>1
 | _=>0
def pN:LP->Nat
 | .FT false=>1
 | _=>0
def pZ:LP->Nat
 | .FT true=>1
 | _=>0
def pV:LP->Nat
 | .GN | .Fl _=>1
 | _=>0
def pT:LP->Nat
 | .EZ _ true _ | .CN _ true _ _=>1
 | _=>0
def pQ:LP->Nat
 | .I4 _ | .C9 _=>1
 | _=>0
def pD:LP->Nat
 | .EY _=>1
 | _=>0
def pX:LP->Nat
 | .FC _ | .H0=>1
 | _=>0
def oC(f:LP->Nat):Option LP->Nat
 | some p=>f p
 | none=>0
def LN(m:M4)(q h rn rs v t s d x:Nat):Prop:=
 h=m.l.toNat/\
 (m.s=false->rs=0/\d=0/\m.k.toNat=rn+q+v+t/\s=m.w+rn+q/\(m.l=false->m.k=false->1<=m.w->1<=x))/\
 (m.s=true->m.k=false/\rn=0/\t=0/\m.l.toNat+rs+q+v+d=1/\m.w=s+v+d/\1<=m.w)
def Mx:LP->M4->Prop
 | .CN sv aw it old,_=>(aw=true->old.k=true)/\(sv=true->aw=true)/\it<=4/\DU old
 | .EZ sv aw it,_=>(sv=true->aw=true)/\it<=4
 | .EY ex,m=>ex=false->2<=m.w
 | .FC old,_=>old.l=false/\old.k=false/\old.s=false/\old.w≠0/\DU old
 | _,_=>True
section
variable {F:Fam}{p:LP}{m m':M4}{q q' h rn rs v t s d x:Nat}{es:Array Event}{o:Option LP}
theorem dV(al:LN m q (pH p+h) (pN p+rn) (pZ p+rs) (pV p+v) (pT p+t) (pQ p+s) (pD p+d) (pX p+x))(K:Mx p m)(Y:DU m)(am:∀sv,p=.C9 sv->q≠0):EB p m q:=by
 obtain⟨l,k,st,w⟩:=m;obtain⟨Z,O,U⟩:=al;cases p<;>simp only[EB,Mx] at K ⊢<;>(try exact Y)
 .exact⟨K.1,K.2,Y,λe=>by
   subst e
   simp only[pH,pN,pZ,pV,pT,pQ,pD,pX] at Z O U
   cases st
   .have:=(O V).2.2.1
    cases k;simp at this;omega;rfl
   .have:=(U V).2.2.1;omega⟩
 .exact⟨K.1,K.2.1,K.2.2.1,K.2.2.2,Y,λe=>by
   subst e
   simp only[pH,pN,pZ,pV,pT,pQ,pD,pX] at Z O U
   cases st
   .have:=(O V).2.2.1
    cases k;simp at this;omega;rfl
   .have:=(U V).2.2.1;omega⟩
 exact am _ V;simp only[pH,pN,pZ,pV,pT,pQ,pD,pX] at Z O U;refine⟨λe=>?_,λe=>?_,Y⟩;subst e;let⟨a1,ai,ag,ac,ap,aj⟩:=U V;cases l;exact⟨V,a1,by omega⟩;simp at ac;omega;subst e;let⟨a1,ai,ag,ac⟩:=O V;cases k;simp at ag;omega;rfl;simp only[pH,pN,pZ,pV,pT,pQ,pD,pX] at Z O U;cases st;have:=(O V).2.1;omega;let⟨a1,ai,ag,ac,ap,aj⟩:=U V;cases l;exact⟨V,V,a1,aj,K,Y⟩;simp at ac;omega;simp only[pH,pN,pZ,pV,pT,pQ,pD,pX] at Z;cases l;simp at Z;exact⟨V,Y⟩;exact⟨K.1,K.2.1,K.2.2.1,K.2.2.2.1,K.2.2.2.2,Y⟩;refine⟨?_,Y⟩;have aq:k.toNat<=1:=ta k;cases st;have:=(O V).2.2.1;simp only at this;omega;have:=(U V).2.2.2.1;simp only at this;omega
set_option maxHeartbeats 1000000 in
theorem LN.step(K:(m',q',es,o)∈F.Ci p m q)(U:EB p m q)(O:LN m q (pH p+h) (pN p+rn) (pZ p+rs) (pV p+v) (pT p+t) (pQ p+s) (pD p+d) (pX p+x)):
  LN m' q' (oC pH o+h) (oC pN o+rn) (oC pZ o+rs) (oC pV o+v) (oC pT o+t) (oC pQ o+s) (oC pD o+d) (oC pX o+x):=by
 obtain⟨l,k,st,w⟩:=m;cases p<;>simp only[Fam.Ci,aX,d9,qG] at K
 case GQ=>obtain⟨rfl,rfl,-,rfl⟩:=K;exact O
 case HZ=>
  split at K;rename_i e;simp only[M4.zero,M4.mk.injEq] at e;obtain⟨rfl,rfl,rfl,rfl⟩:=e;simp only[aX,d9] at K;obtain⟨rfl,rfl,-,rfl⟩:=K;simp[LN,pH,pN,pZ,pV,pT,pQ,pD,pX,oC] at O ⊢;omega;simp only[aX,d9] at K;obtain⟨rfl,rfl,-,rfl⟩:=K;exact O
 case EZ sv aw it=>obtain⟨rfl,rfl,-,rfl⟩:=K;cases aw<;>exact O
 case CN sv aw it old=>
  simp only[Fam.Gn,ik] at K;simp only[EB] at U;obtain⟨k1,Y,Z,ac,aj,-⟩:=U;rcases K with K | K;split at K;rename_i c;split at K;rename_i c2;simp only[aX] at K;obtain⟨rfl,c3,c4⟩:=c2;split at K;rename_i e;subst e;simp only[d9] at K;obtain⟨rfl,rfl,-,rfl⟩:=K;simp only at c c3 c4;obtain⟨rfl,rfl,-⟩:=c;subst c3;simp[LN,pH,pN,pZ,pV,pT,pQ,pD,pX,oC] at O ⊢;omega;simp only[d9] at K;obtain⟨rfl,rfl,-,rfl⟩:=K;exact O;simp only[aX,d9] at K;obtain⟨rfl,rfl,-,rfl⟩:=K;cases aw<;>exact O;simp at K
  .split at K
   .rename_i e;subst e;split at K;rename_i c;simp only[aX,d9] at K;obtain⟨rfl,rfl,-,rfl⟩:=K;simp only at c;obtain⟨rfl,rfl⟩:=c;cases aw<;>cases k<;>simp[LN,pH,pN,pZ,pV,pT,pQ,pD,pX,oC] at O k1 ⊢<;>omega
    .rename_i c;have key:∀o',(o'=some (LP.I4 sv)∨o'=some (LP.C9 sv))->LN ⟨l,!aw&&k,st || (sv&&l),w+1⟩ q (oC pH o'+h) (oC pN o'+rn) (oC pZ o'+rs) (oC pV o'+v) (oC pT o'+t) (oC pQ o'+s) (oC pD o'+d) (oC pX o'+x):=by
      intro o' al;have ag:oC pH o'=0/\oC pN o'=0/\oC pZ o'=0/\oC pV o'=0/\oC pT o'=0/\oC pQ o'=1/\oC pD o'=0/\oC pX o'=0:=by
       rcases al with rfl | rfl<;>exact⟨rfl,rfl,rfl,rfl,rfl,rfl,rfl,rfl⟩
      obtain⟨ag,e2,am,ap,aq,a0,a1,a2⟩:=ag;rw[ag,e2,am,ap,aq,a0,a1,a2];cases l<;>cases st<;>cases k<;>cases aw<;>cases sv<;>simp[LN,pH,pN,pZ,pV,pT,pQ,pD,pX] at O k1 Y c ⊢<;>omega
     simp only[fP,qG,rq,d9] at K;rcases K with⟨rfl,rfl,-,rfl⟩ | ⟨rfl,rfl,-,rfl⟩;exact key _ (.inl V);exact key _ (.inr V)
   .simp only [aX,d9] at K;obtain⟨rfl,rfl,-,rfl⟩:=K;cases aw<;>exact O
 case I4 sv=>obtain⟨rfl,rfl,-,rfl⟩:=K;exact O
 case C9 sv=>
  obtain⟨rfl,rfl,-,rfl⟩:=K;simp only[EB] at U;cases st<;>cases k<;>cases l<;>cases sv<;>simp[LN,pH,pN,pZ,pV,pT,pQ,pD,pX,oC] at O ⊢<;>omega
 case GN=>
  simp only[fP,qG,rq,d9] at K;rcases K with⟨rfl,rfl,-,rfl⟩ | ⟨rfl,rfl,-,rfl⟩<;>exact O
 case Fl sv=>
  simp only[EB] at U;split at K;rename_i c;simp only[aX,d9] at K;obtain⟨rfl,rfl,-,rfl⟩:=K;have c:st=true:=c;subst c;cases k<;>cases l<;>simp[LN,pH,pN,pZ,pV,pT,pQ,pD,pX,oC] at O ⊢<;>omega;rename_i c;simp only[aX,d9] at K;obtain⟨rfl,rfl,-,rfl⟩:=K;cases st;cases k<;>cases l<;>simp[LN,pH,pN,pZ,pV,pT,pQ,pD,pX,oC] at O ⊢<;>omega;exact absurd V c
 case EY ex=>
  obtain⟨rfl,rfl,-,rfl⟩:=K;simp only[EB] at U;obtain⟨rfl,rfl,rfl,ac,aj,-⟩:=U;cases ex<;>simp[LN,pH,pN,pZ,pV,pT,pQ,pD,pX,oC] at O aj ⊢<;>omega
 case len=>obtain⟨rfl,rfl,-,rfl⟩:=K;exact O
 case LK=>obtain⟨rfl,rfl,-,rfl⟩:=K;exact O
 case KR=>obtain⟨rfl,rfl,-,rfl⟩:=K;exact O
 case Hp=>obtain⟨rfl,rfl,-,rfl⟩:=K;exact O
 case K1=>obtain⟨rfl,rfl,-,rfl⟩:=K;exact O
 case KZ=>obtain⟨rfl,rfl,-,rfl⟩:=K;exact O
 case KT=>obtain⟨rfl,rfl,-,rfl⟩:=K;exact O
 case IA=>
  obtain⟨rfl,rfl,-,rfl⟩:=K;simp only[EB] at U;obtain⟨rfl,-⟩:=U;rcases rD w with rfl | hw;cases st<;>cases k<;>simp[LN,pH,pN,pZ,pV,pT,pQ,pD,pX,oC] at O ⊢<;>omega
  .have ai:¬w=0:=by omega
   cases st<;>cases k<;>simp[LN,pH,pN,pZ,pV,pT,pQ,pD,pX,oC,ai] at O ⊢<;>omega
 case FC old=>
  simp only[EB] at U;obtain⟨k1,Y,Z,ac,-⟩:=U;split at K;rename_i e;subst e;simp only at k1 Y Z ac;subst k1 Y Z;simp only[aX,d9] at K;obtain⟨rfl,rfl,-,rfl⟩:=K;simp[LN,pH,pN,pZ,pV,pT,pQ,pD,pX,oC] at O ⊢;omega;simp only[aX,d9] at K;obtain⟨rfl,rfl,-,rfl⟩:=K;exact O
 case H0=>
  obtain⟨rfl,rfl,-,rfl⟩:=K;rcases rD w with rfl | hw;cases st<;>cases k<;>cases l<;>simp[LN,pH,pN,pZ,pV,pT,pQ,pD,pX,oC] at O ⊢<;>omega
  .have ai:¬w=0:=by omega
   cases st<;>cases k<;>cases l<;>simp[LN,pH,pN,pZ,pV,pT,pQ,pD,pX,oC,ai] at O ⊢<;>omega
 case FT b=>
  obtain⟨rfl,rfl,-,rfl⟩:=K;cases b<;>cases st<;>cases k<;>cases l<;>simp[LN,pH,pN,pZ,pV,pT,pQ,pD,pX,oC] at O ⊢<;>omega
 case FW=>obtain⟨rfl,rfl,-,rfl⟩:=K;exact O
theorem LN.awake(O:LN m q (pH p+h) (pN p+rn) (pZ p+rs) (pV p+v) (pT p+t) (pQ p+s) (pD p+d) (pX p+x))(ag:pT p=1):m.k=true:=by
 obtain⟨l,k,st,w⟩:=m;obtain⟨ai,U,Y⟩:=O;cases st;let⟨a1,Z,K,ac⟩:=U V;cases k;simp at K;omega;rfl;let⟨a1,Z,K,ac⟩:=Y V;omega
theorem LN.jF(K:(m',q',es,o)∈F.Ci p m q)(O:EB p m q)(Z:Mx p m)(U:DU m)(ai:LN m q (pH p+h) (pN p+rn) (pZ p+rs) (pV p+v) (pT p+t) (pQ p+s) (pD p+d) (pX p+x)):∀ac,o=some ac->Mx ac m':=by
 have ag:=λaj=>ai.awake aj;cases p<;>simp only[Fam.Ci,aX,d9,qG] at K
 case HZ=>
  split at K<;>simp only[aX,d9] at K<;>obtain⟨rfl,rfl,-,rfl⟩:=K<;>rintro _ ⟨⟩<;>simp[Mx]
 case EZ sv aw it=>
  obtain⟨rfl,rfl,-,rfl⟩:=K;rintro _ ⟨⟩;exact⟨λe=>by subst e;exact ag rfl,Z.1,Z.2,U⟩
 case CN sv aw it old=>
  simp only[Fam.Gn,ik] at K;simp only[EB] at O;obtain⟨k1,Y,al,am,ap,-⟩:=O;rcases K with K | K;split at K;rename_i c;split at K;simp only[aX] at K;split at K<;>simp only[d9] at K<;>obtain⟨rfl,rfl,-,rfl⟩:=K<;>rintro _ ⟨⟩;exact⟨λ_=>V,by omega⟩;exact⟨Y,by omega⟩;simp only[aX,d9] at K;obtain⟨rfl,rfl,-,rfl⟩:=K;rintro _ ⟨⟩;exact⟨λe=>by subst e;exact ag rfl,Y,by omega,U⟩;simp at K;split at K;split at K;simp only[aX,d9] at K;obtain⟨rfl,rfl,-,rfl⟩:=K;rintro _ ⟨⟩;trivial;simp only[fP,qG,rq,d9] at K;rcases K with⟨rfl,rfl,-,rfl⟩ | ⟨rfl,rfl,-,rfl⟩<;>rintro _ ⟨⟩<;>trivial;simp only[aX,d9] at K;obtain⟨rfl,rfl,-,rfl⟩:=K;rintro _ ⟨⟩;exact⟨Y,al⟩
 case C9 sv=>
  obtain⟨rfl,rfl,-,rfl⟩:=K;rintro _ h;cases sv<;>cases h<;>trivial
 case GN=>
  simp only[fP,qG,rq,d9] at K;rcases K with⟨rfl,rfl,-,rfl⟩ | ⟨rfl,rfl,-,rfl⟩<;>rintro _ ⟨⟩<;>trivial
 case Fl sv=>
  simp only[EB] at O;split at K;rename_i c;simp only[aX,d9] at K;obtain⟨rfl,rfl,-,rfl⟩:=K;rintro _ ⟨⟩;intro e;have:=(O.1 c).2.2;simp at e;omega;rename_i c;simp only[aX,d9] at K;obtain⟨rfl,rfl,-,rfl⟩:=K;rintro _ ⟨⟩;exact⟨λ_=>O.2.1 (by simpa using c),λ_=>V,by omega,U⟩
 case IA=>
  obtain⟨rfl,rfl,-,rfl⟩:=K;rintro _ h;split at h;cases h;trivial;rename_i c;split at h;rename_i c2;cases h;exact⟨V,c2.1,by simpa using c,c2.2,U⟩;cases h;trivial
 case FC old=>
  split at K<;>simp only[aX,d9] at K<;>obtain⟨rfl,rfl,-,rfl⟩:=K<;>rintro _ ⟨⟩<;>trivial
 case H0=>
  obtain⟨rfl,rfl,-,rfl⟩:=K;rintro _ h;split at h;rename_i c;cases h;exact⟨c.1,c.2.1,c.2.2.1,c.2.2.2,U⟩;cases h;trivial
 all_goals
  obtain⟨rfl,rfl,-,rfl⟩:=K;rintro _ ⟨⟩
 all_goals trivial
theorem LN.keepW(K:(m',q',es,o)∈F.Ci p m q)(O:EB p m q)(U:LN m q (pH p+h) (pN p+rn) (pZ p+rs) (pV p+v) (pT p+t) (pQ p+s) (pD p+d) (pX p+x))(hd:1<=d):m.w<=m'.w:=by
 obtain⟨l,k,st,w⟩:=m;obtain⟨ai,Y,Z⟩:=U;have ac:st=true:=by
  cases st;have:=(Y V).2.1;omega;rfl
 subst ac;let⟨a1,aj,al,ag,am,ap⟩:=Z V;cases p<;>simp only[Fam.Ci,aX,d9,qG] at K
 case HZ=>split at K<;>simp only[aX,d9] at K<;>obtain⟨rfl,rfl,-,rfl⟩:=K<;>simp_all [M4.zero]
 case CN sv aw it old=>
  simp only[Fam.Gn,ik] at K;rcases K with K | K;split at K;split at K;simp only[aX] at K;split at K<;>simp only[d9] at K<;>obtain⟨rfl,rfl,-,rfl⟩:=K<;>exact qH _;simp only[aX,d9] at K;obtain⟨rfl,rfl,-,rfl⟩:=K;exact qH _;simp at K;split at K;split at K;simp only[aX,d9] at K;obtain⟨rfl,rfl,-,rfl⟩:=K;exact qH _;simp only[fP,qG,rq,d9] at K;rcases K with⟨rfl,rfl,-,rfl⟩ | ⟨rfl,rfl,-,rfl⟩<;>simp;simp only[aX,d9] at K;obtain⟨rfl,rfl,-,rfl⟩:=K;exact qH _
 case GN=>
  simp only[fP,qG,rq,d9] at K;rcases K with⟨rfl,rfl,-,rfl⟩ | ⟨rfl,rfl,-,rfl⟩<;>exact qH _
 case Fl sv=>split at K<;>simp only[aX,d9] at K<;>obtain⟨rfl,rfl,-,rfl⟩:=K<;>exact qH _
 case EY ex=>simp only[pD] at ag;omega
 case FC old=>
  simp only[EB] at O;split at K;rename_i e;subst e;exact absurd O.2.2.1 (by simp);simp only[aX,d9] at K;obtain⟨rfl,rfl,-,rfl⟩:=K;exact qH _
 all_goals
  obtain⟨rfl,rfl,-,rfl⟩:=K;exact qH _
end
def DY(f:LP->Nat):Nx->Nat
 | .ph (.lk _ p)=>f p
 | _=>0
def Ql:Nx->M4->Prop
 | .ph (.lk _ p),m=>Mx p m
 | _,_=>True
def Sg(f:LP->Nat)(N:Nat)(φ:Nat->Nx):Nat:=sumTo N λi=>DY f (φ i)
structure LI (N:Nat) (φ:Nat->Nx) (m:M4) (q:Nat):Prop where
 ln:LN m q (Sg pH N φ) (Sg pN N φ) (Sg pZ N φ) (Sg pV N φ) (Sg pT N φ) (Sg pQ N φ) (Sg pD N φ) (Sg pX N φ)
 loc:∀i,i<N->Ql (φ i) m
section
variable {F:Fam}{N i k:Nat}{φ:Nat->Nx}{p:LP}{m m':M4}{q q':Nat}{es:Array Event}{o:Option LP}{y:Nx}
theorem RZ(f:LP->Nat)(hi:i<N):Sg f N (upd φ i y)+DY f (φ i)=Sg f N φ+DY f y:=sumTo_upd φ y (DY f) hi
theorem Gv(f:LP->Nat)(hi:i<N)(K:φ i=.ph (.lk k p)):∃r,Sg f N φ=f p+r/\∀o,Sg f N (upd φ i (.ph (Fam.DX k o)))=oC f o+r:=by
 have O:DY f (φ i)<=Sg f N φ:=le_sumTo (f:=λi=>DY f (φ i)) hi;have e:DY f (φ i)=f p:=by rw[K];rfl
 refine⟨Sg f N φ - f p,by omega,λo=>?_⟩;have U:=RZ (φ:=φ) (y:=.ph (Fam.DX k o)) f hi;have Y:DY f (.ph (Fam.DX k o))=oC f o:=by cases o<;>rfl
 omega
theorem O4(f:LP->Nat)(hi:i<N)(K:DY f (φ i)=DY f y):Sg f N (upd φ i y)=Sg f N φ:=by
 have:=RZ (φ:=φ) (y:=y) f hi;omega
theorem LI.other(h:LI N φ m q)(hi:i<N)(U:∀k p,φ i≠ .ph (.lk k p))(K:∀k p,y≠ .ph (.lk k p)):LI N (upd φ i y) m q:=by
 have z:∀(f:LP->Nat) x,(∀k p,x≠Nx.ph (.lk k p))->DY f x=0:=by
  intro f x Y;cases x with
  | gone d=>rfl
  | ph p=>cases p<;>first | rfl | exact absurd rfl (Y _ _)
 have e:∀f,Sg f N (upd φ i y)=Sg f N φ:=λf=>O4 f hi (by rw[z f _ U,z f _ K]);refine⟨by simp only[e];exact h.ln,λa Z=>?_⟩;by_cases O:a=i
 .subst O;rw[upd_same];cases y with
  | gone d=>trivial
  | ph p=>cases p<;>first | trivial | exact absurd rfl (K _ _)
 .rw [upd_ne _ _ O];exact h.loc a Z
theorem LI.ok(h:LI N φ m q)(hi:i<N)(K:φ i=.ph (.lk k p))(Y:DU m)(Z:∀sv,p=.C9 sv->q≠0):EB p m q:=by
 obtain⟨a,ac,-⟩:=Gv pH hi K;obtain⟨b,ag,-⟩:=Gv pN hi K;obtain⟨c,ai,-⟩:=Gv pZ hi K;obtain⟨d,aj,-⟩:=Gv pV hi K;obtain⟨e,al,-⟩:=Gv pT hi K;obtain⟨f,am,-⟩:=Gv pQ hi K;obtain⟨g,ap,-⟩:=Gv pD hi K;obtain⟨j,aq,-⟩:=Gv pX hi K;have O:=h.ln;rw[ac,ag,ai,aj,al,am,ap,aq] at O;have U:=h.loc i hi;rw[K] at U;exact dV O U Y Z
theorem LI.step(h:LI N φ m q)(hi:i<N)(K:φ i=.ph (.lk k p))(am:DU m)(U:EB p m q)(Y:(m',q',es,o)∈F.Ci p m q):LI N (upd φ i (.ph (Fam.DX k o))) m' q':=by
 let⟨a,ap,aq⟩:=Gv pH hi K;let⟨b,aw,a0⟩:=Gv pN hi K;let⟨c,a1,a2⟩:=Gv pZ hi K;let⟨d,a3,a4⟩:=Gv pV hi K;let⟨e,a5,a6⟩:=Gv pT hi K;let⟨f,a7,a8⟩:=Gv pQ hi K;let⟨g,a9,bb⟩:=Gv pD hi K;let⟨j,be,bg⟩:=Gv pX hi K;have O:=h.ln;rw[ap,aw,a1,a3,a5,a7,a9,be] at O;have ag:=h.loc i hi;rw[K] at ag;refine⟨by rw[aq,a0,a2,a4,a6,a8,bb,bg];exact O.step Y U,λy ai=>?_⟩;by_cases Z:y=i
 .subst Z;rw[upd_same];cases o with
  | none=>trivial
  | some bi=>exact O.jF Y U ag am bi rfl
 .rw [upd_ne _ _ Z];have ac:=h.loc y ai;cases aj:φ y with
  | gone d=>trivial
  | ph p0=>
   cases p0 with
   | lk bo p0=>
    rw[aj] at ac;cases p0<;>try exact ac
    rename_i ex;intro bv;have hd:1<=g:=by
     have bw:=RZ (N:=N) (φ:=φ) (i:=i) (y:=.gone 0) pD hi;have al:DY pD (upd φ i (.gone 0) y)<=Sg pD N (upd φ i (.gone 0)):=le_sumTo (f:=λa=>DY pD (upd φ i (.gone 0) a)) ai;rw[upd_ne _ _ Z,aj] at al;have bx:DY pD (φ i)=pD p:=by rw[K];rfl
     have e2:DY pD (.gone 0)=0:=V;have b0:DY pD (.ph (.lk bo (.EY ex)))=1:=V;omega
    have:=O.keepW Y U hd;have al:2<=m.w:=ac bv;omega
   | _=>trivial
end
def H8:LP->Nat
 | .len=>22 | .LK=>21 | .KR=>20 | .Gr=>19 | .Hp=>18 | .K1=>17 | .KZ=>16 | .KT=>15 | .IA=>14
 | .FC _=>13 | .H0=>13 | .FT _=>12 | .FW=>11
 | _=>23
def kw:LP->Nat
 | .GQ | .HZ=>2
 | .EZ _ aw _=>if aw then 1 else 2
 | .CN _ aw _ _=>if aw then 1 else 2
 | .GN | .Fl _ | .EY _=>1
 | _=>0
def lc(m:M4):LP->Nat
 | .GQ=>27 | .HZ=>26 | .EZ _ _ it=>2*(5 - it)+1
 | .CN _ _ it old=>2*(5 - it)+if m=old then 0 else 2
 | .I4 _=>24 | .C9 _=>23 | .GN=>22 | .Fl _=>21
 | .FC old=>if m=old then 1 else 3
 | .H0=>2
 | _=>0
def wO:Option LP->Nat
 | some p=>H8 p
 | none=>9
def wt(n:Nat):Nx->Nat
 | .gone _=>0
 | .ph p=>match p with
  | .HX _=>10 | .IG=>9 | .Hk=>8 | .JJ=>7 | .H4=>6 | .Hz=>5 | .HV=>4 | .F9=>3
  | .Et=>3*n+25 | .GM m=>3*m+20 | .H2 m=>3*m+19 | .Jh=>14 | .IJ=>13 | .Gp=>12 | .HU=>11 | .GU=>10 | .I9=>9 | .G4=>8 | .Iq=>7
  | .G5 j=>5*n+90+50*(n - j) | .I8 j=>5*n+89+50*(n - j) | .Je j=>5*n+88+50*(n - j) | .Iz j=>5*n+87+50*(n - j) | .HH j=>5*n+86+50*(n - j) | .Gy j=>5*n+85+50*(n - j)
  | .HB=>5*n+60 | .Gw _ _=>2
  | .lk _ p=>H8 p
variable{K:Nx}
theorem eE{F:Fam}{p:Ph}{v w sm v' w' sm':Nat}{es:Array Event}(h:F.act p v w sm=some ((v',w',sm'),es,K)):wt F.n K<wt F.n (.ph p):=by
  cases p<;>simp only[Fam.act] at h<;>(try (cases h;done))
  case H4=>
    split at h;cases h;split<;>simp[wt];cases h
  case GM=>
    split at h;cases h;split<;>simp[wt]<;>omega;cases h
  case H2=>
    split at h;split at h<;>cases h<;>simp[wt]<;>omega;cases h
  case I8=>
    split at h;cases h;split<;>simp[wt];cases h
  all_goals first
    | (cases h;simp[wt];done)
    | (split at h
       .cases h;simp[wt]
       .cases h)
section
variable {F:Fam}{p:LP}{m m':M4}{q q':Nat}{es:Array Event}{o:Option LP}
theorem cM(K:(m',q',es,o)∈F.Ci p m q)(O:EB p m q):wO o<H8 p∨(wO o=H8 p/\(oC kw o+q'<kw p+q∨(oC kw o+q'=kw p+q/\m'=m/\oC (lc m) o<lc m p))):=by
 cases p<;>simp only[Fam.Ci,aX,d9,qG] at K
 case HZ=>
  split at K<;>simp only[aX,d9] at K<;>obtain⟨rfl,rfl,-,rfl⟩:=K;exact .inl (by simp[wO,H8]);exact .inr ⟨V,.inr ⟨V,V,by simp[oC,lc]⟩⟩
 case EZ sv aw it=>
  obtain⟨rfl,rfl,-,rfl⟩:=K;exact .inr ⟨V,.inr ⟨V,V,by simp[oC,lc]⟩⟩
 case CN sv aw it old=>
  simp only[Fam.Gn,ik] at K;simp only[EB] at O;obtain⟨k1,U,Y,Z,ac,-⟩:=O;rcases K with K | K;split at K;rename_i c;split at K;rename_i c2;simp only[aX] at K;obtain⟨rfl,c3,c4⟩:=c2;split at K<;>simp only[d9] at K<;>obtain⟨rfl,rfl,-,rfl⟩:=K;exact .inr ⟨V,.inl (by simp[oC,kw])⟩;rename_i e;refine .inr ⟨V,.inr ⟨V,V,?_⟩⟩;simp only[oC,lc,d7 e];omega;simp only[aX,d9] at K;obtain⟨rfl,rfl,-,rfl⟩:=K;refine .inr ⟨V,.inr ⟨V,V,?_⟩⟩;simp only[oC,lc,rH];omega;simp at K;split at K;rename_i e;split at K;simp only[aX,d9] at K;obtain⟨rfl,rfl,-,rfl⟩:=K;exact .inl (by simp[wO,H8]);simp only[fP,qG,rq,d9] at K;rcases K with⟨rfl,rfl,-,rfl⟩ | ⟨rfl,rfl,-,rfl⟩<;>exact .inr ⟨rfl,.inl (by cases aw<;>simp[oC,kw])⟩;rename_i e;simp only[aX,d9] at K;obtain⟨rfl,rfl,-,rfl⟩:=K;refine .inr ⟨V,.inr ⟨V,V,?_⟩⟩;simp only[oC,lc,d7 e];omega
 case C9 sv=>
  obtain⟨rfl,rfl,-,rfl⟩:=K;simp only[EB] at O;cases sv;refine .inr ⟨V,.inr ⟨?_,V,by simp[oC,lc]⟩⟩;simp only[oC,kw,qP,rr];omega;refine .inr ⟨V,.inr ⟨?_,V,by simp[oC,lc]⟩⟩;simp only[oC,kw,rH];omega
 case GN=>
  simp only[fP,qG,rq,d9] at K;rcases K with⟨rfl,rfl,-,rfl⟩ | ⟨rfl,rfl,-,rfl⟩<;>exact .inr ⟨rfl,.inr ⟨rfl,rfl,by simp[oC,lc]⟩⟩
 case Fl sv=>
  split at K<;>simp only[aX,d9] at K<;>obtain⟨rfl,rfl,-,rfl⟩:=K<;>exact .inr ⟨rfl,.inr ⟨rfl,rfl,by simp[oC,lc]⟩⟩
 case IA=>
  obtain⟨rfl,rfl,-,rfl⟩:=K;refine .inl ?_;split;simp[wO,H8];split<;>simp[wO,H8]
 case FC old=>
  split at K<;>simp only[aX,d9] at K<;>obtain⟨rfl,rfl,-,rfl⟩:=K;exact .inl (by simp[wO,H8]);rename_i e;refine .inr ⟨V,.inr ⟨V,V,?_⟩⟩;simp only[oC,lc,d7 e];omega
 case H0=>
  obtain⟨rfl,rfl,-,rfl⟩:=K;split;exact .inr ⟨V,.inr ⟨V,V,by simp[oC,lc]⟩⟩;exact .inl (by simp[wO,H8])
 case I4 sv=>obtain⟨rfl,rfl,-,rfl⟩:=K;exact .inr ⟨V,.inr ⟨V,V,by simp[oC,lc]⟩⟩
 case GQ=>obtain⟨rfl,rfl,-,rfl⟩:=K;exact .inr ⟨V,.inr ⟨V,V,by simp[oC,lc]⟩⟩
 all_goals
  obtain⟨rfl,rfl,-,rfl⟩:=K;exact .inl (by simp[wO,H8])
end
def Dn(N:Nat)(r' r:Nat->Rk):Prop:=∃i,i<N/\Rk.sub (r' i) (r i)/\∀j,j≠i->r' j=r j
theorem Dn.wf:∀N,WellFounded (Dn N)
 | 0=>⟨λ_=>⟨_,λ_ ⟨_,h,_⟩=>by omega⟩⟩
 | N+1=>⟨by
  have key:∀x:Rk,∀r:Nat->Rk,r N=x->Acc (Dn (N+1)) r:=by
   intro x
   induction x using Rk.wf.induction with
   | _ x Y=>
    intro r
    induction r using (Dn.wf N).induction with
    | _ r Z=>
     intro e
     refine⟨_,λr' ⟨i,hi,K,O⟩=>?_⟩
     by_cases U:i=N;subst U;exact Y (r' i) (by rw[← e];exact K) r' V;exact Z r' ⟨i,by omega,K,O⟩ (by rw[O N (q2 U),e])
  exact λr=>key _ r V⟩
def chain:Nat->Rk
 | 0=>.leaf
 | n+1=>.node λ_=>chain n
theorem Zy(n:Nat)(w:World):Rk.sub (chain n) (chain (n+1)):=⟨_,w,V,V⟩
structure Mu where
 a:Nat
 k:Nat
 l:Nat
 N:Nat
 r:Nat->Rk
 b:Nat
def Mu.lt(x y:Mu):Prop:=x.a<y.a∨(x.a=y.a/\(x.k<y.k∨(x.k=y.k/\(x.l<y.l∨(x.l=y.l/\x.N=y.N/\(Dn y.N x.r y.r∨(x.r=y.r/\x.b<y.b)))))))
theorem Mu.wf:WellFounded Mu.lt:=⟨by
 have key:∀(a k l N:Nat) (r:Nat->Rk) (b:Nat),Acc Mu.lt ⟨a,k,l,N,r,b⟩:=by
  intro a
  induction a using Nat.strongRecOn with
  | _ a ag=>
   intro k
   induction k using Nat.strongRecOn with
   | _ k ai=>
    intro l
    induction l using Nat.strongRecOn with
    | _ l aj=>
     intro N r
     induction r using (Dn.wf N).induction with
     | _ r al=>
      intro b
      induction b using Nat.strongRecOn with
      | _ b am=>
       refine⟨_,λ⟨ap,k',l',N',r',b'⟩ h=>?_⟩
       rcases h with h | ⟨K,h | ⟨O,h | ⟨U,Y,h | ⟨Z,ac⟩⟩⟩⟩;exact ag ap h k' l' N' r' b';simp only at K h;subst K;exact ai k' h l' N' r' b';simp only at K O h;subst K O;exact aj l' h N' r' b';simp only at K O U Y h;subst K O U Y;exact al r' h b';simp only at K O U Y Z ac;subst K O U Y Z;exact am b' ac
 exact λ⟨a,k,l,N,r,b⟩=>key a k l N r b⟩
def bit(b:Bool):Nat:=if b then 1 else 0
def mu(F:Fam)(N:Nat)(φ:Nat->Nx)(m:M4)(q:Nat)(r:Nat->Rk)(bt:Nat->Bool):Mu:=⟨sumTo N λi=>wt F.n (φ i),Sg kw N φ+q,Sg (lc m) N φ,N,r,sumTo N λi=>bit (bt i)⟩
section
variable {F:Fam}{N N' i k:Nat}{φ φ':Nat->Nx}{p:LP}{m m':M4}{q q':Nat}{es:Array Event}{o:Option LP}{r r':Nat->Rk}{b b':Nat->Bool}{x:Nx}{ρ:Rk}
theorem gZ(h:(sumTo N' λi=>wt F.n (φ' i))<sumTo N λi=>wt F.n (φ i)):Mu.lt (mu F N' φ' m' q' r' b') (mu F N φ m q r b):=.inl h
theorem Wl(hi:i<N)(h:wt F.n x<wt F.n (φ i)):Mu.lt (mu F N (upd φ i x) m' q' r' b') (mu F N φ m q r b):=by
 have:=sumTo_upd φ x (wt F.n) hi;exact .inl (by show(sumTo N λa=>wt F.n (upd φ i x a))<sumTo N λa=>wt F.n (φ a);omega)
theorem Xm(hi:i<N)(K:∀f,DY f x=DY f (φ i))(hw:wt F.n x=wt F.n (φ i))(h:Rk.sub ρ (r i)):Mu.lt (mu F N (upd φ i x) m q (upd r i ρ) b') (mu F N φ m q r b):=by
 have:=sumTo_upd φ x (wt F.n) hi;refine .inr ⟨by show(sumTo N λa=>wt F.n (upd φ i x a))=sumTo N λa=>wt F.n (φ a);omega,.inr ⟨by show Sg kw N (upd φ i x)+q=_;rw[O4 kw hi (K kw).symm];rfl,.inr ⟨O4 (lc m) hi (K _).symm,V,.inl ⟨i,hi,?_,λa O=>upd_ne _ _ O⟩⟩⟩⟩;show Rk.sub (upd r i ρ i) _;rw[upd_same];exact h
theorem jd(hi:i<N)(K:φ i=.ph (.lk k p))(Y:(m',q',es,o)∈F.Ci p m q)(Z:EB p m q):Mu.lt (mu F N (upd φ i (.ph (Fam.DX k o))) m' q' r' b') (mu F N φ m q r b):=by
 have hw:=sumTo_upd φ (.ph (Fam.DX k o)) (wt F.n) hi;have ac:wt F.n (φ i)=H8 p:=by rw[K];rfl
 have e2:wt F.n (.ph (Fam.DX k o))=wO o:=by cases o<;>rfl
 rw[ac,e2] at hw;let⟨a,O,U⟩:=Gv (k:=k) kw hi K;let⟨c,ag,ai⟩:=Gv (k:=k) (lc m) hi K;rcases cM Y Z with h | ⟨al,h | ⟨am,aj,ap⟩⟩;exact .inl (by show(sumTo N λa=>wt F.n (upd φ i _ a))<sumTo N λa=>wt F.n (φ a);omega);exact .inr ⟨by show(sumTo N λa=>wt F.n (upd φ i _ a))=sumTo N λa=>wt F.n (φ a);omega,.inl (by show Sg kw N (upd φ i _)+q'<Sg kw N φ+q;rw[O,U];omega)⟩;subst aj;exact .inr ⟨by show(sumTo N λa=>wt F.n (upd φ i _ a))=sumTo N λa=>wt F.n (φ a);omega,.inr ⟨by show Sg kw N (upd φ i _)+q'=Sg kw N φ+q;rw[O,U];omega,.inl (by show Sg (lc m') N (upd φ i _)<Sg (lc m') N φ;rw[ag,ai];omega)⟩⟩
end
open Go.ConcN (RelBy fork_knows)
variable{e:Event}
section
variable {F:Fam}{N0 t0 N j:Nat}{φ:Nat->Nx}{S:Nat->St}{t u:Trace}{v wt sm v' wt' sm':Nat}
theorem Ow{α:Type}(f:Nat->α)(i:Nat):upd f i (f i)=f:=by
 funext a;unfold upd;split;rename_i e;rw[e];rfl
def Gq(F:Fam)(K:Prop)(e:Event):Prop:=
 (∀a,(MemAct.ofEvent e).touch?=some a->(∃b,Ds a.loc=some b/\(b=F.wg∨b=F.mu))/\a.kind≠ .plain/\(a.kind=.said->K))/\e.loc≠ .mark (.release F.sA)
theorem Gq.toS{K:Prop}{i:Nat}(h:Gq F K e)(O:K->i=0):EvS F N0 j i e:=
 ⟨λa U=>let ⟨⟨b,Y,Z⟩,ac,ag⟩:=h.1 a U;⟨b,Y,.inl ⟨Z,ac,λq=>O (ag q)⟩⟩,h.2⟩
theorem Gq.keep{O:Prop}{i:Nat}(h:Gq F O e)(Y:O->i=0)(Z:F.fd≠F.wg)(ac:F.fd≠F.mu):(∀a b,(MemAct.ofEvent e).touch?=some a->Ds a.loc=some b->(b=F.wg∨b=F.mu)->a.kind≠ .plain/\(a.kind=.said->i=0))/\
   (∀a,(MemAct.ofEvent e).touch?=some a->Ds a.loc=some F.fd->∃k,k<j/\i=N0+k/\a.loc=.cell ⟨F.fd,k,none⟩/\a.kind=.plain)/\e.loc≠ .mark (.release F.sA):=
 ⟨λa b K _ _=>⟨(h.1 a K).2.1,λq=>Y ((h.1 a K).2.2 q)⟩,λa K hb=>by
  obtain⟨⟨b,U,ag⟩,-⟩:=h.1 a K
  rw[hb] at U
  obtain rfl:=ep U
  rcases ag with e | e;exact absurd e Z
  .exact absurd e ac,h.2⟩
theorem TV{m:Mark}(K:∀a,m≠ .read a)(O:∀a,m≠ .write a):(MemAct.ofEvent (Fam.Dg m)).touch?=none:=by
 cases m<;>first | rfl | exact absurd rfl (K _) | exact absurd rfl (O _)
theorem gI(p:Ph){es:Array Event}{am:Nx}(K:F.act p v wt sm=some ((v',wt',sm'),es,am)):
  (∀e∈es,Gq F (p=.IJ∨∃j,p=.Iz j) e)/\deafBehind (Gz (.ph p)) es=Gz am/\(∀e∈es,∀B,F.wg<B->(MemAct.ofEvent e).low B):=by
 have a1:∀b w,(MemAct.ofEvent ⟨.cell F.sA,w,b⟩).touch?=some ⟨.cell F.sA,w,if b then .atomic else .plain⟩:=by intro b w;cases b<;>cases w<;>rfl
 have ac:∀(a:Addr) w (T:Prop),a.block=F.wg->Gq F T ⟨.cell a,w,true⟩:=by
  intro a w T hb;refine⟨λx U=>?_,by simp⟩;have:x=⟨.cell a,w,.atomic⟩:=by cases w<;>(simp[MemAct.ofEvent,MemAct.touch?] at U;exact U.symm)
  subst this;exact⟨⟨F.wg,by simp[Ds,hb],.inl V⟩,by simp,by simp⟩
 have ag:∀(a:Addr) w B,a.block=F.wg->F.wg<B->(MemAct.ofEvent ⟨.cell a,w,true⟩).low B:=by
  intro a w B hb O;cases w<;>simp[MemAct.ofEvent,MemAct.low,Loc.low,hb,O]
 have HE:∀(m:Mark) (T:Prop),(∀a,m≠ .read a)->(∀a,m≠ .write a)->(∀a,m≠ .release a)->Gq F T (Fam.Dg m):=by
  intro m T aq aw a0;exact⟨λx U=>(by rw[TV aq aw] at U;cases U),λe=>a0 _ (Loc.mark.inj e)⟩
 have ai:F.mA.block=F.wg:=V;have Z:F.sA.block=F.wg:=V;have FU:∀(T:Prop),∀e∈semEvents F.mA,Gq F T e:=by
  intro T e he;simp only[semEvents,r6,fP,qG,rq] at he;rcases he with rfl | rfl | rfl | rfl;exact HE .disable T (by simp) (by simp) (by simp);exact ac _ _ _ ai;exact ac _ _ _ ai;exact HE .enable T (by simp) (by simp) (by simp)
 have ap:∀e∈semEvents F.mA,∀B,F.wg<B->(MemAct.ofEvent e).low B:=by
  intro e he B O;simp only[semEvents,r6,fP,qG,rq] at he;rcases he with rfl | rfl | rfl | rfl;trivial;exact ag _ _ _ ai O;exact ag _ _ _ ai O;trivial
 have aj:∀(T:Prop),∀e∈(#[Fam.CC F.sA,Fam.Fb F.sA]:Array Event),Gq F T e:=by
  intro T e he;simp only[r6,fP,qG,rq] at he;rcases he with rfl | rfl<;>exact ac _ _ _ Z
 have al:∀e∈(#[Fam.CC F.sA,Fam.Fb F.sA]:Array Event),∀B,F.wg<B->(MemAct.ofEvent e).low B:=by
  intro e he B O;simp only[r6,fP,qG,rq] at he;rcases he with rfl | rfl<;>exact ag _ _ _ Z O
 have one:∀{e:Event}{T:Prop},Gq F T e->∀x∈(#[e]:Array Event),Gq F T x:=by
  intro e T h x U;simp at U;subst U;exact h
 have Y:∀{e:Event},(∀B,F.wg<B->(MemAct.ofEvent e).low B)->∀x∈(#[e]:Array Event),∀B,F.wg<B->(MemAct.ofEvent x).low B:=by
  intro e h x U;simp at U;subst U;exact h
 cases p<;>simp only[Fam.act] at K<;>(try (cases K;done));cases K;exact⟨one (HE _ _ (by simp) (by simp) (by simp)),V,Y λB O=>O⟩;cases K;exact⟨one (HE _ _ (by simp) (by simp) (by simp)),V,Y λB O=>trivial⟩;split at K;cases K;exact⟨aj _,by split<;>rfl,al⟩;cases K;split at K;cases K;exact⟨one (ac _ _ _ Z),V,Y λB O=>ag _ _ _ Z O⟩;cases K;split at K;cases K;exact⟨one (ac _ _ _ Z),V,Y λB O=>ag _ _ _ Z O⟩;cases K;split at K;cases K;exact⟨FU _,V,ap⟩;cases K;cases K;exact⟨one (HE _ _ (by simp) (by simp) (by simp)),V,Y λB O=>trivial⟩;split at K;cases K;exact⟨one (ac _ _ _ Z),by split<;>rfl,Y λB O=>ag _ _ _ Z O⟩;cases K;split at K;split at K;cases K;exact⟨aj _,V,al⟩;cases K;exact⟨one (ac _ _ _ Z),V,Y λB O=>ag _ _ _ Z O⟩;cases K;cases K;refine⟨one ⟨λx U=>?_,by simp[Fam.Dg]⟩,V,Y λB O=>O⟩;simp[Fam.Dg,MemAct.ofEvent,MemAct.touch?] at U;subst U;exact⟨⟨F.wg,V,.inl V⟩,by simp,λ_=>.inl V⟩;split at K;cases K;exact⟨FU _,V,ap⟩;cases K;split at K;cases K;exact⟨one (ac _ _ _ Z),V,Y λB O=>ag _ _ _ Z O⟩;cases K;cases K;exact⟨one (HE _ _ (by simp) (by simp) (by simp)),V,Y λB O=>trivial⟩;cases K;exact⟨one (HE _ _ (by simp) (by simp) (by simp)),V,Y λB O=>trivial⟩;split at K;cases K;exact⟨aj _,by split<;>rfl,al⟩;cases K;cases K;refine⟨one ⟨λx U=>?_,by simp[Fam.Dg]⟩,V,Y λB O=>O⟩;simp[Fam.Dg,MemAct.ofEvent,MemAct.touch?] at U;subst U;exact⟨⟨F.wg,V,.inl V⟩,by simp,λ_=>.inr ⟨_,V⟩⟩;cases K;exact⟨one (HE _ _ (by simp) (by simp) (by simp)),V,Y λB O=>trivial⟩
 all_goals
  cases K;exact⟨by simp,V,by simp⟩
theorem az(p:Ph){es:Array Event}{U:Nx}(K:F.act p v wt sm=some ((v',wt',sm'),es,U)){k:Nat}(hw:Hw F k (.ph p))(O:late (.ph p)):
  ∀m e,es[m]?=some e->(MemAct.ofEvent e).touch?=none∨((∃ad wr,e=⟨.cell ad,wr,true⟩)/\0<deafBehind (Gz (.ph p)) (es.extract 0 m)):=by
 have two:∀m e,(#[Fam.CC F.sA,Fam.Fb F.sA]:Array Event)[m]?=some e->(∃ad wr,e=⟨.cell ad,wr,true⟩)/\0<deafBehind 1 ((#[Fam.CC F.sA,Fam.Fb F.sA]:Array Event).extract 0 m):=by
  intro m e h
  match m with
  | 0=>simp at h;subst h;exact⟨⟨_,_,rfl⟩,by simp[deafBehind]⟩
  | 1=>simp at h;subst h;exact⟨⟨_,_,rfl⟩,by simp[deafBehind,Fam.CC]⟩
  | m+2=>simp at h
 cases p<;>simp only[Hw] at hw<;>(try exact hw.elim)<;>simp only[late] at O<;>(try exact O.elim)<;>simp only[Fam.act] at K<;>(try (cases K;done))
 .cases K;intro m e h
  match m with
  | 0=>simp at h;subst h;exact .inl rfl
  | m+1=>simp at h
 .split at K;cases K;exact λm e h=>.inr (two m e h);cases K
 .split at K
  .cases K;intro m e h
   match m with
   | 0=>simp at h;subst h;exact .inr ⟨⟨_,_,rfl⟩,by simp[deafBehind,Gz]⟩
   | m+1=>simp at h
  .cases K
 .split at K
  .cases K;intro m e h
   match m with
   | 0=>simp at h;subst h;exact .inr ⟨⟨_,_,rfl⟩,by simp[deafBehind,Gz]⟩
   | m+1=>simp at h
  .cases K
 .split at K
  .cases K;intro m e h
   match m with
   | 0=>simp[semEvents] at h;subst h;exact .inl rfl
   | 1=>simp[semEvents] at h;subst h;exact .inr ⟨⟨_,_,rfl⟩,by simp[deafBehind,Gz,semEvents]⟩
   | 2=>simp[semEvents] at h;subst h;exact .inr ⟨⟨_,_,rfl⟩,by simp[deafBehind,Gz,semEvents]⟩
   | 3=>simp[semEvents] at h;subst h;exact .inl rfl
   | m+4=>simp[semEvents] at h
  .cases K
theorem dM{p:LP}{m m':M4}{q q':Nat}{es:Array Event}{o:Option LP}(K:(m',q',es,o)∈F.Ci p m q):
  (∀e∈es,Gq F False e)/\deafBehind (dl p) es=oC dl o/\(∀e∈es,∀B,F.mu<B->(MemAct.ofEvent e).low B):=by
 have ac:∀(a:Addr) w,a.block=F.mu->Gq F False ⟨.cell a,w,true⟩:=by
  intro a w hb;refine⟨λx Z=>?_,by simp⟩;have:x=⟨.cell a,w,.atomic⟩:=by cases w<;>(simp[MemAct.ofEvent,MemAct.touch?] at Z;exact Z.symm)
  subst this;exact⟨⟨F.mu,by simp[Ds,hb],.inr V⟩,by simp,by simp⟩
 have ag:∀(a:Addr) w B,a.block=F.mu->F.mu<B->(MemAct.ofEvent ⟨.cell a,w,true⟩).low B:=by
  intro a w B hb O;cases w<;>simp[MemAct.ofEvent,MemAct.low,Loc.low,hb,O]
 have HE:∀(m:Mark),(∀a,m≠ .read a)->(∀a,m≠ .write a)->(∀a,m≠ .release a)->Gq F False (Fam.Dg m):=by
  intro m ai aj al;exact⟨λx Z=>(by rw[TV ai aj] at Z;cases Z),λe=>al _ (Loc.mark.inj e)⟩
 have nil:∀d,(∀e∈(#[]:Array Event),Gq F False e)/\deafBehind d #[]=d/\(∀e∈(#[]:Array Event),∀B,F.mu<B->(MemAct.ofEvent e).low B):=λd=>⟨by simp,rfl,by simp⟩;have rd:∀d,(∀e∈(#[Fam.CC F.uA]:Array Event),Gq F False e)/\deafBehind d #[Fam.CC F.uA]=d/\(∀e∈(#[Fam.CC F.uA]:Array Event),∀B,F.mu<B->(MemAct.ofEvent e).low B):=λd=>
  ⟨λe he=>by simp at he;subst he;exact ac _ _ rfl,rfl,λe he B O=>by simp at he;subst he;exact ag _ _ _ rfl O⟩
 have U:∀d,(∀e∈(#[Fam.CC F.uA,Fam.Fb F.uA]:Array Event),Gq F False e)/\deafBehind d #[Fam.CC F.uA,Fam.Fb F.uA]=d/\(∀e∈(#[Fam.CC F.uA,Fam.Fb F.uA]:Array Event),∀B,F.mu<B->(MemAct.ofEvent e).low B):=λd=>
  ⟨λe he=>by
   simp only[r6,fP,qG,rq] at he
   rcases he with rfl | rfl<;>exact ac _ _ rfl,rfl,λe he B O=>by
   simp only[r6,fP,qG,rq] at he
   rcases he with rfl | rfl<;>exact ag _ _ _ rfl O⟩
 have FU:(∀e∈semEvents F.qA,Gq F False e)/\deafBehind 1 (semEvents F.qA)=1/\(∀e∈semEvents F.qA,∀B,F.mu<B->(MemAct.ofEvent e).low B):=by
  refine⟨λe he=>?_,V,λe he B O=>?_⟩;simp only[semEvents,r6,fP,qG,rq] at he;rcases he with rfl | rfl | rfl | rfl;exact HE .disable (by simp) (by simp) (by simp);exact ac _ _ V;exact ac _ _ V;exact HE .enable (by simp) (by simp) (by simp);simp only[semEvents,r6,fP,qG,rq] at he;rcases he with rfl | rfl | rfl | rfl;trivial;exact ag _ _ _ V O;exact ag _ _ _ V O;trivial
 have Y:∀(m:Mark) (d d':Nat),(∀a,m≠ .read a)->(∀a,m≠ .write a)->(∀a,m≠ .release a)->deafBehind d #[Fam.Dg m]=d'->(∀B,F.mu<B->(MemAct.ofEvent (Fam.Dg m)).low B)->
   (∀e∈(#[Fam.Dg m]:Array Event),Gq F False e)/\deafBehind d #[Fam.Dg m]=d'/\(∀e∈(#[Fam.Dg m]:Array Event),∀B,F.mu<B->(MemAct.ofEvent e).low B):=λm d d' ai aj al am ap=>
  ⟨λe he=>by simp at he;subst he;exact HE m ai aj al,am,λe he B O=>by simp at he;subst he;exact ap B O⟩
 cases p<;>simp only[Fam.Ci,aX,d9,qG] at K
 case GQ=>obtain⟨rfl,rfl,rfl,rfl⟩:=K;exact Y .disable 0 1 (by simp) (by simp) (by simp) V λB O=>trivial
 case HZ=>
  split at K<;>simp only[aX,d9] at K<;>obtain⟨rfl,rfl,rfl,rfl⟩:=K;exact U 1;exact rd 1
 case CN sv aw it old=>
  simp only[Fam.Gn,ik] at K;rcases K with K | K;split at K;split at K;simp only[aX] at K;split at K<;>simp only[d9] at K<;>obtain⟨rfl,rfl,rfl,rfl⟩:=K;exact U 1;exact rd 1;simp only[aX,d9] at K;obtain⟨rfl,rfl,rfl,rfl⟩:=K;exact nil 1;simp at K;split at K;split at K;simp only[aX,d9] at K;obtain⟨rfl,rfl,rfl,rfl⟩:=K;exact U 1;simp only[fP,qG,rq,d9] at K;rcases K with⟨rfl,rfl,rfl,rfl⟩ | ⟨rfl,rfl,rfl,rfl⟩<;>exact U 1;simp only[aX,d9] at K;obtain⟨rfl,rfl,rfl,rfl⟩:=K;exact rd 1
 case C9 sv=>obtain⟨rfl,rfl,rfl,rfl⟩:=K;cases sv<;>exact FU
 case GN=>
  simp only[fP,qG,rq,d9] at K;rcases K with⟨rfl,rfl,rfl,rfl⟩ | ⟨rfl,rfl,rfl,rfl⟩<;>exact nil 1
 case Fl sv=>split at K<;>simp only[aX,d9] at K<;>obtain⟨rfl,rfl,rfl,rfl⟩:=K<;>exact nil 1
 case IA=>
  obtain⟨rfl,rfl,rfl,rfl⟩:=K;split;exact U 1;split<;>exact U 1
 case FC old=>
  split at K<;>simp only[aX,d9] at K<;>obtain⟨rfl,rfl,rfl,rfl⟩:=K;exact U 1;exact rd 1
 case H0=>obtain⟨rfl,rfl,rfl,rfl⟩:=K;split<;>exact nil 1
 case FT b=>obtain⟨rfl,rfl,rfl,rfl⟩:=K;exact FU
 case len=>obtain⟨rfl,rfl,rfl,rfl⟩:=K;exact Y .enable 1 0 (by simp) (by simp) (by simp) V λB O=>trivial
 case FW=>obtain⟨rfl,rfl,rfl,rfl⟩:=K;exact Y .enable 1 0 (by simp) (by simp) (by simp) V λB O=>trivial
 case KT=>obtain⟨rfl,rfl,rfl,rfl⟩:=K;exact Y .disable 0 1 (by simp) (by simp) (by simp) V λB O=>trivial
 case KR=>obtain⟨rfl,rfl,rfl,rfl⟩:=K;exact Y (.acquire F.uA) 0 0 (by simp) (by simp) (by simp) V λB O=>O
 case KZ=>obtain⟨rfl,rfl,rfl,rfl⟩:=K;exact Y (.releaseMerge F.uA) 0 0 (by simp) (by simp) (by simp) V λB O=>O
 all_goals
  obtain⟨rfl,rfl,rfl,rfl⟩:=K
 all_goals first | exact nil 0 | exact nil 1 | exact U 1
end
def Da(c:Bool)(N:Nat)(φ:Nat->Nx):Nat->Nx:=λi=>if c=true/\i=N then φ 0 else if c=true/\i=0 then .ph (.Gw [] []) else φ i
theorem Kg{N:Nat}{φ:Nat->Nx}:Da false N φ=φ:=by funext i;simp[Da]
theorem Jx{c:Bool}{N:Nat}{φ:Nat->Nx}{i:Nat}(K:i≠0)(O:i≠N):Da c N φ i=φ i:=by simp[Da,K,O]
theorem KJ{N:Nat}{φ:Nat->Nx}:Da true N φ N=φ 0:=by simp[Da]
theorem OC{c:Bool}{N:Nat}{φ:Nat->Nx}{i:Nat}{x:Nx}(K:i≠0)(O:i≠N):upd (Da c N φ) i x=Da c N (upd φ i x):=by
 funext a;unfold Da;by_cases e:a=i;subst e;rw[upd_same,d7 (by simp[O]),d7 (by simp[K]),upd_same];rw[upd_ne _ _ e];rw[upd_ne φ x (q2 K),upd_ne _ _ e]
theorem aF{N:Nat}{φ:Nat->Nx}{x:Nx}(O:N≠0):upd (Da true N φ) N x=Da true N (upd φ 0 x):=by
 funext a;unfold Da;by_cases e:a=N;subst e;simp[upd_same];rw[upd_ne _ _ e];by_cases K:a=0;subst K;simp[e];rw[upd_ne φ x K];simp[e,K]
def Ir:Nx->Bool
 | .gone _=>true
 | .ph p=>Fam.Dr p
def loc(x:Nx)(s:St):St:=if Ir x=true then .quiet else s
def Hl:LP->Prop
 | .Hp | .K1 | .KZ | .KT | .IA | .FC _ | .H0 | .FT _ | .FW=>True
 | _=>False
def stored:Nx->Prop
 | .gone _=>True
 | .ph (.lk _ p)=>Hl p
 | .ph .IG | .ph .Hk | .ph .JJ | .ph .H4 | .ph .Hz | .ph .HV | .ph .F9=>True
 | _=>False
def R2(p:Ph):Prop:=p=.Gp∨∃k sv,p=.lk k (.C9 sv)
inductive Ho (P:Program) (F:Fam) (main:Bool):Nx->Rk->Bool->Gs_
 | walk {p:Ph}{r:Rk}{g:Goroutine}{s:St}:main=Fam.Dd p->(Fam.Dr p=true->s=.quiet)->Jr P main (JQ (Stop P F p)) r g s->Ho P F main (.ph p) r true g s
 | blk {p:Ph}{r:Rk}{g:Goroutine}{s:St}:R2 p->main=Fam.Dd p->Stop P F p g s->Ho P F main (.ph p) r false {g with status:=.blocked} s
 | gone {q d:Nat}{g:Goroutine}:main=false->QuitsD P q d g->Ho P F main (.gone d) (chain q) true g .quiet
variable{g g':Goroutine}{Q:GP}
section
variable {P:Program}{F:Fam}{main:Bool}
theorem Jr.running{p:Ph}{r:Rk}{s:St}(h:Jr P main (JQ (Stop P F p)) r g s):g.status=.running:=by
 cases r with
 | leaf=>obtain⟨s₀,_,K⟩:=h;exact K.law.run
 | node f=>
  rcases h with⟨s₀,_,K⟩ | ⟨O,_⟩;exact K.law.run;exact O
theorem Jr.at_{r:Rk}{s:St}(h:Q g s):Jr P main Q r g s:=by
 cases r with
 | leaf=>exact h
 | node f=>exact .inl h
theorem Ho.awake{x:Nx}{r:Rk}{b:Bool}{s:St}(h:Ho P F main x r b g s):Go.Conc.awake g:=by
 cases h with
 | walk _ _ hj=>exact awake_of (.inl hj.running)
 | blk _ _ _=>exact awake_of (.inr (.inl rfl))
 | gone _ K=>exact awake_of (K.status.elim .inl λx=>.inr (.inr x))
theorem XP(h:g.status=.running):{({g with status:=.blocked}:Goroutine) with status:=.running}=g:=by
 obtain⟨a,b,c,d,e⟩:=g;simp only at h;subst h;rfl
theorem S7{p:Ph}(h:R2 p):Fam.Dr p=false:=by
 rcases h with rfl | ⟨k,sv,rfl⟩<;>rfl
theorem Ho.woken{x:Nx}{r:Rk}{b:Bool}{o:Goroutine}{s:St}(h:Ho P F main x r b o s){w':World}:
  ∃b',Ho P F main x r b' (Go.Conc.woken P g g' w' o) s/\(b=true->b'=true)/\(mayWake P g=true->g'.status=.running->b'=true):=by
 have ai:∀(o:Goroutine),Go.Conc.woken P g g' w' o=o.again w'∨Go.Conc.woken P g g' w' o=o:=by
  intro o;unfold Go.Conc.woken;split;exact .inl V;exact .inr V
 cases h with
 | walk K aj hj=>exact⟨true,by rw[woken_run hj.running];exact .walk K aj hj,λ_=>rfl,λ_ _=>rfl⟩
 | @blk p _ go _ Y K O=>
  have Z:({go with status:=.blocked}:Goroutine).again w'=go:=by
   have:=O.law.offers;have al:({go with status:=.blocked}:Goroutine).again w'={({go with status:=.blocked}:Goroutine) with status:=.running}:=by simp[Goroutine.again,this]
   rw[al];exact XP O.law.run
  have ac:Ho P F main (.ph p) r true go s:=.walk K (λq=>by rw[S7 Y] at q;cases q) (Jr.at_ ⟨s,.refl _,O⟩);by_cases U:mayWake P g=true/\g'.status=.running
  .have e:Go.Conc.woken P g g' w' ({go with status:=.blocked}:Goroutine)=({go with status:=.blocked}:Goroutine).again w':=by
    unfold Go.Conc.woken;rw[d0 (by simp[U.1,U.2])]
   exact⟨true,by rw[e,Z];exact ac,λ_=>V,λ_ _=>V⟩
  .rcases ai ({go with status:=.blocked}:Goroutine) with e | e;exact⟨true,by rw[e,Z];exact ac,λ_=>V,λa b=>absurd ⟨a,b⟩ U⟩;exact⟨false,by rw[e];exact .blk Y K O,λe=>e,λa b=>absurd ⟨a,b⟩ U⟩
 | gone K ag=>exact⟨true,by rw[woken_quitsD ag];exact .gone K ag,λ_=>rfl,λ_ _=>rfl⟩
end
structure Base where
 N0:Nat
 t0:Nat
 E0:LH
 w0:World
structure Inv (P:Program) (F:Fam) (B:Base) (gs:Array Goroutine) (w:World) (t:Trace) (φ:Nat->Nx) (r:Nat->Rk) (bt:Nat->Bool) (S:Nat->St) (Sh:Nat->Prop) (j:Nat) (c:Bool) (v wt sm:Nat) (m:M4) (q:Nat) (f:Nat->Value):Prop where
 Df:De F B.N0 (gs.size+c.toNat) j c (Da c gs.size φ) v wt sm false
 lock:LI gs.size φ m q
 FE:FR F B.N0 B.t0 gs.size j φ S t
 LR:∀i g,gs[i]?=some g->Ho P F (i==0) (φ i) (r i) (bt i) g (loc (φ i) (S i))
 Cz:Cg t w gs.size S Sh
 II:Sh F.wg
 Ji:Sh F.mu
 JM:Sh F.fd
 NP:F.mu≠F.wg
 K2:F.fd≠F.wg
 KY:F.fd≠F.mu
 ID:F.n<134217728
 mn:φ 0≠ .ph .HB/\φ 0≠ .ph .Iq
 wg:F.WG w v wt sm
 Kk:F.MU w m q
 G9:F.FD w f
 blk:∀i,i<gs.size->bt i=false->(i=0/\φ 0=.ph .Gp/\sm=0)∨((∃k sv,φ i=.ph (.lk k (.C9 sv)))/\q=0)
 Jf:∀k,k<j->stored (φ (B.N0+k))->F.msg k (f k) (S (B.N0+k)).E
 le:Le B.E0 (S 0).E
 tape:w.tape=B.w0.tape
 os:G6 B.w0.os w.os
 output:w.output=B.w0.output
variable{s':St}
section
variable {P:Program}{F:Fam}{B:Base}{gs:Array Goroutine}{w w':World}{t:Trace}{φ:Nat->Nx}{r:Nat->Rk}{bt:Nat->Bool}{S:Nat->St}{Sh:Nat->Prop}{j:Nat}{c:Bool}{v wt' sm v₁ wt₁ sm₁:Nat}{m m₁:M4}{q q₁:Nat}{f f₁:Nat->Value}
theorem Inv.at_(h:Inv P F B gs w t φ r bt S Sh j c v wt' sm m q f)(d:Nat):Inv P F B gs (w.at d) t φ r bt S Sh j c v wt' sm m q f:=
 have K:Cg t (w.at d) gs.size S Sh:=by
  have:=h.Cz.mute (u:=#[]) (w':=w.at d) (g:=0) (by simp) (by simp) (by simp) rfl;simpa using this
 {h with Cz:=K}
theorem Inv.size(h:Inv P F B gs w t φ r bt S Sh j c v wt' sm m q f):gs.size=B.N0+j:=by have:=h.Df.size;omega
theorem Inv.Fq(h:Inv P F B gs w t φ r bt S Sh j c v wt' sm m q f){i:Nat}(hi:i<gs.size):i=0∨(i≠0/\∃d,φ i=.gone d/\i<B.N0)∨∃k,k<j/\i=B.N0+k/\i≠0/\Hw F k (φ i):=by
 have Y:=h.size;have Z:=h.Df.pos;rcases rD i with K | K;exact .inl K
 rcases f7 i B.N0 with O | O
 .have:=h.Df.old i K O;rw[Jx (by omega) (by omega)] at this;cases U:φ i with
  | gone d=>exact .inr (.inl ⟨by omega,d,rfl,O⟩)
  | ph p=>rw[U] at this;exact this.elim
 .have:=h.Df.work (i - B.N0) (by omega);rw[show B.N0+(i - B.N0)=i by omega,Jx (by omega) (by omega)] at this;exact .inr (.inr ⟨i - B.N0,by omega,by omega,by omega,this⟩)
theorem Inv.main(h:Inv P F B gs w t φ r bt S Sh j c v wt' sm m q f):∃p,φ 0=.ph p/\Fam.Dd p=true/\((c=false/\Ip F.n j c p)∨(c=true/\Kc (.ph p))):=by
 have Z:=h.size;cases K:c with
 | false=>
  have:=h.Df.main;rw[K,Kg] at this;obtain⟨p,Y,O⟩:=this;exact⟨p,Y,by cases p<;>simp[Ip] at O<;>rfl,.inl ⟨V,O⟩⟩
 | true=>
  have:=h.Df.cls K;have hj:=h.Df.cj K;rw[K,show B.N0+F.n=gs.size by omega,KJ] at this;cases U:φ 0 with
  | gone d=>
   have:=h.Df.mode;rw[d0 K,K,show B.N0+F.n=gs.size by omega,KJ,U] at this;simp[EA] at this
  | ph p=>rw[U] at this;exact⟨p,rfl,by cases p<;>simp[Kc] at this<;>rfl,.inr ⟨rfl,this⟩⟩
theorem KI(a b:LP->Nat)(N:Nat)(φ:Nat->Nx):Sg (λp=>a p+b p) N φ=Sg a N φ+Sg b N φ:=by
 unfold Sg
 induction N with
 | zero=>rfl
 | succ N K=>
  simp only[sumTo,K];have:DY (λp=>a p+b p) (φ N)=DY a (φ N)+DY b (φ N):=by
   cases φ N with
   | gone d=>rfl
   | ph p=>cases p<;>rfl
  omega
theorem QQ{a b:Nat->Nat}:∀{N M:Nat},N<=M->(∀i,i<N->a i<=b i)->sumTo N a<=sumTo M b
 | 0,_,_,_=>by simp[sumTo]
 | N+1,0,h,_=>by omega
 | N+1,M+1,h,K=>by
  rcases f7 N M with q | q
  .have O:sumTo (N+1) a<=sumTo M b:=QQ (by omega) K
   simp only[sumTo] at O ⊢;omega
  .obtain rfl:N=M:=by omega
   have O:sumTo N a<=sumTo N b:=QQ (qH _) λi hi=>K i (by omega);have U:=K N (by omega);simp only[sumTo];omega
theorem Inv.small(h:Inv P F B gs w t φ r bt S Sh j c v wt' sm m q f):DU m:=by
 have Y:=h.size;have hb:Sg (λp=>(pQ p+pV p)+pD p) gs.size φ<=sumTo (gs.size+c.toNat) λi=>cU (Da c gs.size φ i):=by
  refine QQ (by omega) λi hi=>?_;rcases rD i with rfl | Z;(obtain⟨p,O,hm,_⟩:=h.main;rw[O];cases p<;>first | (simp[DY];done) | (simp[Fam.Dd] at hm))
  .rw [Jx (by omega) (by omega)];cases φ i with
   | gone d=>simp[DY]
   | ph p=>
    cases p<;>simp only[DY]<;>(try omega)
    rename_i k l;cases l<;>simp[pQ,pV,pD,cU]
 rw[KI,KI] at hb;have ac:=h.Df.cnt;have ag:=h.Df.Sv;obtain⟨l1,l2,U⟩:=h.lock.ln;have ai:=h.ID;show m.w<134217728;cases K:m.s with
 | false=>have:=(l2 K).2.2.2.1;omega
 | true=>have:=(U K).2.2.2.2.1;omega
theorem Inv.go(h:Inv P F B gs w t φ r bt S Sh j c v wt' sm m q f){i:Nat}{es:Array Event}{x:Nx}{ρ:Rk}(hi:gs[i]?=some g)
  (am:De F B.N0 (gs.size+c.toNat) j c (Da c gs.size (upd φ i x)) v₁ wt₁ sm₁ false) (ap:LI gs.size (upd φ i x) m₁ q₁)
  (aq:FR F B.N0 B.t0 gs.size j (upd φ i x) (upd S i s') (t++MemOp.ofEvents i g.frame.fn g.frame.place es))
  (aw:Ho P F (i==0) x ρ true g' (loc x s'))
  (hC:Cg (t++MemOp.ofEvents i g.frame.fn g.frame.place es) w' gs.size (upd S i s') Sh)
  (a0:F.WG w' v₁ wt₁ sm₁) (a1:F.MU w' m₁ q₁) (a2:F.FD w' f₁)
  (a3:sm₁≠0->sm=0->mayWake P g=true/\g'.status=.running) (a4:q₁≠0->q=0->mayWake P g=true/\g'.status=.running)
  (a5:∀k,k<j->stored (upd φ i x (B.N0+k))->F.msg k (f₁ k) (upd S i s' (B.N0+k)).E)
  (a6:i=0->x≠ .ph .HB/\x≠ .ph .Iq) (a7:i=0->Le (S 0).E s'.E) (a8:w'.tape=w.tape) (a9:G6 w.os w'.os) (bb:w'.output=w.output):
  ∃O,Inv P F B ((gs.map (woken P g g' w')).setIfInBounds i g') w' (t++MemOp.ofEvents i g.frame.fn g.frame.place es) (upd φ i x) (upd r i ρ) O (upd S i s') Sh j c v₁ wt₁ sm₁ m₁ q₁ f₁:=by
 have be:i<gs.size:=(eF.1 hi).1;have U:((gs.map (woken P g g' w')).setIfInBounds i g').size=gs.size:=by simp
 have aj:∀a,∃b',(a=i->b'=true)/\(a≠i->∀o,gs[a]?=some o->Ho P F (a==0) (φ a) (r a) b' (woken P g g' w' o) (loc (φ a) (S a))/\(bt a=true->b'=true)/\(mayWake P g=true->g'.status=.running->b'=true)):=by
  intro a;by_cases e:a=i;exact⟨true,λ_=>V,λq=>absurd e q⟩
  .cases K:gs[a]? with
   | none=>exact⟨true,λ_=>rfl,λ_ o q=>by cases q⟩
   | some o=>
    let⟨b',bg,Y,Z⟩:=(h.LR a o K).woken (g:=g) (g':=g') (w':=w');exact⟨b',λq=>absurd q e,λ_ o' q=>by cases q;exact⟨bg,Y,Z⟩⟩
 let O:Nat->Bool:=λa=>Classical.choose (aj a);have hb:∀a,(a=i->O a=true)/\(a≠i->∀o,gs[a]?=some o->Ho P F (a==0) (φ a) (r a) (O a) (woken P g g' w' o) (loc (φ a) (S a))/\(bt a=true->O a=true)/\(mayWake P g=true->g'.status=.running->O a=true)):=λa=>rY (aj a);refine⟨O,by rw[U];exact am,by rw[U];exact ap,by rw[U];exact aq,λa o K=>?_,by rw[U];exact hC,h.II,h.Ji,h.JM,h.NP,h.K2,h.KY,h.ID,(by
  by_cases e:i=0;subst e;rw[upd_same];exact a6 V
  .rw [upd_ne _ _ (q2 e)];exact h.mn),a0,a1,a2,λa ag ai=>?_,a5,λb o K=>?_,a8.trans h.tape,h.os.trans a9,bb.trans h.output⟩
 .by_cases e:a=i;subst e;rw[qJ (by simpa using be)] at K;obtain rfl:=ep K;rw[upd_same,upd_same,upd_same,(hb a).1 rfl];exact aw;rw[f6 (q2 e),sn] at K;obtain⟨o',bi,rfl⟩:=rg.1 K;rw[upd_ne _ _ e,upd_ne _ _ e,upd_ne _ _ e];exact((hb a).2 e o' bi).1
 .rw [U] at ag;have e:a≠i:=λe=>by have:=(hb a).1 e;rw[ai] at this;cases this
  let⟨_,k1,bo⟩:=(hb a).2 e _ (q5 ag);have al:¬(mayWake P g=true/\g'.status=.running):=λ⟨x,y⟩=>by have:=bo x y;rw[ai] at this;cases this
  have bv:bt a=false:=by
   cases ac:bt a with
   | false=>rfl
   | true=>have:=k1 ac;rw[ai] at this;cases this
  rcases h.blk a ag bv with⟨rfl,Y,Z⟩ | ⟨⟨k,sv,Y⟩,Z⟩;refine .inl ⟨V,by rw[upd_ne _ _ e];exact Y,?_⟩;exact uf.1 λac=>al (a3 ac Z);refine .inr ⟨⟨k,sv,by rw[upd_ne _ _ e];exact Y⟩,?_⟩;exact uf.1 λac=>al (a4 ac Z)
 .by_cases e:i=0;subst e;rw[upd_same];exact a7 V b o (h.le b o K);rw[upd_ne _ _ (q2 e)];exact h.le b o K
end
def SA(P:Program)(F:Fam)(B:Base)(gs:Array Goroutine)(w:World)(t:Trace):Prop:=
 ∃q Sh g s,H6 P gs w t q Sh g s/\F.fin g s/\Le B.E0 s.E/\w.tape=B.w0.tape/\G6 B.w0.os w.os/\w.output=B.w0.output
def I5(P:Program)(F:Fam)(B:Base)(gs:Array Goroutine)(w:World)(sl:Option (Nat×Nat))(t:Trace)(i:Nat)(K:Mu):Prop:=
 ∃gs' w' O u,runT P (crowd gs w sl) i=(.next (crowd gs' w' O),u)/\
  ((∃φ r bt S Sh j c v wt' sm m q f,Inv P F B gs' w' (t++u) φ r bt S Sh j c v wt' sm m q f/\Mu.lt (mu F gs'.size φ m q r bt) K)∨SA P F B gs' w' (t++u))
theorem LI.same{N:Nat}{φ:Nat->Nx}{m:M4}{q i:Nat}{y:Nx}(h:LI N φ m q)(hi:i<N)(O:∀f,DY f (φ i)=DY f y∨(f≠pH/\f≠pN/\f≠pZ/\f≠pV/\f≠pT/\f≠pQ/\f≠pD/\f≠pX))(U:Ql y m):LI N (upd φ i y) m q:=by
 have e:∀f,(f=pH∨f=pN∨f=pZ∨f=pV∨f=pT∨f=pQ∨f=pD∨f=pX)->Sg f N (upd φ i y)=Sg f N φ:=λf Y=>O4 f hi (by
  rcases O f with q | ⟨a,b,c,d,e,f,g,h⟩;exact q
  .rcases Y with q | q | q | q | q | q | q | q<;>contradiction)
 refine⟨by rw[e pH (by simp),e pN (by simp),e pZ (by simp),e pV (by simp),e pT (by simp),e pQ (by simp),e pD (by simp),e pX (by simp)];exact h.ln,λa Z=>?_⟩;by_cases K:a=i;subst K;rw[upd_same];exact U;rw[upd_ne _ _ K];exact h.loc a Z
section
variable {P:Program}{F:Fam}{B:Base}{gs:Array Goroutine}{w w':World}{sl:Option (Nat×Nat)}{t:Trace}{φ:Nat->Nx}{r:Nat->Rk}{bt:Nat->Bool}{S:Nat->St}{Sh:Nat->Prop}{j:Nat}{c:Bool}{v wt' sm v₁ wt₁ sm₁:Nat}{m m₁:M4}{q q₁:Nat}{f f₁:Nat->Value}
theorem Inv.go'(h:Inv P F B gs w t φ r bt S Sh j c v wt' sm m q f){i:Nat}{es:Array Event}{x:Nx}{ρ:Rk}(hi:gs[i]?=some g)(O:stepG P (i==0) g w=.go g' w' es)
  (U:De F B.N0 (gs.size+c.toNat) j c (Da c gs.size (upd φ i x)) v₁ wt₁ sm₁ false) (Y:LI gs.size (upd φ i x) m₁ q₁)
  (Z:FR F B.N0 B.t0 gs.size j (upd φ i x) (upd S i s') (t++MemOp.ofEvents i g.frame.fn g.frame.place es))
  (ac:Ho P F (i==0) x ρ true g' (loc x s'))
  (hC:Cg (t++MemOp.ofEvents i g.frame.fn g.frame.place es) w' gs.size (upd S i s') Sh)
  (ag:F.WG w' v₁ wt₁ sm₁) (ai:F.MU w' m₁ q₁) (aj:F.FD w' f₁)
  (al:sm₁≠0->sm=0->mayWake P g=true/\g'.status=.running) (am:q₁≠0->q=0->mayWake P g=true/\g'.status=.running)
  (ap:∀k,k<j->stored (upd φ i x (B.N0+k))->F.msg k (f₁ k) (upd S i s' (B.N0+k)).E)
  (aq:i=0->x≠ .ph .HB/\x≠ .ph .Iq) (aw:i=0->Le (S 0).E s'.E) (a0:w'.tape=w.tape) (a1:G6 w.os w'.os) (a2:w'.output=w.output)
  (hm:∀K,Mu.lt (mu F gs.size (upd φ i x) m₁ q₁ (upd r i ρ) K) (mu F gs.size φ m q r bt)):I5 P F B gs w sl t i (mu F gs.size φ m q r bt):=by
 let⟨K,a3⟩:=h.go hi U Y Z ac hC ag ai aj al am ap aq aw a0 a1 a2;refine⟨_,_,_,_,runT_crowd_go hi O,.inl ⟨_,_,_,_,_,_,_,_,_,_,_,_,_,a3,?_⟩⟩;have a4:((gs.map (woken P g g' w')).setIfInBounds i g').size=gs.size:=by simp
 rw[a4];exact hm K
theorem Tu{k:Nat}{p:Ph}(hw:Hw F k (.ph p))(K:late (.ph p)):Fam.Dr p=true:=by
 cases p<;>simp only[Hw] at hw<;>(try exact hw.elim)<;>first | rfl | exact K.elim
theorem Od(a:Nat)(fn:FuncId)(pos:String):MemOp.ofEvents a fn pos #[]=#[]:=by rw[ofEvents_eq];simp
theorem Inv.own(h:Inv P F B gs w t φ r bt S Sh j c v wt' sm m q f)(bb:∀k v E E',Le E E'->F.msg k v E->F.msg k v E'){i:Nat}{es:Array Event}{p:Ph}{ρ:Rk}(hi:gs[i]?=some g)(K:φ i=.ph p)(a1:(i==0)=Fam.Dd p)
  (a2:stepG P (i==0) g w=.go g' w' es) (hj:Jr P (i==0) (JQ (Stop P F p)) ρ g' s') (be:Fits s' w') (O:Fr (loc (.ph p) (S i)) w s' w') (Y:∀e∈es,Ev (loc (.ph p) (S i)) w w' e) (bg:loc (.ph p) (S i)=.quiet->s'=.quiet/\w'=w/\es=#[]) (bi:Rk.sub ρ (r i)):
  I5 P F B gs w sl t i (mu F gs.size φ m q r bt):=by
 have U:i<gs.size:=(eF.1 hi).1;have Z:upd φ i (.ph p)=φ:=by rw[← K];exact Ow _ _
 have a3:∀a4,Mu.lt (mu F gs.size (upd φ i (.ph p)) m q (upd r i ρ) a4) (mu F gs.size φ m q r bt):=λa4=>Xm U (λ_=>by rw[K]) (by rw[K]) bi;cases ac:Fam.Dr p with
 | true=>
  have ag:loc (.ph p) (S i)=.quiet:=by simp[loc,Ir,ac]
  obtain⟨rfl,rfl,rfl⟩:=bg ag;have ap:upd S i (S i)=S:=Ow _ _;refine h.go' hi a2 (x:=.ph p) (ρ:=ρ) (s':=S i) (by rw[Z];exact h.Df) (by rw[Z];exact h.lock) ?_ (by rw[ag];exact .walk a1 (λ_=>rfl) hj) ?_ h.wg h.Kk h.G9 (λa b=>absurd b a) (λa b=>absurd b a) (by rw[Z,ap];exact h.Jf) (λe=>by subst e;rw[← K];exact h.mn) (λe=>by subst e;exact .refl _) V (.refl _) V a3;rw[Z,ap,Od];simpa using h.FE;rw[ap,Od];simpa using h.Cz
 | false=>
  have ag:loc (.ph p) (S i)=S i:=by simp[loc,Ir,ac]
  rw[ag] at O Y;have bo:loc (.ph p) s'=s':=by simp[loc,Ir,ac]
  have aq:∀b₀,Sh b₀->∀b wr,Hv (S i) w w' b wr->b≠b₀:=by
   intro b₀ aj b wr bv;have a5:=h.Cz.sh i U b₀ aj;have b4:=h.Cz.G3 b₀ aj;rintro rfl;rcases bv.2 with q | q | ⟨q,_⟩;exact q a5.1;omega;exact q a5.2
  have aw:∀b₀,Sh b₀->w'.heap[b₀]?=w.heap[b₀]? :=λb₀ aj=>O.keep b₀ (h.Cz.G3 b₀ aj) (h.Cz.sh i U b₀ aj).1;have a6:∀k,k<j->i=B.N0+k->¬late (φ i):=by
   intro k ai e a7;rcases h.Fq U with b5 | ⟨_,d,hd,_⟩ | ⟨k',_,_,_,hw⟩;have:=h.Df.pos;omega;rw[K] at hd;cases hd;rw[K] at hw a7;rw[Tu hw a7] at ac;cases ac
  have bw:∀e∈es,e.loc≠ .mark .disable/\e.loc≠ .mark .enable:=by
   intro e he;have:=Y e he;refine⟨λam=>?_,λam=>?_⟩<;>unfold Ev at this<;>rw[am] at this<;>exact this
  refine h.go' (f₁:=f) hi a2 (x:=.ph p) (ρ:=ρ) (s':=s') (by rw[Z];exact h.Df) (by rw[Z];exact h.lock) ?_ (by rw[bo];exact .walk a1 (λe=>by rw[ac] at e;cases e) hj) (h.Cz.own U be O Y) ?_ ?_ ?_ (λa b=>absurd b a) (λa b=>absurd b a) ?_ (λe=>by subst e;rw[← K];exact h.mn) (λe=>by subst e;exact λb o a0=>O.ext b o a0) O.tape (.of O.os) O.output a3
  .refine h.FE.app U (by rw[K];exact deafBehind_still bw _) (λe he=>⟨λa b al hb bx=>absurd bx ?_,λa al hb=>absurd V (aq F.fd h.JM F.fd a.write (L9 (Y e he) al hb)),?_⟩) ?_ (λk ai b0 e he a b al hb hw=>?_) (λk ai e ag=>absurd (K▸ag) (a6 k ai e));have:=L9 (Y e he) al hb;rintro(q | q);exact aq F.wg h.II b _ this q;exact aq F.mu h.Ji b _ this q;intro am;have:=Y e he;unfold Ev at this;rw[am] at this;exact this;rcases h.Fq U with e | ⟨_,d,hd,_⟩ | ⟨k,_,e,_,_⟩;exact .inl (.inl e);rw[K] at hd;cases hd;exact .inl (.inr (by omega))
   .have b1:=L9 (Y e he) al hb;have b2:B.N0+k≠i:=λe=>a6 k ai e.symm (e▸b0);have a8:B.N0+k<gs.size:=by have:=h.size;omega
    rcases b1.2 with y | y | ⟨_,y⟩;exact(h.Cz.hh i (B.N0+k) U a8 (q2 b2) b y).2
    .cases b3:(S (B.N0+k)).E b with
     | none=>rfl
     | some o=>have:=(h.Cz.fits _ a8).e b o b3;simp[qQ y] at this
    .rw [y] at hw;cases hw
  show w'.heap[F.wg]?=_;rw[aw _ h.II];exact h.wg;show w'.heap[F.mu]?=_;rw[aw _ h.Ji];exact h.Kk;show w'.heap[F.fd]?=_;rw[aw _ h.JM];exact h.G9;intro k ai a9;rw[Z] at a9;have:=h.Jf k ai a9;by_cases e:B.N0+k=i;rw[e,upd_same];rw[e] at this;exact bb _ _ _ _ (λb o a0=>O.ext b o a0) this;rw[upd_ne _ _ e];exact this
theorem Inv.slip(h:Inv P F B gs w t φ r bt S Sh j c v wt' sm m q f){i:Nat}(hi:gs[i]?=some g)(Z:g.status=.running){d U:Nat}(O:φ i=.gone d)(a0:r i=chain U)(ag:(i==0)=false)(al:QuitsD P U d g):
  I5 P F B gs w sl t i (mu F gs.size φ m q r bt):=by
 have ai:i<gs.size:=(eF.1 hi).1;have ac:i≠0:=by simpa using ag
 cases U with
 | zero=>rw[al.1] at Z;cases Z
 | succ U=>
  rcases al with⟨a1,_⟩ | ⟨_,g',es,hm,a2,a3⟩;rw[a1] at Z;cases Z
  have a4:∀op∈MemOp.ofEvents i g.frame.fn g.frame.place es,op.act.touch?=none:=λop Y=>by obtain⟨e,he,rfl⟩:=mem_ofEvents Y;exact touch_mute (hm e he)
  have a5:∀e∈es,e.loc≠ .mark (.release F.sA):=by
   intro e he am;have:=hm e he;obtain⟨loc,wr,a8⟩:=e;simp only at am;subst am;simp[Event.mute] at this
  have ap:upd S i (S i)=S:=Ow _ _;have aq:=h.Df.leave (i:=i) (d:=d) (d':=deafBehind d es) (by omega) (by rw[Jx ac (by omega)];exact O);rw[OC ac (by omega)] at aq;refine h.go' hi (by rw[ag];exact a2 w) (x:=.gone (deafBehind d es)) (ρ:=chain U) (s':=S i) aq (h.lock.other ai (λk p e=>by rw[O] at e;cases e) (λk p e=>by cases e)) ?_ (.gone ag a3) ?_ h.wg h.Kk h.G9 (λa b=>absurd b a) (λa b=>absurd b a) ?_ (λe=>absurd e ac) (λe=>absurd e ac) V (.refl _) V λa9=>Xm ai (λ_=>by rw[O];rfl) (by rw[O];rfl) (by rw[a0];exact Zy U w);refine h.FE.app ai (by rw[O];rfl) (λe he=>⟨λa b K=>(by rw[touch_mute (hm e he)] at K;cases K),λa K=>(by rw[touch_mute (hm e he)] at K;cases K),a5 e he⟩) (.inr λe he=>touch_mute (hm e he)) (λk aj a6 e he a b K=>(by rw[touch_mute (hm e he)] at K;cases K)) (λk aj e a6=>.inl ⟨by rw[O];trivial,V,λρ a7=>?_⟩);exact a7.appOwn _ _ es λm e he=>.inl (touch_mute (hm e (Array.mem_of_getElem? he)));rw[ap];exact h.Cz.mute (g:=i) (λop Y=>by obtain⟨e,_,rfl⟩:=mem_ofEvents Y;rfl) a4 (λop Y=>by obtain⟨e,he,rfl⟩:=mem_ofEvents Y;exact low_mute (hm e he) _) V;rw[ap];intro k aj aw;refine h.Jf k aj ?_;by_cases e:B.N0+k=i;rw[e,O];trivial;rw[upd_ne _ _ e] at aw;exact aw
theorem fu{p:Ph}{es:Array Event}(O:F.act p v wt' sm=some ((v₁,wt₁,sm₁),es,K)):
  (∀q,K=.ph q->Fam.Dd q=Fam.Dd p/\(Fam.Dr q=true->p=.Hk∨Fam.Dr p=true)/\(Fam.Dr q=false->Fam.Dr p=false/\p≠ .Hk)/\∀k l,q≠ .lk k l)/\(sm₁≠0->sm=0->p=.F9)/\(∀d,K=.gone d->Fam.Dd p=false/\Fam.Dr p=true)/\
  (∀k l,p≠ .lk k l)/\(Fam.Dd p=false->stored K)/\(Fam.Dd p=false->late K->late (.ph p)∨p=.Hk)/\(Fam.Dd p=false->stored (.ph p))/\K≠ .ph .HB/\K≠ .ph .Iq:=by
 cases p<;>simp only[Fam.act] at O<;>(try (cases O;done))
 all_goals (try (split at O))<;>(try (cases O;done))<;>(try (split at O))
 all_goals cases O
 all_goals first
  | (simp[Fam.Dd,Fam.Dr,stored,late];done)
  | (split<;>simp[Fam.Dd,Fam.Dr,stored,late];done)
  | (simp[Fam.Dd,Fam.Dr,stored,late];omega)
theorem De.enabled{N0 N:Nat}{cl:Bool}(h:De F N0 N j c φ v wt' sm cl){i:Nat}(hi:i<N){p:Ph}(K:φ i=.ph p)(a0:∀k,p≠ .HX k)(a1:∀k,p≠ .Gy k)(a2:p≠ .HB)(a3:∀a4 vs,p≠ .Gw a4 vs)(a5:p≠ .Iq)(a6:p=.Gp->sm=1)(a7:p≠ .G4)(a8:∀k l,p≠ .lk k l):
  ∃v' w' sm' es a9,F.act p v wt' sm=some ((v',w',sm'),es,a9):=by
 have hm:=h.mode;have bi:=h.Sv;have bo:=h.ID;have O:=h.cnt;have ac:cU (φ i)<=sumTo N λa=>cU (φ a):=le_sumTo (f:=λa=>cU (φ a)) hi;have ag:cL (φ i)<=sumTo N λa=>cL (φ a):=le_sumTo (f:=λa=>cL (φ a)) hi;have am:cS (φ i)<=sumTo N λa=>cS (φ a):=le_sumTo (f:=λa=>cS (φ a)) hi;rw[K] at ac ag am;have bb:wt'<=1:=by
  generalize (if c=true then φ (N0+F.n) else Nx.ph .Et)=y at hm
  cases y with
  | gone d=>simp only[EA] at hm;omega
  | ph q=>cases q<;>simp only[EA] at hm<;>(try exact hm.elim)<;>omega
 have ai:1<=(sumTo N λa=>cL (φ a))+(sumTo N λa=>cS (φ a))->v=0/\sm=0/\wt'=sumTo N λa=>cL (φ a):=by
  intro hh;generalize (if c=true then φ (N0+F.n) else Nx.ph .Et)=y at hm
  cases y with
  | gone d=>simp only[EA] at hm;omega
  | ph q=>cases q<;>simp only[EA] at hm<;>(try exact hm.elim)<;>omega
 have aj:∀x,φ i=.ph x->Kc (.ph x)->c=true/\(if c=true then φ (N0+F.n) else Nx.ph .Et)=.ph x:=by
  intro x Y ap;rcases h.Fq hi with rfl | ⟨a,b⟩ | ⟨k,al,rfl⟩ | ⟨O,rfl⟩;obtain⟨q,U,Z⟩:=h.main;rw[Y] at U;cases U;cases x<;>simp[Ip] at Z<;>exact ap.elim;have:=h.old i a b;rw[Y] at this;exact this.elim;have:=h.work k al;rw[Y] at this;cases x<;>simp[Hw] at this<;>exact ap.elim;exact⟨O,by rw[d0 O];exact Y⟩
 cases p<;>simp only[Fam.act];exact absurd V (a0 _);exact⟨_,_,_,_,_,V⟩;exact⟨_,_,_,_,_,V⟩
 .simp only [cU] at ac;have:1<=v:=by
   have bv:1<=sumTo N λa=>cU (φ a):=ac;omega
  rw[d0 ⟨this,by omega,bb⟩];exact⟨_,_,_,_,_,V⟩
 have be:1<=sumTo N λa=>cL (φ a):=ag;have:=ai (by omega);rw[d0 ⟨this.1,by omega⟩];exact⟨_,_,_,_,_,V⟩;have be:1<=sumTo N λa=>cL (φ a):=ag;have:=ai (by omega);rw[d0 ⟨this.1,by omega⟩];exact⟨_,_,_,_,_,V⟩;have bw:1<=sumTo N λa=>cS (φ a):=am;have:=ai (by omega);rw[d0 this.2.1];exact⟨_,_,_,_,_,V⟩;exact⟨_,_,_,_,_,V⟩;let⟨aq,e⟩:=aj _ K trivial;rw[e] at hm;rw[d0 ⟨hm.2.2.2.2.2,hm.2.2.2.1⟩];exact⟨_,_,_,_,_,V⟩;let⟨aq,e⟩:=aj _ K trivial;rw[e] at hm;rw[d0 ⟨hm.2.2.2.2.2.1,hm.2.2.2.2.2.2,hm.2.2.2.1⟩];split<;>exact⟨_,_,_,_,_,rfl⟩;exact⟨_,_,_,_,_,V⟩;rw[d0 (a6 rfl)];exact⟨_,_,_,_,_,V⟩;let⟨aq,e⟩:=aj _ K trivial;rw[e] at hm;rw[d0 ⟨hm.2.2.2.2.1,hm.2.2.2.1⟩];exact⟨_,_,_,_,_,V⟩;exact⟨_,_,_,_,_,V⟩;exact absurd V a7;exact absurd V a5;exact⟨_,_,_,_,_,V⟩
 .have bg:c=false/\v<=j/\j<F.n:=by
   rcases h.Fq hi with rfl | ⟨a,b⟩ | ⟨k,al,rfl⟩ | ⟨O,rfl⟩;obtain⟨q,U,Z⟩:=h.main;rw[K] at U;cases U;have aw:=h.KW;rw[K] at aw;exact⟨Z.2.2,by simpa [pend] using aw,Z.2.1⟩;have:=h.old i a b;rw[K] at this;exact this.elim;have:=h.work k al;rw[K] at this;exact this.elim;have:=h.cls O;rw[K] at this;exact this.elim
  rw[bg.1] at hm;simp only[qP,rr,EA] at hm;rw[d0 ⟨by omega,hm.2.2.2.1⟩];exact⟨_,_,_,_,_,V⟩
 exact⟨_,_,_,_,_,V⟩;exact⟨_,_,_,_,_,V⟩;exact absurd V (a1 _);exact absurd V a2;exact absurd V (a3 _ _)
 all_goals first | exact⟨_,_,_,_,_,rfl⟩ | exact absurd rfl (a8 _ _)
end
variable{s₀:St}{l:LP}
section
variable {P:Program}{F:Fam}{B:Base}{gs:Array Goroutine}{w w':World}{sl:Option (Nat×Nat)}{t:Trace}{φ:Nat->Nx}{r:Nat->Rk}{bt:Nat->Bool}{S:Nat->St}{Sh:Nat->Prop}{j:Nat}{c:Bool}{v wt' sm v₁ wt₁ sm₁:Nat}{m m₁:M4}{q q₁:Nat}{f f₁:Nat->Value}
theorem ZS(w:World)(v wt sm:Nat):(F.put w v wt sm).heap.size=w.heap.size:=by simp[Fam.put]
theorem RU(w:World)(v wt sm:Nat){b:Nat}(h:b≠F.wg):(F.put w v wt sm).heap[b]?=w.heap[b]? :=by simp[Fam.put,f6 (q2 h)]
theorem gz(w:World)(v wt sm:Nat)(h:F.wg<w.heap.size):F.WG (F.put w v wt sm) v wt sm:=by simp[Fam.WG,Fam.put,h]
theorem YF(w:World)(m:M4)(q:Nat):(F.Gx w m q).heap.size=w.heap.size:=by simp[Fam.Gx]
theorem Ro(w:World)(m:M4)(q:Nat){b:Nat}(h:b≠F.mu):(F.Gx w m q).heap[b]?=w.heap[b]? :=by simp[Fam.Gx,f6 (q2 h)]
theorem cn(w:World)(m:M4)(q:Nat)(h:F.mu<w.heap.size):F.MU (F.Gx w m q) m q:=by simp[Fam.MU,Fam.Gx,h]
theorem Zz(w:World)(f:Nat->Value):(F.H3 w f).heap.size=w.heap.size:=by simp[Fam.H3]
theorem Rm(w:World)(f:Nat->Value){b:Nat}(h:b≠F.fd):(F.H3 w f).heap[b]?=w.heap[b]? :=by simp[Fam.H3,f6 (q2 h)]
theorem cv(w:World)(f:Nat->Value)(h:F.fd<w.heap.size):F.FD (F.H3 w f) f:=by simp[Fam.FD,Fam.H3,h]
theorem fR{p:Ph}{s:St}(h:p≠ .Hk):Fam.Kl p s=s:=by cases p<;>first | rfl | exact absurd rfl h
theorem Cg.heap{t:Trace}{w w':World}{N:Nat}{S:Nat->St}{Sh:Nat->Prop}(h:Cg t w N S Sh)(hw:w'.heap=w.heap):Cg t w' N S Sh:=by
 have:=h.mute (u:=#[]) (w':=w') (g:=0) (by simp) (by simp) (by simp) hw;simpa using this
theorem Inv.act(h:Inv P F B gs w t φ r bt S Sh j c v wt' sm m q f)(b3:∀k v E E',Le E E'->F.msg k v E->F.msg k v E'){i:Nat}(hi:gs[i]?=some g){p:Ph}(K:φ i=.ph p)(ac:(i==0)=Fam.Dd p)(b4:CK (loc (.ph p) (S i)) s₀)(am:Stop P F p g s₀)
  {es:Array Event}{Z:Nx}(O:F.act p v wt' sm=some ((v₁,wt₁,sm₁),es,Z)):I5 P F B gs w sl t i (mu F gs.size φ m q r bt):=by
 have U:i<gs.size:=(eF.1 hi).1;let⟨g',b5,b6,a5⟩:=am.law.act _ _ _ _ _ _ _ _ O;let⟨n1,n2,ca,cc,n5,ce,ci,ck⟩:=fu O;let⟨aj,e2,co⟩:=gI p O;have a6:=h.Cz.G3 F.wg h.II;have ec:=h.size;have ed:=h.Df.pos;have a7:i≠0->Fam.Dd p=false:=λe=>by rw[← ac];simp[e]
 have a8:(p=.IJ∨∃j,p=.Iz j)->i=0:=by
  intro Y;have:Fam.Dd p=true:=by rcases Y with rfl | ⟨j,rfl⟩<;>rfl
  rw[this] at ac;simpa using ac
 have a9:i=0∨B.N0<=i:=by
  rcases h.Fq U with e | ⟨_,d,hd,_⟩ | ⟨k,_,e,_,_⟩;exact .inl e;rw[K] at hd;cases hd;exact .inr (by omega)
 let s':St:=if Fam.Dr p=true then S i else s₀
 have ap:Fam.Dr p=true->s'=S i:=λe=>by simp[s',e]
 have ag:Fam.Dr p=false->s'=s₀:=λe=>by simp[s',e]
 have bb:Fam.Dr p=false->CK (S i) s₀:=λe=>by simpa [loc,Ir,e] using b4
 have hle:Le (S i).E s'.E:=by
  cases e:Fam.Dr p with
  | true=>rw[ap e];exact .refl _
  | false=>rw[ag e];exact λb o aq=>(bb e).ext b o aq
 have be:Cg t w gs.size (upd S i s') Sh:=by
  cases e:Fam.Dr p with
  | true=>rw[ap e,Ow];exact h.Cz
  | false=>rw[ag e];exact h.Cz.ghost U (bb e)
 have cp:Cg (t++MemOp.ofEvents i g.frame.fn g.frame.place es) (F.put w v₁ wt₁ sm₁) gs.size (upd S i s') Sh:=by
  refine be.ext (h.FE.noRace h.Cz.clean U a9 λe he=>(aj e he).toS a8) (λop aw a a0 b hb=>?_) (λop aw=>?_) (ZS ..) (λb hb=>RU _ _ _ _ λe=>hb (e▸h.II));obtain⟨e,he,rfl⟩:=mem_ofEvents aw;let⟨⟨b',ai,a2⟩,_⟩:=(aj e he).1 a a0;rw[hb] at ai;cases ai;rcases a2 with rfl | rfl;exact h.II;exact h.Ji;obtain⟨e,he,rfl⟩:=mem_ofEvents aw;exact co e he _ a6
 have ct:stepG P (i==0) g w=.go g' (F.put w v₁ wt₁ sm₁) es:=by rw[ac];exact b5 w h.wg
 have cw:De F B.N0 (gs.size+c.toNat) j c (Da c gs.size (upd φ i Z)) v₁ wt₁ sm₁ false:=by
  by_cases e:i=0
  .subst e;cases c with
   | false=>
    have:=h.Df.act (i:=0) (by omega) (by rw[Kg];exact K) O;rw[Kg] at this;rw[Kg];exact this
   | true=>
    have:=h.Df.act (i:=gs.size) (by simp) (by rw[KJ];exact K) O
    rwa[aF (by omega)] at this
  .have:=h.Df.act (i:=i) (by omega) (by rw[Jx e (by omega)];exact K) O
   rwa[OC e (by omega)] at this
 have cy:FR F B.N0 B.t0 gs.size j (upd φ i Z) (upd S i s') (t++MemOp.ofEvents i g.frame.fn g.frame.place es):=by
  refine h.FE.app U (by rw[K];exact e2) (λe he=>(aj e he).keep a8 h.K2 h.KY) (.inl a9) (λk al bg e he a b a0 hb hw=>?_) (λk al e bg=>?_)
  .let⟨⟨b',ai,a2⟩,_⟩:=(aj e he).1 a a0;rw[hb] at ai;cases ai;have bi:B.N0+k<gs.size:=by omega
   rcases a2 with rfl | rfl;exact(h.Cz.sh _ bi _ h.II).2;exact(h.Cz.sh _ bi _ h.Ji).2
  .have bo:i≠0:=by omega
   have bv:Hw F k (.ph p):=by
    rcases h.Fq U with c0 | ⟨_,d,hd,_⟩ | ⟨k',_,ee,_,hw⟩;exact absurd c0 bo;rw[K] at hd;cases hd
    .obtain rfl:k'=k:=by omega
     rwa[K] at hw
   rcases ce (a7 bo) bg with a3 | rfl;refine .inl ⟨by rw[K];exact a3,by rw[ap (Tu bv a3)],λρ a4=>?_⟩;refine a4.appOwn _ _ es λm e he=>?_;rw[h.FE.deaf _ U,K];exact az p O bv a3 m e he
   .refine .inr ⟨t.size,h.FE.NF,?_,?_⟩;simp only[Fam.act] at O;cases O;exact .new (by rw[h.FE.deaf _ U,K];rfl) _ _
    .simp only [Fam.act] at O;cases O;rw[ag rfl];intro b hb x a bw c1 hw;have c2:MemOp.ofEvents i g.frame.fn g.frame.place #[Fam.Dg (.releaseMerge F.sA)]=#[{g:=i,fn:=g.frame.fn,pos:=g.frame.place,act:=.mark (.releaseMerge F.sA)}]:=by rw[ofEvents_eq];simp[Fam.Dg,MemAct.ofEvent]
     rw[c2] at bw ⊢;let⟨op,aq,bx⟩:=touch_of bw;rcases getElem?_append_cases aq with⟨_,c3⟩ | ⟨_,b0⟩
     .have c4:=be.kE i U b (by rw[upd_same,ag rfl];exact hb) x a (by rw[touchAt_of c3];exact bx) c1 hw;have c5:(t++ #[({g:=i,fn:=g.frame.fn,pos:=g.frame.place,act:=.mark (.releaseMerge F.sA)}:MemOp)])[t.size]?=some {g:=i,fn:=g.frame.fn,pos:=g.frame.place,act:=.mark (.releaseMerge F.sA)}:=by simp
      exact .inr (c4.hb_new (qH _) c5 V)
     .simp at b0;subst b0;cases bx
 have c6:∀k,k<j->stored (upd φ i Z (B.N0+k))->F.msg k (f k) (upd S i s' (B.N0+k)).E:=by
  intro k al b1;by_cases e:B.N0+k=i;rw[e,upd_same];have:=h.Jf k al (by rw[e,K];exact ci (a7 (by omega)));rw[e] at this;exact b3 _ _ _ _ hle this;rw[upd_ne _ _ e] at b1 ⊢;exact h.Jf k al b1
 have c7:LI gs.size (upd φ i Z) m q:=h.lock.other U (λk l e=>cc k l (by rw[K] at e;exact Nx.ph.inj e)) (λk l e=>by subst e;exact(n1 _ rfl).2.2.2 k l rfl);have c8:∀q,Z=.ph q->loc (.ph q) s'=Fam.Kl p s₀:=by
  intro q e;let⟨_,b2,c9,_⟩:=n1 q e;cases Y:Fam.Dr q with
  | true=>
   have:loc (.ph q) s'=.quiet:=by simp[loc,Ir,Y]
   rw[this];rcases b2 Y with rfl | e;rfl;rw[am.law.quiet e];cases p<;>rfl
  | false=>
   let⟨a1,dd⟩:=c9 Y;rw[fR dd,ag a1];simp[loc,Ir,Y]
 have fin:∀(ρ:Rk),Ho P F (i==0) Z ρ true g' (loc Z s')->I5 P F B gs w sl t i (mu F gs.size φ m q r bt):=λρ dj=>
  h.go' (f₁:=f) hi ct cw c7 cy dj cp (gz _ _ _ _ a6) (by show(F.put w v₁ wt₁ sm₁).heap[F.mu]?=_;rw[RU _ _ _ _ h.NP];exact h.Kk) (by show(F.put w v₁ wt₁ sm₁).heap[F.fd]?=_;rw[RU _ _ _ _ h.K2];exact h.G9)
   (λa b=>⟨am.law.JE (.inl (n2 a b)),b6⟩) (λa b=>absurd b a) c6 (λ_=>ck) (λe=>by subst e;exact hle) rfl (.refl _) rfl λef=>Wl U (by rw[K];exact eE O)
 cases Z with
 | ph q=>
  obtain⟨ρ,a4⟩:=a5;refine fin ρ ?_;let⟨ea,b2,_,_⟩:=n1 q V;refine .walk (by rw[ac,ea]) (λY=>by simp[loc,Ir,Y]) ?_;rw[c8 q rfl,ac];exact a4
 | gone d=>
  obtain⟨eb,Y⟩:=a5;exact fin (chain eb) (.gone (by rw[ac];exact(ca d rfl).1) Y)
theorem fM{m m':M4}{q q':Nat}{es:Array Event}{o:Option LP}(K:(m',q',es,o)∈F.Ci l m q):q'<=q∨∃b,l=.FT b:=by
 cases l<;>simp only[Fam.Ci,aX,d9,qG] at K
 case FT b=>exact .inr ⟨b,rfl⟩
 case HZ=>split at K<;>simp only[aX,d9] at K<;>exact .inl (by omega)
 case CN sv aw it old=>
  simp only[Fam.Gn,ik] at K;left;rcases K with K | K;split at K;split at K;simp only[aX] at K;split at K<;>simp only[d9] at K<;>omega;simp only[aX,d9] at K;omega;simp at K;split at K;split at K;simp only[aX,d9] at K;omega;simp only[fP,qG,rq,d9] at K;rcases K with K | K<;>omega;simp only[aX,d9] at K;omega
 case GN=>
  simp only[fP,qG,rq,d9] at K;left;rcases K with K | K<;>omega
 case Fl sv=>split at K<;>simp only[aX,d9] at K<;>exact .inl (by omega)
 case FC old=>split at K<;>simp only[aX,d9] at K<;>exact .inl (by omega)
 all_goals exact .inl (by omega)
theorem ZL{m m':M4}{q q':Nat}{es:Array Event}{o:Option LP}(K:(m',q',es,o)∈F.Ci l m q):(∀p,o=some p->Hl p->Hl l)/\(o=none->Hl l):=by
 cases l<;>simp only[Fam.Ci,aX,d9,qG] at K
 case HZ=>split at K<;>simp only[aX,d9] at K<;>obtain⟨-,-,-,rfl⟩:=K<;>simp[Hl]
 case CN sv aw it old=>
  simp only[Fam.Gn,ik] at K;rcases K with K | K;split at K;split at K;simp only[aX] at K;split at K<;>simp only[d9] at K<;>obtain⟨-,-,-,rfl⟩:=K<;>simp[Hl];simp only[aX,d9] at K;obtain⟨-,-,-,rfl⟩:=K;simp[Hl];simp at K;split at K;split at K;simp only[aX,d9] at K;obtain⟨-,-,-,rfl⟩:=K;simp[Hl];simp only[fP,qG,rq,d9] at K;rcases K with⟨-,-,-,rfl⟩ | ⟨-,-,-,rfl⟩<;>simp[Hl];simp only[aX,d9] at K;obtain⟨-,-,-,rfl⟩:=K;simp[Hl]
 case GN=>
  simp only[fP,qG,rq,d9] at K;rcases K with⟨-,-,-,rfl⟩ | ⟨-,-,-,rfl⟩<;>simp[Hl]
 case C9 sv=>obtain⟨-,-,-,rfl⟩:=K;cases sv<;>simp[Hl]
 case Fl sv=>split at K<;>simp only[aX,d9] at K<;>obtain⟨-,-,-,rfl⟩:=K<;>simp[Hl]
 all_goals first
  | (obtain⟨-,-,-,rfl⟩:=K;simp[Hl];done)
  | (exact⟨λ_ _ _=>trivial,λ_=>trivial⟩)
theorem Inv.Ci(h:Inv P F B gs w t φ r bt S Sh j c v wt' sm m q f)(bg:∀k v E E',Le E E'->F.msg k v E->F.msg k v E'){i:Nat}(hi:gs[i]?=some g){k:Nat}(K:φ i=.ph (.lk k l))(bi:l≠ .Gr)(ag:(i==0)=false)(a2:CK (S i) s₀)(a3:Stop P F (.lk k l) g s₀)
  (bo:∀sv,l=.C9 sv->q≠0):I5 P F B gs w sl t i (mu F gs.size φ m q r bt):=by
 have O:i<gs.size:=(eF.1 hi).1;have aq:=h.lock.ok O K h.small bo;let⟨m',q',es,o,g',ai,U,bv,Y,bw,bx⟩:=a3.law.lk k l V bi w m q h.Kk aq;let⟨aj,e2,b0⟩:=dM U;have a4:=h.Cz.G3 F.mu h.Ji;have c1:=h.size;have c2:=h.Df.pos;have Z:i≠0:=by simpa using ag
 obtain⟨k',b1,a5,_,a6⟩:∃k',k'<j/\i=B.N0+k'/\i≠0/\Hw F k' (φ i):=by
  rcases h.Fq O with e | ⟨_,d,hd,_⟩ | e;exact absurd e Z;rw[K] at hd;cases hd;exact e
 rw[K] at a6;obtain rfl:k=k':=a6;have b2:Cg t w gs.size (upd S i s₀) Sh:=h.Cz.ghost O a2;have b3:Cg (t++MemOp.ofEvents i g.frame.fn g.frame.place es) ai gs.size (upd S i s₀) Sh:=by
  have:Cg (t++MemOp.ofEvents i g.frame.fn g.frame.place es) (F.Gx w m' q') gs.size (upd S i s₀) Sh:=by
   refine b2.ext (h.FE.noRace h.Cz.clean O (.inr (by omega)) λe he=>(aj e he).toS (λx=>x.elim)) (λop aw a a0 b hb=>?_) (λop aw=>?_) (YF ..) (λb hb=>Ro _ _ _ λe=>hb (e▸h.Ji));obtain⟨e,he,rfl⟩:=mem_ofEvents aw;let⟨⟨b',ac,a1⟩,_⟩:=(aj e he).1 a a0;rw[hb] at ac;cases ac;rcases a1 with rfl | rfl;exact h.II;exact h.Ji;obtain⟨e,he,rfl⟩:=mem_ofEvents aw;exact b0 e he _ a4
  exact this.heap Y.1
 have b4:cU (.ph (Fam.DX k o))=1/\cL (.ph (Fam.DX k o))=0/\cS (.ph (Fam.DX k o))=0/\Hw F k (.ph (Fam.DX k o))/\(∀a,Nx.ph (Fam.DX k o)≠ .ph (.HX a))/\Fam.Dd (Fam.DX k o)=false/\Fam.Dr (Fam.DX k o)=false/\¬late (.ph (Fam.DX k o)):=by
  cases o with
  | none=>exact⟨rfl,rfl,rfl,trivial,by simp[Fam.DX],rfl,rfl,λx=>x⟩
  | some p=>exact⟨rfl,rfl,rfl,rfl,by simp[Fam.DX],rfl,rfl,λx=>x⟩
 obtain⟨x1,x2,b5,b6,ca,cc,a7,ce⟩:=b4;have ci:De F B.N0 (gs.size+c.toNat) j c (Da c gs.size (upd φ i (.ph (Fam.DX k o)))) v wt' sm false:=by
  have al:Da c gs.size φ (B.N0+k)=.ph (.lk k l):=by rw[← a5,Jx Z (by omega)];exact K
  have:=h.Df.Jd (v':=v) (wt':=wt') (sm':=sm) (cl':=false) b1 (x:=.ph (Fam.DX k o)) b6 (λa=>by rw[al];simp) ca (by rw[al,x1];rfl) λL S' a8 a9=>by
   rw[al,x2] at a8;rw[al,b5] at a9;have ck:L=_:=a8;have co:S'=_:=a9;rw[ck,co];exact h.Df.mode
  rwa[← a5,OC Z (by omega)] at this
 have cp:FR F B.N0 B.t0 gs.size j (upd φ i (.ph (Fam.DX k o))) (upd S i s₀) (t++MemOp.ofEvents i g.frame.fn g.frame.place es):=by
  refine h.FE.app O (by rw[K];rw[show Gz (.ph (.lk k l))=dl l from rfl,e2];cases o<;>rfl) (λe he=>(aj e he).keep (λx=>x.elim) h.K2 h.KY) (.inl (.inr (by omega))) (λk' am bb e he a b a0 hb hw=>?_) (λk' am e bb=>absurd bb ce);let⟨⟨b',ac,a1⟩,_⟩:=(aj e he).1 a a0;rw[hb] at ac;cases ac;have be:B.N0+k'<gs.size:=by omega
  rcases a1 with rfl | rfl;exact(h.Cz.sh _ be _ h.II).2;exact(h.Cz.sh _ be _ h.Ji).2
 obtain⟨ρ,ct⟩:=bx;have cw:loc (.ph (Fam.DX k o)) s₀=s₀:=by simp[loc,Ir,a7]
 refine h.go' (f₁:=f) hi (by rw[ag];exact bv) ci (h.lock.step O K h.small aq U) cp (ρ:=ρ) (by rw[cw];exact .walk (by rw[ag,cc]) (λe=>by rw[a7] at e;cases e) (by rw[ag];exact ct)) b3 ?_ ?_ ?_ (λa b=>absurd b a) (λa b=>?_) (λk' am ap=>?_) (λe=>absurd e Z) (λe=>absurd e Z) (Y.2.1) Y.2.2.1 Y.2.2.2 λc3=>jd O K U aq;show ai.heap[F.wg]?=_;rw[Y.1,Ro _ _ _ (q2 h.NP)];exact h.wg;show ai.heap[F.mu]?=_;rw[Y.1];exact cn _ _ _ a4;show ai.heap[F.fd]?=_;rw[Y.1,Ro _ _ _ h.KY];exact h.G9;rcases fM U with e | ⟨cy,rfl⟩;omega;exact⟨a3.law.JE (.inr ⟨k,cy,V⟩),bw⟩
 .by_cases e:B.N0+k'=i
  .rw [e,upd_same] at ap ⊢;obtain rfl:k'=k:=by omega
   have c0:Hl l:=by
    let⟨a,b⟩:=ZL U;cases o with
    | none=>exact b rfl
    | some p=>exact a p rfl ap
   have:=h.Jf k' am (by rw[e,K];exact c0);rw[e] at this;exact bg _ _ _ _ (λb o U=>a2.ext b o U) this
  .rw [upd_ne _ _ e] at ap ⊢;exact h.Jf k' am ap
end
section
variable {P:Program}{F:Fam}{B:Base}{gs gs':Array Goroutine}{w w':World}{sl:Option (Nat×Nat)}{t:Trace}{φ:Nat->Nx}{r:Nat->Rk}{bt:Nat->Bool}{S:Nat->St}{Sh:Nat->Prop}{j:Nat}{c:Bool}{v wt' sm v₁ wt₁ sm₁:Nat}{m m₁:M4}{q q₁:Nat}{f f₁:Nat->Value}
theorem Inv.store(h:Inv P F B gs w t φ r bt S Sh j c v wt' sm m q f){i:Nat}(hi:gs[i]?=some g){k:Nat}(O:φ i=.ph (.lk k .Gr))(ag:(i==0)=false)(a5:CK (S i) s₀)(a6:Stop P F (.lk k .Gr) g s₀):
  I5 P F B gs w sl t i (mu F gs.size φ m q r bt):=by
 have U:i<gs.size:=(eF.1 hi).1;let⟨v0,a7,g',b3,a8,a9⟩:=a6.law.store k V;have aq:=h.Cz.G3 F.fd h.JM;have b4:=h.size;have b5:=h.Df.pos;have Y:i≠0:=by simpa using ag
 obtain⟨k',ai,Z,_,aw⟩:∃k',k'<j/\i=B.N0+k'/\i≠0/\Hw F k' (φ i):=by
  rcases h.Fq U with e | ⟨_,d,hd,_⟩ | e;exact absurd e Y;rw[O] at hd;cases hd;exact e
 rw[O] at aw;obtain rfl:k=k':=aw;have ac:∀e∈(#[⟨.cell ⟨F.fd,k,none⟩,true,false⟩]:Array Event),∀a,(MemAct.ofEvent e).touch?=some a->a=⟨.cell ⟨F.fd,k,none⟩,true,.plain⟩:=by
  intro e he a K;simp at he;subst he;simp[MemAct.ofEvent,MemAct.touch?] at K;exact K.symm
 have a0:∀e∈(#[⟨.cell ⟨F.fd,k,none⟩,true,false⟩]:Array Event),e.loc≠ .mark (.release F.sA):=by
  intro e he;simp at he;subst he;simp
 have bb:∀e∈(#[⟨.cell ⟨F.fd,k,none⟩,true,false⟩]:Array Event),EvS F B.N0 j i e:=λe he=>
  ⟨λa K=>by have:=ac e he a K;subst this;exact⟨F.fd,rfl,.inr ⟨rfl,k,ai,Z,rfl,rfl⟩⟩,a0 e he⟩
 have be:Cg t w gs.size (upd S i s₀) Sh:=h.Cz.ghost U a5;have bg:Cg (t++MemOp.ofEvents i g.frame.fn g.frame.place #[⟨.cell ⟨F.fd,k,none⟩,true,false⟩]) (F.H3 w (upd f k v0)) gs.size (upd S i s₀) Sh:=by
  refine be.ext (h.FE.noRace h.Cz.clean U (.inr (by omega)) bb) (λop aj a bi b hb=>?_) (λop aj=>?_) (Zz ..) (λb hb=>Rm _ _ λe=>hb (e▸h.JM))
  .obtain⟨e,he,rfl⟩:=mem_ofEvents aj;have:=ac e he a bi;subst this;have:b=F.fd:=by simpa [Ds] using hb.symm
   subst this;exact h.JM
  .obtain⟨e,he,rfl⟩:=mem_ofEvents aj;simp at he;subst he;simp[MemAct.ofEvent,MemAct.low,Loc.low,aq]
 have bo:De F B.N0 (gs.size+c.toNat) j c (Da c gs.size (upd φ i (.ph (.lk k .Hp)))) v wt' sm false:=by
  have al:Da c gs.size φ (B.N0+k)=.ph (.lk k .Gr):=by rw[← Z,Jx Y (by omega)];exact O
  have:=h.Df.Jd (v':=v) (wt':=wt') (sm':=sm) (cl':=false) ai (x:=.ph (.lk k .Hp)) rfl (λa=>by rw[al];simp) (by simp) (by rw[al];rfl) λL S' a1 a2=>by
   rw[al] at a1 a2;have bv:L=_:=a1;have bw:S'=_:=a2;rw[bv,bw];exact h.Df.mode
  rwa[← Z,OC Y (by omega)] at this
 have bx:FR F B.N0 B.t0 gs.size j (upd φ i (.ph (.lk k .Hp))) (upd S i s₀) (t++MemOp.ofEvents i g.frame.fn g.frame.place #[⟨.cell ⟨F.fd,k,none⟩,true,false⟩]):=by
  refine h.FE.app U (by rw[O];rfl) (λe he=>⟨λa b K hb b0=>?_,λa K hb=>?_,a0 e he⟩) (.inl (.inr (by omega))) (λk' am a3 e he a b K hb hw=>?_) (λk' am e a3=>a3.elim)
  .have:=ac e he a K;subst this;have ap:b=F.fd:=by simpa [Ds] using hb.symm
   subst ap;rcases b0 with e | e;exact absurd e h.K2;exact absurd e h.KY
  .have:=ac e he a K;subst this;exact⟨k,ai,Z,V,V⟩
  .have:=ac e he a K;subst this;have ap:b=F.fd:=by simpa [Ds] using hb.symm
   subst ap;exact(h.Cz.sh (B.N0+k') (by omega) _ h.JM).2
 obtain⟨ρ,b1⟩:=a9;have b2:LI gs.size (upd φ i (.ph (.lk k .Hp))) m q:=by
  refine h.lock.same U (λf=>?_) trivial;rw[O];by_cases e:f .Gr=f .Hp;exact .inl e;right;refine⟨?_,?_,?_,?_,?_,?_,?_,?_⟩<;>rintro rfl<;>exact e rfl
 refine h.go' (f₁:=upd f k v0) hi (by rw[ag];exact a8 w f h.G9) bo b2 bx (ρ:=ρ) (.walk (by rw[ag];rfl) (λe=>by cases e) (by rw[ag];exact b1)) bg ?_ ?_ (cv _ _ aq) (λa b=>absurd b a) (λa b=>absurd b a) (λk' am a4=>?_) (λe=>absurd e Y) (λe=>absurd e Y) V (.refl _) V λb6=>Wl U (by rw[O];simp[wt,H8]);show(F.H3 w (upd f k v0)).heap[F.wg]?=_;rw[Rm _ _ (q2 h.K2)];exact h.wg;show(F.H3 w (upd f k v0)).heap[F.mu]?=_;rw[Rm _ _ (q2 h.KY)];exact h.Kk;by_cases e:k'=k;subst e;rw[← Z,upd_same,upd_same];exact a7;rw[upd_ne _ _ e];rw[upd_ne _ _ (by omega)] at a4 ⊢;exact h.Jf k' am a4
theorem XQ{o:Goroutine}(h:g'.status=.blocked):woken P g g' w o=o:=by
 unfold woken;rw[d7 (by simp[h])]
theorem FR.gp{N0 t0 N:Nat}(h:FR F N0 t0 N j φ S t){i:Nat}(U:∀k,k<j->late (φ (N0+k))->N0+k≠i):FR F N0 t0 N j φ (upd S i s') t:=
 ⟨h.deaf,h.above,h.plain,h.said,h.G9,h.over,h.norel,h.NF,λk K O=>by rw[upd_ne _ _ (U k K O)];exact h.rel k K O⟩
theorem Inv.block(h:Inv P F B gs w t φ r bt S Sh j c v wt' sm m q f){i:Nat}(hi:gs[i]?=some g){p:Ph}(K:φ i=.ph p)(a1:bt i=true)(ac:(i==0)=Fam.Dd p)(al:CK (S i) s₀)(ag:Stop P F p g s₀)
  (ai:(p=.Gp/\sm=0)∨((∃k sv,p=.lk k (.C9 sv))/\q=0)):I5 P F B gs w sl t i (mu F gs.size φ m q r bt):=by
 have Y:i<gs.size:=(eF.1 hi).1;have a6:=h.size;have a2:stepG P (i==0) g w=.go {g with status:=.blocked} w #[]:=by
  rw[ac];rcases ai with⟨rfl,rfl⟩ | ⟨⟨k,sv,rfl⟩,rfl⟩;exact ag.law.FU V w v wt' h.wg;exact ag.law.C9 k sv V w m h.Kk
 have Z:R2 p:=by
  rcases ai with⟨rfl,_⟩ | ⟨⟨k,sv,rfl⟩,_⟩;exact .inl V;exact .inr ⟨k,sv,V⟩
 have a3:=S7 Z;have am:=runT_crowd_go (P:=P) (sl:=sl) (i:=i) hi a2;have a4:(gs.map (woken P g {g with status:=.blocked} w)).setIfInBounds i {g with status:=.blocked}=gs.setIfInBounds i {g with status:=.blocked}:=by
  have:(woken P g {g with status:=.blocked} w)=id:=by funext o;exact XQ V
  rw[this,Array.map_id]
 rw[a4,Od] at am;have O:(gs.setIfInBounds i {g with status:=.blocked}).size=gs.size:=by simp
 have ap:t++(#[]:Trace)=t:=by simp
 have a5:∀k,k<j->late (φ (B.N0+k))->B.N0+k≠i:=by
  intro k aq aw e;rw[e,K] at aw;rcases Z with rfl | ⟨k',sv,rfl⟩;rcases h.Fq Y with ap | ⟨_,d,hd,_⟩ | ⟨k',_,_,_,hw⟩;have:=h.Df.pos;omega;rw[K] at hd;cases hd;rw[K] at hw;exact hw;exact aw
 refine⟨_,_,_,_,am,.inl ⟨φ,r,upd bt i false,upd S i s₀,Sh,j,c,v,wt',sm,m,q,f,?_,?_⟩⟩
 .rw [ap];refine⟨by rw[O];exact h.Df,by rw[O];exact h.lock,by rw[O];exact h.FE.gp a5,λa o U=>?_,by rw[O];exact h.Cz.ghost Y al,h.II,h.Ji,h.JM,h.NP,h.K2,h.KY,h.ID,h.mn,h.wg,h.Kk,h.G9,λa a0 hb=>?_,λk aq aj=>?_,?_,h.tape,h.os,h.output⟩
  .by_cases e:a=i
   .subst e;rw[qJ Y] at U;obtain rfl:=ep U;rw[upd_same,upd_same,K];have:loc (.ph p) s₀=s₀:=by simp[loc,Ir,a3]
    rw[this];exact .blk Z ac ag
   .rw [f6 (q2 e)] at U;rw[upd_ne _ _ e,upd_ne _ _ e];exact h.LR a o U
  .by_cases e:a=i
   .subst e;rcases ai with⟨rfl,rfl⟩ | ⟨⟨k,sv,rfl⟩,rfl⟩
    .have:a=0:=by simpa [Fam.Dd] using ac
     subst this;exact .inl ⟨V,K,V⟩
    .exact .inr ⟨⟨k,sv,K⟩,V⟩
   .rw [upd_ne _ _ e] at hb;rw[O] at a0;exact h.blk a a0 hb
  by_cases e:B.N0+k=i;rw[e,K] at aj;rcases Z with rfl | ⟨k',sv,rfl⟩<;>exact aj.elim;rw[upd_ne _ _ e];exact h.Jf k aq aj;by_cases e:0=i;subst e;rw[upd_same];exact λb o U=>al.ext b o (h.le b o U);rw[upd_ne _ _ e];exact h.le
 .rw [O];have:=sumTo_upd bt false bit Y;rw[a1] at this;exact .inr ⟨V,.inr ⟨V,.inr ⟨V,V,.inr ⟨V,by show(sumTo gs.size λa=>bit (upd bt i false a))<sumTo gs.size λa=>bit (bt a);simp only[bit] at this ⊢;simp only[rH,qP,rr] at this;omega⟩⟩⟩⟩
theorem LI.push{N:Nat}(h:LI N φ m q)(Z:0<N){p0:Ph}{j:Nat}(O:∀k p,φ 0≠ .ph (.lk k p))(U:∀k p,p0≠ .lk k p):LI (N+1) (upd (upd φ N (.ph (.lk j .GQ))) 0 (.ph p0)) m q:=by
 have Y:LI (N+1) (upd φ N (.ph (.lk j .GQ))) m q:=by
  have e:∀f,f LP.GQ=0->Sg f (N+1) (upd φ N (.ph (.lk j .GQ)))=Sg f N φ:=by
   intro f ac;unfold Sg;simp only[sumTo];have:=sumTo_upd_out φ (.ph (.lk j .GQ)) (DY f) (i:=N) (j:=N) (qH _);rw[upd_same];show _+f .GQ=_;omega
  refine⟨by rw[e pH rfl,e pN rfl,e pZ rfl,e pV rfl,e pT rfl,e pQ rfl,e pD rfl,e pX rfl];exact h.ln,λa ag=>?_⟩;by_cases K:a=N;subst K;rw[upd_same];trivial;rw[upd_ne _ _ K];exact h.loc a (by omega)
 exact Y.other (by omega) (by rw[upd_ne _ _ (by omega)];exact O) (λk p e=>U k p (Nx.ph.inj e))
theorem Inv.spawn(h:Inv P F B gs w t φ r bt S Sh j c v wt' sm m q f)(hi:gs[0]?=some g){K:Nat}(ac:φ 0=.ph (.Gy K))(bg:CK (S 0) s₀)(bx:Stop P F (.Gy K) g s₀):
  I5 P F B gs w sl t 0 (mu F gs.size φ m q r bt):=by
 have Y:0<gs.size:=(eF.1 hi).1;obtain⟨rfl,dj,rfl⟩:K=j/\j<F.n/\c=false:=by
  obtain⟨p,bi,_,hh⟩:=h.main;rw[ac] at bi;cases bi;rcases hh with⟨e,hm⟩ | ⟨_,hm⟩;exact⟨hm.1,hm.2.1,e⟩;exact hm.elim
 let⟨g',child,ea,eb,b0,b1,b2⟩:=bx.law.go _ V;have b3:=h.size;have ec:=h.Df.pos;have a4:=runT_crowd_spawn (P:=P) (sl:=sl) (i:=0) hi (show stepG P (0==0) g w=_ from b0 w);rw[Od] at a4;generalize b4:({g:=0,fn:=g.frame.fn,pos:=g.frame.place,act:=.go gs.size}:MemOp)=x at a4;generalize b5:({g:=gs.size,fn:=child.frame.fn,pos:=g.frame.place,act:=.start}:MemOp)=y at a4;have aj:x.g=0/\x.act=.go gs.size:=by subst b4;exact⟨V,V⟩
 have al:y.g=gs.size/\y.act=.start:=by subst b5;exact⟨V,V⟩
 have b6:((#[]:Trace).push x).push y=#[x,y]:=V;have ai:((gs.setIfInBounds 0 g').push child).size=gs.size+1:=by simp
 have ca:Fam.Dd (F.Fp K)=true/\Fam.Dr (F.Fp K)=false/\Gz (.ph (F.Fp K))=0/\(∀k p,F.Fp K≠ .lk k p):=by
  unfold Fam.Fp;split<;>exact⟨rfl,rfl,rfl,by simp⟩
 obtain⟨x1,x2,cc,ce⟩:=ca;let φ':Nat->Nx:=upd (upd φ gs.size (.ph (F.start K))) 0 (.ph (F.Fp K));have f0:φ' 0=.ph (F.Fp K):=upd_same _ _ _;have am:φ' gs.size=.ph (F.start K):=by show upd _ _ _ _=_;rw[upd_ne _ _ (by omega),upd_same]
 have ap:∀a,a≠0->a≠gs.size->φ' a=φ a:=λa ci a7=>by show upd _ _ _ _=_;rw[upd_ne _ _ ci,upd_ne _ _ a7]
 have hu:∀op∈(#[x,y]:Array MemOp),op.act.touch?=none/\∀m,op.act≠ .mark m:=by
  intro op O;simp only[r6,fP,qG,rq] at O;rcases O with rfl | rfl;rw[aj.2];exact⟨V,by simp⟩;rw[al.2];exact⟨V,by simp⟩
 have aq:=h.Df.spawn (by rw[Kg];exact ac);rw[Kg] at aq;simp only[qM,rE] at aq;have a8:∃aw,De F B.N0 (gs.size+1+aw.toNat) (K+1) aw (Da aw (gs.size+1) φ') v wt' sm false:=by
  by_cases e:K+1=F.n
  .refine⟨true,?_⟩;have a9:F.Gl K=.HB:=by unfold Fam.Gl;rw[d0 e]
   have e2:F.Fp K=.Et:=by unfold Fam.Fp;rw[d0 e]
   have:=aq.eh (by rw[upd_same,a9]);have ck:Da true (gs.size+1) φ'=upd (upd (upd (upd φ gs.size (.ph (F.start K))) 0 (.ph (F.Gl K))) (gs.size+1) (.ph .Et)) 0 (.ph (.Gw [] [])):=by
    funext a;unfold Da;by_cases bb:a=gs.size+1;subst bb;rw[d0 ⟨rfl,rfl⟩,upd_ne _ _ (by omega),upd_same,f0,e2];rw[d7 (by simp[bb])];by_cases ag:a=0;subst ag;rw[d0 ⟨rfl,rfl⟩,upd_same];rw[d7 (by simp[ag]),upd_ne _ _ ag,upd_ne _ _ bb];show upd _ _ _ _=_;rw[upd_ne _ _ ag,upd_ne _ _ ag]
   rw[ck];exact this
  .refine⟨false,?_⟩;have a9:F.Gl K=F.Fp K:=by unfold Fam.Gl Fam.Fp;rw[d7 e,d7 e]
   rw[a9] at aq;rw[Kg];exact aq
 obtain⟨aw,a8⟩:=a8;have bo:Cg t w gs.size (upd S 0 s₀) Sh:=h.Cz.ghost Y bg;have co:Cg (t++ #[x,y]) w gs.size (upd S 0 s₀) Sh:=by
  refine bo.ext (λsaid=>?_) (λop O a a0=>by rw[(hu op O).1] at a0;cases a0) (λop O=>?_) V λ_ _=>V
  .have e:t++ #[x,y]=(t++ #[x])++ #[y]:=by apply rW;simp
   rw[e];exact noRace_append (g:=gs.size) (noRace_append (g:=0) (h.Cz.clean said) (λop O=>by simp at O;subst O;exact aj.1) λz a _ op O b hb _=>by rw[(hu op (by simp at O ⊢;exact .inl O)).1] at hb;cases hb)
    (λop O=>by simp at O;subst O;exact al.1) λz a _ op O b hb _=>by rw[(hu op (by simp at O ⊢;exact .inr O)).1] at hb;cases hb
  .simp only [r6,fP,qG,rq] at O;rcases O with rfl | rfl;rw[aj.2];trivial;rw[al.2];trivial
 have cp:Deaf t 0=0:=by rw[h.FE.deaf 0 Y,ac];rfl
 have ct:Cg (t++ #[x,y]) w (gs.size+1) (upd (upd S 0 s₀) gs.size ⟨s₀.E,λ_=>none,false⟩) Sh:=by
  refine co.push (i:=0) Y (E:=s₀.E) (λb o a2=>by rw[upd_same];exact a2) λb hb z a cw cy c0=>?_;have hold:touchAt t z=some a:=by
   let⟨op,a2,be⟩:=touch_of cw;rcases getElem?_append_cases a2 with⟨_,c1⟩ | ⟨_,c2⟩;rw[touchAt_of c1];exact be;rw[(hu op c2).1] at be;cases be
  exact fork_knows aj al cp (h.FE.above _ (qH _)) (bo.kE 0 Y b (by rw[upd_same];exact hb) z a hold cy c0)
 have bv:∀k,k<K->upd (upd S 0 s₀) gs.size ⟨s₀.E,λ_=>none,false⟩ (B.N0+k)=S (B.N0+k):=λk bw=>by rw[upd_ne _ _ (by omega),upd_ne _ _ (by omega)]
 have c3:FR F B.N0 B.t0 (gs.size+1) (K+1) φ' (upd (upd S 0 s₀) gs.size ⟨s₀.E,λ_=>none,false⟩) (t++ #[x,y]):=by
  refine h.FE.spawn Y b3 (λa a0=>?_) (by rw[am];rfl) (by rw[ac];rfl) (λk bw a5=>?_) aj al;by_cases e:a=0;subst e;rw[f0,ac,cc];rfl;rw[ap a e (by omega)];by_cases e:k=K;subst e;rw[show B.N0+k=gs.size by omega,am] at a5;exact a5.elim;rw[ap _ (by omega) (by omega)] at a5;exact⟨by omega,a5,by rw[bv k (by omega)]⟩
 obtain⟨c4,c5⟩:=b2;obtain⟨c6,c7⟩:=b1;have a3:∀{α:Type}(f:Nat->α) (a b:α),upd (upd f 0 a) gs.size b 0=a:=λf a b=>by rw[upd_ne _ _ (by omega),upd_same]
 have c8:∀s:St,loc (.ph (F.Fp K)) s=s:=λs=>by simp[loc,Ir,x2]
 refine⟨_,_,_,_,a4,.inl ⟨φ',upd (upd r 0 c4) gs.size c6,upd (upd bt 0 true) gs.size true,upd (upd S 0 s₀) gs.size ⟨s₀.E,λ_=>none,false⟩,Sh,K+1,aw,v,wt',sm,m,q,f,?_,?_⟩⟩
 .rw [b6];refine⟨by rw[ai];exact a8,by rw[ai];exact h.lock.push Y (λk p e=>by rw[ac] at e;cases e) ce,by rw[ai];exact c3,λa o Z=>?_,by rw[ai];exact ct,h.II,h.Ji,h.JM,h.NP,h.K2,h.KY,h.ID,(by rw[f0];unfold Fam.Fp;split<;>simp),h.wg,h.Kk,h.G9,λa a0 hb=>?_,λk bw a6=>?_,?_,h.tape,h.os,h.output⟩
  .by_cases e:a=0;subst e;rw[Array.getElem?_push_lt (by simpa using Y)] at Z;simp at Z;subst Z;rw[f0,a3,a3,a3,c8];exact .walk x1.symm (λq=>by rw[x2] at q;cases q) c5
   .by_cases U:a=gs.size
    .subst U;have:child=o:=by
      rw[show gs.size=(gs.setIfInBounds 0 g').size by simp,Array.getElem?_push_size] at Z;exact ep Z
     subst this;rw[am,upd_same,upd_same,upd_same];have c9:(gs.size==0)=false:=by rw[beq_eq_false_iff_ne];omega
     rw[c9];exact .walk V (λq=>by cases q) c7
    .rw [ap a e U,upd_ne _ _ U,upd_ne _ _ e,upd_ne _ _ U,upd_ne _ _ e,upd_ne _ _ U,upd_ne _ _ e];have:gs[a]?=some o:=by
      rw[tW] at Z;simp[U] at Z;simpa [f6 (q2 e)] using Z
     exact h.LR a o this
  rw[ai] at a0;by_cases e:a=0;subst e;rw[a3] at hb;cases hb;by_cases U:a=gs.size;subst U;rw[upd_same] at hb;cases hb;rw[upd_ne _ _ U,upd_ne _ _ e] at hb;rcases h.blk a (by omega) hb with⟨ag,_⟩ | ⟨⟨k,sv,a7⟩,dd⟩;exact absurd ag e;exact .inr ⟨⟨k,sv,by rw[ap a e U];exact a7⟩,dd⟩;by_cases e:k=K;subst e;rw[show B.N0+k=gs.size by omega,am] at a6;exact a6.elim;rw[ap _ (by omega) (by omega)] at a6;rw[bv k (by omega)];exact h.Jf k (by omega) a6;rw[a3];exact h.le.trans λb o a2=>bg.ext b o a2
 .rw [ai];refine gZ ?_;simp only[sumTo];rw[am];have a1:=sumTo_upd (upd φ gs.size (.ph (F.start K))) (.ph (F.Fp K)) (wt F.n) Y;rw[upd_ne _ _ (by omega),ac] at a1;have ed:=sumTo_upd_out φ (.ph (F.start K)) (wt F.n) (i:=gs.size) (j:=gs.size) (qH _);have ee:wt F.n (.ph (F.start K))=23:=V;have ef:wt F.n (.ph (.Gy K))=5*F.n+85+50*(F.n - K):=V;have eg:wt F.n (.ph (F.Fp K))+30<=5*F.n+85+50*(F.n - K):=by
   unfold Fam.Fp;split<;>simp only[wt]<;>omega
  show(sumTo gs.size λi=>wt F.n (upd (upd φ gs.size (.ph (F.start K))) 0 (.ph (F.Fp K)) i))+_<_;omega
end
theorem Cg.final{t:Trace}{w:World}{N:Nat}{S:Nat->St}{Sh:Nat->Prop}(h:Cg t w N S Sh)(aj:0<N){fd:Nat}
  (Z:∀b o,s'.E b=some o->w.heap[b]?=some o/\¬Sh b/\∀x a,touchAt t x=some a->Ds a.loc=some b->a.write=true->Knows t 0 x)
  (ac:∀b o,s'.H b=some o->w.heap[b]?=some o/\(¬Sh b∨b=fd)/\∀x a,touchAt t x=some a->Ds a.loc=some b->Knows t 0 x)
  (hd:∀b,s'.E b≠none->s'.H b=none) (al:s'.E fd=none):Cg t w N (lone s') (λb=>Sh b/\b≠fd):=by
 have l0:lone s' 0=s':=V;have ln:∀i,i≠0->lone s' i=.quiet:=λi hi=>by simp[lone,hi]
 have Y:∀i b,i≠0->(lone s' i).E b=none:=λi b hi=>by rw[ln i hi];rfl
 have U:∀i b,i≠0->(lone s' i).H b=none:=λi b hi=>by rw[ln i hi];rfl
 refine⟨λi hi=>?_,λa b am hb ai x O=>?_,λi hi b hb=>?_,λb hb=>h.G3 b hb.1,h.clean,h.low,λi hi b hb x a O ag=>?_,λi hi b hb x a O ag hw=>?_⟩;by_cases e:i=0;subst e;rw[l0];exact⟨λb o K=>(Z b o K).1,λb o K=>(ac b o K).1,hd⟩;exact⟨λb o K=>(by rw[Y i b e] at K;cases K),λb o K=>(by rw[U i b e] at K;cases K),λb hb=>U i b e⟩;by_cases e:b=0;subst e;rw[U a x ai] at O;exact absurd V O;exact⟨U b x e,Y b x e⟩
 .by_cases e:i=0
  .subst e;rw[l0];constructor
   .cases O:s'.H b with
    | none=>rfl
    | some o=>rcases(ac b o O).2.1 with q | q;exact absurd hb.1 q;exact absurd q hb.2
   .cases O:s'.E b with
    | none=>rfl
    | some o=>exact absurd hb.1 (Z b o O).2.1
  .exact⟨U i b e,Y i b e⟩
 by_cases e:i=0;subst e;let⟨o,K⟩:=IT (x:=s'.H b) hb;exact(ac b o K).2.2 x a O ag;rw[U i b e] at hb;exact absurd V hb;by_cases e:i=0;subst e;let⟨o,K⟩:=IT (x:=s'.E b) hb;exact(Z b o K).2.2 x a O ag hw;rw[Y i b e] at hb;exact absurd V hb
section
variable {P:Program}{F:Fam}{B:Base}{gs gs':Array Goroutine}{w w':World}{sl:Option (Nat×Nat)}{t:Trace}{φ:Nat->Nx}{r:Nat->Rk}{bt:Nat->Bool}{S:Nat->St}{Sh:Nat->Prop}{j:Nat}{c:Bool}{v wt' sm v₁ wt₁ sm₁:Nat}{m m₁:M4}{q q₁:Nat}{f f₁:Nat->Value}
theorem Inv.over(h:Inv P F B gs w t φ r bt S Sh j c v wt' sm m q f)(c1:∀k v E E',Le E E'->F.msg k v E->F.msg k v E')(hi:gs[0]?=some g)(a9:φ 0=.ph .G4)(b3:CK (S 0) s₀)(aj:Stop P F .G4 g s₀)(c2:Mu):
  I5 P F B gs w sl t 0 c2:=by
 classical
 have ag:0<gs.size:=(eF.1 hi).1;have ee:=h.size;have ef:=h.Df.pos;obtain rfl:c=true:=by
  obtain⟨p,b4,_,hh⟩:=h.main;rw[a9] at b4;cases b4;rcases hh with⟨_,hm⟩ | ⟨e,_⟩;exact hm.elim;exact e
 have hj:j=F.n:=h.Df.cj V;have bb:∀i,i≠0->i<gs.size->∃d,φ i=.gone d:=by
  intro i be a3;rcases h.Fq a3 with e | ⟨_,d,hd,_⟩ | ⟨k,Z,c3,_,_⟩;exact absurd e be;exact⟨d,hd⟩
  .have:=h.Df.cH rfl (.inr (.inr (.inl (by rw[show B.N0+F.n=gs.size by omega,KJ];exact a9)))) k Z;rw[← c3,Jx be (by omega)] at this;cases U:φ i with
   | gone d=>exact⟨d,rfl⟩
   | ph p=>rw[U] at this;exact this.elim
 let⟨g',c4,c5⟩:=aj.law.fin V;have b5:=runT_crowd_go (P:=P) (sl:=sl) (i:=0) hi (show stepG P (0==0) g w=_ from c4 w);have b6:Deaf t 0=0:=by rw[h.FE.deaf 0 ag,a9];rfl
 have bg:MemOp.ofEvents 0 g.frame.fn g.frame.place #[Fam.Dg (.acquire F.sA)]=#[{g:=0,fn:=g.frame.fn,pos:=g.frame.place,act:=.mark (.acquire F.sA)}]:=by rw[ofEvents_eq];simp[Fam.Dg,MemAct.ofEvent]
 generalize hu:MemOp.ofEvents 0 g.frame.fn g.frame.place #[Fam.Dg (.acquire F.sA)]=u at b5;have al:∀op∈u,op.act.touch?=none/\op.g=0/\op.act.low w.heap.size:=by
  intro op am;rw[← hu,bg] at am;simp at am;subst am;exact⟨V,V,h.Cz.G3 F.wg h.II⟩
 have a4:(t++u)[t.size]?=some {g:=0,fn:=g.frame.fn,pos:=g.frame.place,act:=.mark (.acquire F.sA)}:=by rw[← hu,bg];simp
 have c6:(t++u).heard t.size:=⟨0,by simp[Trace.g?,a4],by rw[deaf_old (qH _)];exact b6⟩;have c7:(t++u).g? t.size=some 0:=by simp[Trace.g?,a4]
 have c8:∀x,B.t0<=x->(t++u).act? x≠some (.mark (.release F.sA)):=QY h.FE.norel λop am e=>by rw[← hu,bg] at am;simp at am;subst am;cases e
 have bi:∀k,k<F.n->∃ρ,ρ<t.size/\RelBy F.sA t (B.N0+k) ρ/\KE t (S (B.N0+k)).E ρ/\HappensBefore (t++u) ρ t.size:=by
  intro k Z;obtain⟨d,hd⟩:=bb (B.N0+k) (by omega) (by omega);obtain⟨ρ,a,b,e⟩:=h.FE.rel k (by omega) (by rw[hd];trivial);have a5:ρ<t.size:=lt_of_act? b.act;refine⟨ρ,a5,b,e,.single (.inr ⟨.marked a5 (.inr (by rw[act?_old a5];exact b.act)) (by rw[act?_of a4]) λz Y ai=>c8 z (by omega),(heard_old a5).2 b.heard,c6⟩)⟩
 have ca:∀{x ρ},Before t x ρ->HappensBefore (t++u) ρ t.size->Knows (t++u) 0 x:=λY ai=>⟨t.size,_,a4,rfl,.inr ((Y.app u).hb ai)⟩;have cc:∀{x k},k<F.n->t.g? x=some (B.N0+k)->t.counts x->Knows (t++u) 0 x:=by
  intro x k Z ac ap;let⟨ρ,Y,ai,_,a2⟩:=bi k Z;have hle:x<=ρ:=Nat.le_of_not_lt λaw=>ai.after x aw ac ap;refine ca (ρ:=ρ) ?_ a2;rcases f7 x ρ with U | U;exact .inr (.single (.inl ⟨U,_,ac,ai.g⟩));exact .inl (by omega)
 have hold:∀{y a},touchAt (t++u) y=some a->touchAt t y=some a:=by
  intro y a U;let⟨op,O,bo⟩:=touch_of U;rcases getElem?_append_cases O with⟨aw,bv⟩ | ⟨_,bw⟩;rw[touchAt_of bv];exact bo;rw[(al op bw).1] at bo;cases bo
 have aq:Cg t w gs.size (upd S 0 s₀) Sh:=h.Cz.ghost ag b3;have bx:Cg (t++u) w gs.size (upd S 0 s₀) Sh:=aq.mute (g:=0) (λop O=>(al op O).2.1) (λop O=>(al op O).1) (λop O=>(al op O).2.2) rfl;let K:Nat->Obj->Prop:=λb o=>s₀.E b=some o∨∃k,k<F.n/\(S (B.N0+k)).E b=some o;have b0:∀b o,K b o->w.heap[b]?=some o:=by
  rintro b o (Y | ⟨k,Z,Y⟩);exact(aq.fits 0 ag).e b o (by rw[upd_same];exact Y);exact(h.Cz.fits (B.N0+k) (by omega)).e b o Y
 let E':LH:=λb=>if hb:∃o,K b o then some (Classical.choose hb) else none
 have b1:∀b o,E' b=some o->K b o:=by
  intro b o O;simp only[E'] at O;split at O;rename_i hb;have:=rY hb;rw[ep O] at this;exact this;cases O
 have ce:∀b o,K b o->E' b=some o:=by
  intro b o O;have hb:∃o,K b o:=⟨o,O⟩;have c9:E' b=some (Classical.choose hb):=by simp only[E'];rw[dif_pos hb]
  have e2:=b0 b _ (rY hb);rw[b0 b o O] at e2;rw[c9,← ep e2]
 have ci:Le s₀.E E':=λb o O=>ce b o (.inl O);have dd:∀k,k<F.n->Le (S (B.N0+k)).E E':=λk Z b o O=>ce b o (.inr ⟨k,Z,O⟩);have ck:∀b o,K b o->¬Sh b:=by
  rintro b o (Y | ⟨k,Z,Y⟩) hb;have:=(aq.sh 0 ag b hb).2;rw[upd_same,Y] at this;cases this;have:=(h.Cz.sh (B.N0+k) (by omega) b hb).2;rw[Y] at this;cases this
 have b2:E' F.fd=none:=by
  cases U:E' F.fd with
  | none=>rfl
  | some o=>exact absurd h.JM (ck _ _ (b1 _ _ U))
 have co:∀b,E' b≠none->s₀.H b=none:=by
  intro b hb;let⟨o,O⟩:=IT hb;rcases b1 b o O with Y | ⟨k,Z,Y⟩
  .have:=(aq.fits 0 ag).d b (by rw[upd_same,Y];simp)
   rwa[upd_same] at this
  .cases U:s₀.H b with
   | none=>rfl
   | some o'=>
    have:=(aq.hh 0 (B.N0+k) ag (by omega) (by omega) b (by rw[upd_same,U];simp)).2;rw[upd_ne _ _ (by omega),Y] at this;cases this
 have dj:∀k,k<F.n->F.msg k (f k) E':=λk Z=>by
  obtain⟨d,hd⟩:=bb (B.N0+k) (by omega) (by omega);exact c1 _ _ _ _ (dd k Z) (h.Jf k (by omega) (by rw[hd];trivial))
 have ea:=c5 E' f ci b2 co dj;have cp:((gs.map (woken P g g' w)).setIfInBounds 0 g').size=gs.size:=by simp
 have eb:Cg (t++u) w gs.size (lone ⟨E',F.KH s₀.H f,false⟩) (λb=>Sh b/\b≠F.fd):=by
  refine bx.final ag (λb o O=>?_) (λb o O=>?_) (λb hb=>?_) b2;have Z:=b1 b o O;refine⟨b0 b o Z,ck b o Z,λx a U a0 hw=>?_⟩;rcases Z with Y | ⟨k,Z,Y⟩;exact bx.kE 0 ag b (by rw[upd_same,Y];simp) x a U a0 hw;let⟨ρ,_,_,ec,a2⟩:=bi k Z;exact ca (ec b (by rw[Y];simp) x a (hold U) a0 hw) a2;simp only[Fam.KH] at O;split at O;rename_i e;subst e;cases O;refine⟨h.G9,.inr V,λx a U a0=>?_⟩;rcases h.FE.G9 x a (hold U) a0 with z | ⟨k,Z,ac,ap,_⟩;exact(z 0 ag (.inl V)).app u;exact cc (by omega) ac ap;refine⟨(aq.fits 0 ag).h b o (by rw[upd_same];exact O),.inl λhb=>?_,λx a U a0=>bx.kH 0 ag b (by rw[upd_same,O];simp) x a U a0⟩;have:=(aq.sh 0 ag b hb).1;rw[upd_same,O] at this;cases this;simp only[Fam.KH];rw[d7 (λe=>by subst e;exact hb b2)];exact co b hb
 have ed:∀i g,i≠0->gs[i]?=some g->∃q d,φ i=.gone d/\QuitsD P q d g:=by
  intro i g hi ac;let⟨d,hd⟩:=bb i hi (eF.1 ac).1;have aj:=h.LR i g ac;rw[hd] at aj;generalize U:Nx.gone d=x at aj;generalize loc x (S i)=s at aj;generalize r i=ρ at aj;generalize bt i=eg at aj;cases aj with
  | gone _ a6=>cases U;exact⟨_,_,hd,a6⟩
  | _=>cases U
 have a6:∀i,∃q,∀g,i≠0->gs[i]?=some g->QuitsD P q (Deaf t i) g:=by
  intro i;by_cases hi:i≠0/\i<gs.size;let⟨q,d,Y,ai⟩:=ed i _ hi.1 (q5 hi.2);refine⟨q,λg _ ac=>?_⟩;rw[q5 hi.2] at ac;obtain rfl:=ep ac;rw[h.FE.deaf i hi.2,Y];exact ai;exact⟨0,λg Y ai=>absurd ⟨Y,(eF.1 ai).1⟩ hi⟩
 have ct:∀i,i≠0->Deaf (t++u) i=Deaf t i:=λi hi=>Deaf_other t (q2 hi) u λop O=>(al op O).2.1;refine⟨_,_,_,_,b5,.inr ⟨λi=>Classical.choose (a6 i),λb=>Sh b/\b≠F.fd,g',⟨E',F.KH s₀.H f,false⟩,⟨by simp[ag],⟨λi x be U=>?_,λi a3=>?_⟩,by rw[cp];exact eb,λx a7 ac a1 ap=>?_,?_⟩,ea,?_,h.tape,h.os,h.output⟩⟩
 .have a1:i≠0:=by omega
  rw[f6 (q2 a1),sn] at U;obtain⟨o',bv,rfl⟩:=rg.1 U;have cw:=rY (a6 i) o' a1 bv;rw[woken_quitsD cw,ct i a1];exact cw
 .rw [cp] at a3;rw[ct i (by omega)];exact h.FE.above i a3
 .have:=Rc h.FE.over (u:=u) (N0:=B.N0) (N:=gs.size) (λop O=>.inl (al op O).2.1) x a7 ac a1 ap;rcases this with z | ⟨z1,ej⟩;exact z
  .have a8:x<t.size:=by
    rcases f7 x t.size with z | z;exact z;let⟨op,O,cy⟩:=rg.1 ac;rcases getElem?_append_cases O with⟨aw,_⟩ | ⟨_,bw⟩;exact aw;rw[(al op bw).2.1] at cy;exact absurd cy.symm a1
   obtain⟨ek,z,el,em,eo⟩:=cc (k:=a7 - B.N0) (by omega) (by rw[← g?_old (u:=u) a8,ac];congr 1;omega) ((counts_old a8).1 ap);refine⟨t.size,c7,?_⟩;obtain⟨ρ,Y,ai,_,a2⟩:=bi (a7 - B.N0) (by omega);have c0:t.g? x=some (B.N0+(a7 - B.N0)):=by rw[← g?_old (u:=u) a8,ac];congr 1;omega
   have hle:x<=ρ:=Nat.le_of_not_lt λaw=>ai.after x aw c0 ((counts_old a8).1 ap);have hb:Before t x ρ:=by
    rcases f7 x ρ with U | U;exact .inr (.single (.inl ⟨U,_,c0,ai.g⟩));exact .inl (by omega)
   exact(hb.app u).hb a2
 have:=Deaf_own t 0 g.frame.fn g.frame.place #[Fam.Dg (.acquire F.sA)];rw[hu] at this;rw[this,b6];rfl;exact(h.le.trans λb o O=>b3.ext b o O).trans ci
end
theorem LN.busy{m:M4}{h rn rs v t s d x:Nat}(Z:LN m 0 h rn rs v t s d x)(aj:1<=s):1<=h+rn+rs+v+t+d+x:=by
 obtain⟨O,ac,ag⟩:=Z;cases hm:m.s with
 | true=>have:=(ag hm).2.2.2.1;rw[← O] at this;omega
 | false=>
  let⟨a1,al,K,am,ai⟩:=ac hm;cases Y:m.l with
  | true=>rw[Y] at O;simp at O;omega
  | false=>
   cases U:m.k with
   | true=>rw[U] at K;simp at K;omega
   | false=>
    rw[U] at K;simp at K;have:=ai Y U (by omega);omega
section
variable {P:Program}{F:Fam}{B:Base}{gs gs':Array Goroutine}{w w':World}{sl:Option (Nat×Nat)}{t:Trace}{φ:Nat->Nx}{r:Nat->Rk}{bt:Nat->Bool}{S:Nat->St}{Sh:Nat->Prop}{j:Nat}{c:Bool}{v wt' sm v₁ wt₁ sm₁:Nat}{m m₁:M4}{q q₁:Nat}{f f₁:Nat->Value}
theorem Y1{N:Nat}{f:Nat->Nat}(h:1<=sumTo N f):∃i,i<N/\1<=f i:=by
 induction N with
 | zero=>simp[sumTo] at h
 | succ N K=>
  simp only[sumTo] at h;by_cases e:1<=f N;exact⟨N,by omega,e⟩;obtain⟨i,hi,O⟩:=K (by omega);exact⟨i,by omega,O⟩
theorem Inv.runs(h:Inv P F B gs w t φ r bt S Sh j c v wt' sm m q f):∃(i:Nat) (g:Goroutine),gs[i]?=some g/\g.status=.running:=by
 have b0:=h.Df.pos;have b1:=h.size;have am:0<gs.size:=by omega
 have ag:∀i (hi:i<gs.size) p,φ i=.ph p->bt i=true->∃(i:Nat) (g:Goroutine),gs[i]?=some g/\g.status=.running:=by
  intro i hi p U hb;refine⟨i,_,q5 hi,?_⟩;have K:=h.LR i _ (q5 hi);rw[U,hb] at K;generalize loc (Nx.ph p) (S i)=s at K;generalize a6:Nx.ph p=x at K;generalize a7:true=b at K;generalize gs[i]=o at K ⊢;generalize r i=ρ at K;cases K with
  | walk _ _ hj=>exact hj.running
  | blk _ _ _=>cases a7
  | gone _ _=>cases a6
 obtain⟨p0,ac,a8,hh⟩:=h.main;cases ap:bt 0 with
 | true=>exact ag 0 am p0 ac ap
 | false=>
  obtain⟨U,b2⟩:φ 0=.ph .Gp/\sm=0:=by
   rcases h.blk 0 am ap with⟨_,a,b⟩ | ⟨⟨k,sv,a⟩,_⟩;exact⟨a,b⟩;rw[ac] at a;cases a;cases a8
  rw[U] at ac;cases ac;obtain⟨rfl⟩:c=true:=by
   rcases hh with⟨_,hm⟩ | ⟨e,_⟩;exact hm.elim;exact e
  have hj:j=F.n:=h.Df.cj V;have aq:=h.Df.mode;rw[d0 rfl,show B.N0+F.n=gs.size by omega,KJ,U] at aq;obtain⟨a9,_,_⟩:=aq;have ai:=h.Df.cnt;have aw:Da true gs.size φ 0=.ph (.Gw [] []):=by simp[Da];omega
  rw[aw] at ai;simp only[pend,rE] at ai;have hex:∃i,i<gs.size+1/\1<=cU (Da true gs.size φ i)+cL (Da true gs.size φ i)+cS (Da true gs.size φ i):=by
   apply s3;intro bb;have aj:∀i,i<gs.size+1->cU (Da true gs.size φ i)=0/\cL (Da true gs.size φ i)=0/\cS (Da true gs.size φ i)=0:=λi hi=>by
    have:¬1<=cU (Da true gs.size φ i)+cL (Da true gs.size φ i)+cS (Da true gs.size φ i):=λq=>bb ⟨i,hi,q⟩;omega
   have zero:∀f:Nat->Nat,(∀i,i<gs.size+1->f i=0)->sumTo (gs.size+1) f=0:=λf be=>by
    have:=sumTo_le (f:=f) (c:=0) (j:=gs.size+1) (λi hi=>by rw[be i hi];exact qH _);omega
   have z1:=zero (λi=>cU (Da true gs.size φ i)) λi hi=>(aj i hi).1;have b3:=zero (λi=>cL (Da true gs.size φ i)) λi hi=>(aj i hi).2.1;have b4:=zero (λi=>cS (Da true gs.size φ i)) λi hi=>(aj i hi).2.2;simp only[qV] at a9 ai;omega
  obtain⟨i,hi,O⟩:=hex;have a0:i≠0:=by rintro rfl;rw[aw] at O;simp[cU,cL,cS] at O
  have bg:i≠gs.size:=by rintro rfl;rw[KJ,U] at O;simp[cU,cL,cS] at O
  rw[Jx a0 bg] at O;have al:i<gs.size:=by omega
  cases a1:φ i with
  | gone d=>rw[a1] at O;simp[cU,cL,cS] at O
  | ph pi=>
   cases a2:bt i with
   | true=>exact ag i al pi a1 a2
   | false=>
    obtain⟨⟨k,sv,bi⟩,bo⟩:(∃k sv,φ i=.ph (.lk k (.C9 sv)))/\q=0:=by
     rcases h.blk i al a2 with⟨e,_⟩ | e;exact absurd e a0;exact e
    subst bo;have bv:1<=Sg pQ gs.size φ:=by
     have:=le_sumTo (f:=λa=>DY pQ (φ a)) al;have e:DY pQ (φ i)=1:=by rw[bi];rfl
     simp only[e] at this;exact this
    have hb:=h.lock.ln.busy bv;have bw:1<=Sg (λp=>(((((pH p+pN p)+pZ p)+pV p)+pT p)+pD p)+pX p) gs.size φ:=by
     rw[KI,KI,KI,KI,KI,KI];exact hb
    let⟨a,a3,Y⟩:=Y1 bw;cases Z:φ a with
    | gone d=>rw[Z] at Y;simp[DY] at Y
    | ph bx=>
     rw[Z] at Y;cases bx<;>(try (simp[DY] at Y;done))
     rename_i k' l;cases a4:bt a with
     | true=>exact ag a a3 _ Z a4
     | false=>
      rcases h.blk a a3 a4 with⟨e,a5,_⟩ | ⟨⟨b5,b6,e⟩,_⟩;subst e;rw[Z] at a5;cases a5;rw[Z] at e;cases e;simp[DY,pH,pN,pZ,pV,pT,pD,pX] at Y
theorem Inv.step(h:Inv P F B gs w t φ r bt S Sh j c v wt' sm m q f)(aj:∀k v E E',Le E E'->F.msg k v E->F.msg k v E'):
  ∃gs' w' ap u,stepT P (crowd gs w sl)=(.next (crowd gs' w' ap),u)/\
  ((∃φ' r' a5 S' bi al bo v' bv sm' m' q' bw,Inv P F B gs' w' (t++u) φ' r' a5 S' bi al bo v' bv sm' m' q' bw/\Mu.lt (mu F gs'.size φ' m' q' r' a5) (mu F gs.size φ m q r bt))∨SA P F B gs' w' (t++u)):=by
 have cp:=h.size;have bx:∀x∈gs,awake x:=by
  intro x K;obtain⟨i,hi,rfl⟩:=tQ.1 K;exact(h.LR i _ (q5 hi)).awake
 let⟨i,g,d,ap,hi,a6,b0⟩:=crowd_pick (P:=P) (w:=w) (sl:=sl) bx h.runs
 suffices I5 P F B gs (w.at d) ap t i (mu F gs.size φ m q r bt) by
  obtain⟨gs',w',b1,u,aq,aw⟩:=this;exact⟨gs',w',b1,u,b0.trans aq,aw⟩
 have O:=h.at_ d;have a7:i<gs.size:=(eF.1 hi).1;have ac:=h.LR i g hi;generalize K:φ i=x at ac;generalize a8:r i=ρ at ac;generalize hb:bt i=b at ac;generalize a9:loc x (S i)=s at ac;cases ac with
 | blk _ _ _=>cases a6
 | gone hm bb=>exact O.slip hi a6 K a8 hm bb
 | @walk p _ _ _ hm bb hj=>
  have b2:JQ (Stop P F p) g s∨∃f,ρ=.node f/\(∀w,Fits s w->∃g' s' w' es,stepG P (i==0) g w=.go g' w' es/\Jr P (i==0) (JQ (Stop P F p)) (f w) g' s'/\Fits s' w'/\Fr s w s' w'/\(∀e∈es,Ev s w w' e)/\(s=.quiet->s'=.quiet/\w'=w/\es=#[])):=by
   cases ρ with
   | leaf=>exact .inl hj
   | node f=>
    rcases hj with q | ⟨_,q⟩;exact .inl q;exact .inr ⟨f,V,q⟩
  rcases b2 with⟨s₀,be,U⟩ | ⟨f0,rfl,hgo⟩
  .subst a9;have Y:Fam.Dr p=false->CK (S i) s₀:=λe=>by simpa [loc,Ir,e] using be
   by_cases c1:∃k l,p=.lk k l
   .obtain⟨k,l,rfl⟩:=c1;by_cases c2:l=.Gr;subst c2;exact O.store hi K hm (Y V) U
    by_cases c3:(∃sv,l=.C9 sv)/\q=0;obtain⟨⟨sv,rfl⟩,c3⟩:=c3;exact O.block hi K hb hm (Y V) U (.inr ⟨⟨k,sv,V⟩,c3⟩)
    exact O.Ci aj hi K c2 hm (Y V) U λsv e a0=>c3 ⟨⟨sv,e⟩,a0⟩
   by_cases c2:∃al,p=.Gy al
   .obtain⟨al,rfl⟩:=c2;have ag:i=0:=by simpa [Fam.Dd] using hm
    subst ag;exact O.spawn hi K (Y V) U
   by_cases c3:p=.G4
   .subst c3;have ag:i=0:=by simpa [Fam.Dd] using hm
    subst ag;exact O.over aj hi K (Y V) U _
   by_cases c4:p=.Gp/\sm=0;obtain⟨rfl,c4⟩:=c4;exact O.block hi K hb hm (Y V) U (.inl ⟨V,c4⟩)
   have b3:∃a1,a1<gs.size+c.toNat/\Da c gs.size φ a1=.ph p:=by
    by_cases e:i=0
    .subst e;cases c with
     | false=>exact⟨0,by omega,by rw[Kg];exact K⟩
     | true=>exact⟨gs.size,by simp,by rw[KJ];exact K⟩
    .exact⟨i,by omega,by rw[Jx e (by omega)];exact K⟩
   have b4:p=.Gp->sm=1:=by
    rintro rfl;have ag:i=0:=by simpa [Fam.Dd] using hm
    subst ag;obtain⟨p0,ai,_,hh⟩:=h.main;rw[K] at ai;cases ai;obtain rfl:c=true:=by
     rcases hh with⟨_,hm⟩ | ⟨e,_⟩;exact hm.elim;exact e
    have hj:=h.Df.cj V;have bg:=h.Df.mode;rw[d0 rfl,show B.N0+F.n=gs.size by omega,KJ,K] at bg;obtain⟨ct,_⟩:=bg;have:sm≠0:=λq=>c4 ⟨rfl,q⟩;omega
   obtain⟨a1,b5,b6⟩:=b3;have am:(∀k,p≠ .HX k)/\p≠ .HB/\(∀a2 vs,p≠ .Gw a2 vs)/\p≠ .Iq:=by
    by_cases e:i=0;subst e;have a3:=h.mn;rw[K] at a3;obtain⟨p0,ai,_,hh⟩:=h.main;rw[K] at ai;cases ai;refine⟨λk e=>?_,λe=>?_,λa2 vs e=>?_,λe=>?_⟩;subst e;rcases hh with⟨_,Z⟩ | ⟨_,Z⟩<;>exact Z.elim;subst e;exact a3.1 V;subst e;rcases hh with⟨e,Z⟩ | ⟨_,Z⟩;have:=Z.2;rw[e] at this;cases this;exact Z.elim;subst e;exact a3.2 V
    .rcases h.Fq a7 with a0 | ⟨_,d,hd,_⟩ | ⟨k',cw,cy,_,hw⟩;exact absurd a0 e;rw[K] at hd;cases hd
     .rw [K] at hw;refine⟨λk e=>?_,λe=>?_,λa2 vs e=>?_,λe=>?_⟩<;>subst e;exact absurd hw.2 so
      all_goals exact hw.elim
   let⟨v',w',sm',es,c0,ca⟩:=h.Df.enabled b5 b6 am.1 (λk e=>c2 ⟨k,e⟩) am.2.1 am.2.2.1 am.2.2.2 b4 c3 λk l e=>c1 ⟨k,l,e⟩;exact O.act aj hi K hm be U ca
  .subst a9;have cc:Fits (loc (.ph p) (S i)) (w.at d):=by
    have:=O.Cz.fits i a7;unfold loc;split;exact⟨λb o a4=>(by cases a4),λb o a4=>(by cases a4),λb hb=>V⟩;exact this
   let⟨g',s',w',es,aq,aw,ce,ci,ck,co⟩:=hgo (w.at d) cc;exact O.own aj hi K hm aq aw ce ci ck co (by rw[a8];exact⟨f0,_,rfl,rfl⟩)
theorem Inv.run(Z:∀k v E E',Le E E'->F.msg k v E->F.msg k v E'):∀(K:Mu) (gs:Array Goroutine) (w:World) (sl:Option (Nat×Nat)) (t:Trace) (φ:Nat->Nx) (r:Nat->Rk) (bt:Nat->Bool) (S:Nat->St) (Sh:Nat->Prop) (j:Nat) (c:Bool) (v wt' sm:Nat) (m:M4) (q:Nat) (f:Nat->Value),
  mu F gs.size φ m q r bt=K->Inv P F B gs w t φ r bt S Sh j c v wt' sm m q f->∃n gs' w' O U,runNT P n (crowd gs w sl) t=(.next (crowd gs' w' O),U)/\SA P F B gs' w' U:=by
 intro K
 induction K using Mu.wf.induction with
 | _ K ac=>
  intro gs w sl t φ r bt S Sh j c v wt' sm m q f ag h;let⟨gs',w',O,u,Y,hh⟩:=h.step (sl:=sl) Z;rcases hh with⟨φ',r',ai,S',aj,al,am,v',ap,sm',m',q',aq,aw,a0⟩ | a1;let⟨n,a2,a3,a4,a5,a6,a7⟩:=ac _ (ag▸a0) gs' w' O (t++u) φ' r' ai S' aj al am v' ap sm' m' q' aq V aw;exact⟨n+1,a2,a3,a4,a5,Oj Y a6,a7⟩;exact⟨1,gs',w',O,t++u,Oj Y V,a1⟩
end
def KG(H:LH)(a b c:Nat):LH:=λx=>if x=c then none else if x=b then none else if x=a then none else H x
theorem cz{P:Program}(F:Fam){s:St}{f₀:Nat->Value}(aq:1<=F.n)(a6:F.n<134217728)(a7:∀k v E E',Le E E'->F.msg k v E->F.msg k v E')
  (aw:F.mu≠F.wg) (a0:F.fd≠F.wg) (a1:F.fd≠F.mu) (ac:s.H F.wg=some (F.IE 0 0)) (ag:s.H F.mu=some (F.IF 0 0)) (aj:s.H F.fd=some (F.Jg f₀))
  (a8:Way P true (Stop P F (.G5 0)) g ⟨s.E,KG s.H F.wg F.mu F.fd,false⟩) (a9:∀g s,F.fin g s->(Hj P).ok Q g s):(Hj P).ok Q g s:=by
 intro gs w sl t q Sh hC;have Y:0<gs.size:=(eF.1 hC.main).1;let s1:St:={s with H:=λb=>if b=F.wg then none else s.H b}
 let s2:St:={s with H:=λb=>if b=F.mu then none else s1.H b}
 have a2:lone s 0=s:=V;have c1:Cg t w gs.size (upd (lone s) 0 s1) (λb=>Sh b∨b=F.wg):=by
  have:=hC.Cz.share (i:=0) Y (b₀:=F.wg) (o₀:=F.IE 0 0) (by rw[a2];exact ac);exact this
 have c2:Cg t w gs.size (upd (upd (lone s) 0 s1) 0 s2) (λb=>(Sh b∨b=F.wg)∨b=F.mu):=by
  have:=c1.share (i:=0) Y (b₀:=F.mu) (o₀:=F.IF 0 0) (by rw[upd_same];simp[s1,aw,ag]);refine this.congr λi hi=>?_;by_cases e:i=0;subst e;simp only[upd_same];exact⟨V,V⟩;have h:∀(f:Nat->St) (x:St),upd f 0 x i=f i:=λf x=>upd_ne f x e;constructor<;>simp only[h]
 have c3:Cg t w gs.size (upd (upd (upd (lone s) 0 s1) 0 s2) 0 ⟨s.E,KG s.H F.wg F.mu F.fd,false⟩) (λb=>((Sh b∨b=F.wg)∨b=F.mu)∨b=F.fd):=by
  have:=c2.share (i:=0) Y (b₀:=F.fd) (o₀:=F.Jg f₀) (by rw[upd_same];simp[s2,s1,a0,a1,aj]);refine this.congr λi hi=>?_;by_cases e:i=0;subst e;simp only[upd_same];exact⟨V,V⟩;have h:∀(f:Nat->St) (x:St),upd f 0 x i=f i:=λf x=>upd_ne f x e;constructor<;>simp only[h]
 have Z:∀b,s.H b≠none->∀x a,touchAt t x=some a->Ds a.loc=some b->Knows t 0 x:=λb hb=>hC.Cz.kH 0 Y b (by rw[a2];exact hb);have al:=hC.Cz.fits 0 Y;obtain⟨ρ,bb⟩:=a8;let φ:Nat->Nx:=λi=>if i=0 then .ph (.G5 0) else .gone (Deaf t i)
 have z:∀f:Nx->Nat,(∀d,f (.gone d)=0)->f (.ph (.G5 0))=0->(sumTo gs.size λi=>f (φ i))=0:=by
  intro f a3 a4;have:=sumTo_le (f:=λi=>f (φ i)) (c:=0) (j:=gs.size) λi _=>by
   show f (φ i)<=0;by_cases e:i=0;simp[φ,e,a4];simp[φ,e,a3]
  omega
 have O:∀f:LP->Nat,Sg f gs.size φ=0:=λf=>z (DY f) (λ_=>rfl) rfl;have be:∀i,(upd (upd (upd (lone s) 0 s1) 0 s2) 0 ⟨s.E,KG s.H F.wg F.mu F.fd,false⟩) i=if i=0 then⟨s.E,KG s.H F.wg F.mu F.fd,false⟩ else .quiet:=by
  intro i;by_cases e:i=0;subst e;rw[upd_same];rfl;rw[upd_ne _ _ e,upd_ne _ _ e,upd_ne _ _ e];simp[lone,e]
 have bg:F.IE (Fam.word 0 0) (0:Nat)=F.IE 0 0:=by simp[Fam.word]
 have bi:F.IF M4.zero.num (0:Nat)=F.IF 0 0:=by simp[M4.num,M4.zero]
 have a5:∀i,i<gs.size->(i=0∨gs.size<=i)->i=0:=λi hi ai=>by omega
 have bo:Inv P F ⟨gs.size,t.size,s.E,w⟩ gs w t φ (λi=>if i=0 then ρ else chain (q i)) (λ_=>true) (upd (upd (upd (lone s) 0 s1) 0 s2) 0 ⟨s.E,KG s.H F.wg F.mu F.fd,false⟩) (λb=>((Sh b∨b=F.wg)∨b=F.mu)∨b=F.fd) 0 false 0 0 0 M4.zero 0 f₀:=by
  refine⟨?_,⟨?_,λi hi=>?_⟩,⟨λi hi=>?_,λi hi=>hC.lv.above i hi,λx a b K hb am U i hi ai=>?_,λx a b K hb am U=>?_,λx a K hb=>.inl λi hi ai=>?_,λx g bv bw bx=>.inl (hC.over x g bv bw bx),λx K e=>?_,qH _,λk U=>by omega⟩,λi g' ap=>?_,c3,.inl (.inl (.inr V)),.inl (.inr V),.inr V,aw,a0,a1,a6,by simp[φ],?_,?_,al.h _ _ aj,λi hi hb=>(by cases hb),λk U=>(by omega),?_,V,.refl _,V⟩
  .rw [Kg];refine⟨Y,aq,by omega,by simp,rl _,by simp,⟨.G5 0,V,V,aq,V⟩,λi a3 a4=>?_,λk U=>by omega,by simp,?_,by simp[φ,pend],?_,λk U=>by omega,.nil,λk U=>by cases U⟩
   .have:i≠0:=by omega
    simp[φ,this,PD]
   have:=z cU (λ_=>rfl) rfl;simp only[qM,rE];rw[this];simp[φ,pend];simp only[qP,rr,EA];exact⟨z cL (λ_=>V) V,z cS (λ_=>V) V,trivial,trivial,trivial⟩
  rw[O,O,O,O,O,O,O,O];simp[LN,M4.zero];by_cases e:i=0;simp[φ,e,Ql];simp[φ,e,Ql];by_cases e:i=0;subst e;simp[φ,Gz];exact hC.hears;simp[φ,e,Gz];obtain rfl:=a5 i hi ai;rcases am with rfl | rfl;exact Z _ (by rw[ac];simp) x a K hb;exact Z _ (by rw[ag];simp) x a K hb;rcases am with rfl | rfl;exact Z _ (by rw[ac];simp) x a K hb;exact Z _ (by rw[ag];simp) x a K hb;obtain rfl:=a5 i hi ai;exact Z _ (by rw[aj];simp) x a K hb;have:=lt_of_act? e;have c6:t.size<=x:=K;omega
  .rw [be];by_cases e:i=0;subst e;rw[hC.main] at ap;obtain rfl:=ep ap;simp only[rH,φ];exact .walk V (λh=>by cases h) bb
   .have hm:(i==0)=false:=by rw[beq_eq_false_iff_ne];exact e
    simp only[e,rr,φ];exact .gone hm (hC.lv.old i g' (by omega) ap)
  show w.heap[F.wg]?=_;rw[bg];exact al.h _ _ ac;show w.heap[F.mu]?=_;rw[bi];exact al.h _ _ ag;rw[upd_same];exact Le.refl _
 let⟨n,gs',w',b0,b1,b2,q',b3,g',s',b4,b5,hle,b6,ca,cc⟩:=Inv.run a7 _ _ _ sl _ _ _ _ _ _ _ _ _ _ _ _ _ _ V bo;let⟨n2,ce,w2,ci,t2,ck,co,g2,cp,k1,ct,cw,cy,c0,c4,c5⟩:=a9 g' s' b5 gs' w' b0 b1 q' b3 b4;refine⟨n+n2,ce,w2,ci,t2,ck,co,g2,cp,?_,ct,cw,λb o h=>cy b o (hle b o h),c0.trans b6,ca.trans c4,c5.trans cc⟩;rw[runNT_add,b2];exact k1
end Pal
namespace Pal
open Go Go.Conc
variable {ops:Ao_}{i:Nat}{rest:List Nat}{d:Option Tmp}{f:FuncId}{args:Array Operand}{ats:Array TypeId}{ty:TypeId}{pp:String}{af:Ae_}{g:On_}{vs:Lv_}{p q:Ph}
variable{fn:Func}{w:World}{sm v':Nat}{T:Av_}{ad:Addr}
section
variable {P:Program}{F:Fam}{J:Judge P}{Q:GP}{n:Nat}{L L':Env}{ds:Ld_}{k:Li_}{cs:Lf_}{s s':St}{b:Frame}{main:Bool}
theorem B3(hb:b.roundOf=none)(T:Av_)(todo:Li_):fr b T ds todo=b.at ⟨T,ds⟩ todo:=by simp[fr,Frame.at,hb]
theorem L6(hb:b.roundOf=none)(T:Av_)(todo:Li_):Fa b T ds todo={b.at ⟨T,ds⟩ todo with mode:=.returning}:=by simp[Fa,Frame.at,hb]
theorem Fw(T:Av_)(ds:Ld_)(x:Operand):(⟨T,ds⟩:Act).eval x=BM T x:=by cases x<;>rfl
theorem EU(T:Av_)(ds:Ld_)(d:Option Tmp)(v:Value):(⟨T,ds⟩:Act).put d v=⟨Dl T d v,ds⟩:=by cases d<;>rfl
def JO(J:Judge P)(Q:GP)(b:Frame)(n:Nat)(L:Env)(ds:Ld_)(cs:Lf_)(s:St):Prop:=
 ∀T,Has n L T->∀todo,J.ok Q (G (Fa b T ds todo) cs) s
theorem JL.out(K:b.roundOf=none)(h:JO J Q b n L ds cs s):JL J Q b n L ds [] cs s:=λT O=>
 Judge.Eh V (λw=>by simp[G,stepG,stepG.exec,fr,Fa,K]) (h T O [])
theorem Ik(K:b.roundOf=none)(h:JO J Q b n L ds cs s):JL J Q b n L ds (.code .ret::k) cs s:=λT O=>
 Judge.Eh V (λw=>by simp[G,stepG,stepG.exec,fr,Fa,K]) (h T O (.code .ret::k))
theorem JO.leave{c:Frame}{v:Value}(O:b.kind=.normal)(K:BK P b.fn L n s v)(h:J.ok Q (G (c.finish v) cs) s):JO J Q b n L [] (c::cs) s:=λT U todo=>by
 obtain⟨fn,Y,K⟩:=K
 exact Judge.leave O Y (K T U) h
theorem JO.leaveD{c:Frame}(O:b.kind=.deferred)(U:P.funcs[b.fn]?=some fn)(K:fn.results=#[])(Y:c.mode=.returning∨c.mode=.panicking [goexitEntry])(h:J.ok Q (G c cs) s):JO J Q b n L [] (c::cs) s:=λT ac todo=>by
 refine Judge.Eh rfl (λw=>?_) h
 have Z:=results_none K T P w
 have e2:=λ(x:Array Event)=>events_results_none (P:=P) (w:=w) K T x
 rcases Y with e | e<;>simp[G,stepG,unwind,Fa,U,Z,e2,doReturn,O,GStep.after,seen_none,e,goexitEntry]
theorem JO.enter{f:FuncId}{c:Code}{vs:Lv_}(O:b.roundOf=none)(Y:P.funcs[f]?=some fn)(Z:(fn.name== "runtime.NumGoroutine")=false)(hb:fn.body=some c)(aj:vs.length<=fn.ntmps)
  (h:∀T,Has n L T->∀todo,JL J Q (baseD f) fn.ntmps (G0 0 vs) [] [.code c] (Fa b T ds todo::cs) s):JO J Q b n L (dcall f vs.toArray::ds) cs s:=λT ac todo=>by
 refine Judge.Eh rfl (λw=>?_) (h T ac todo (vs.toArray++Array.replicate (fn.ntmps - vs.length) undef) ⟨by simp;omega,λt v ag=>?_⟩)
 .rw [L6 O,stepG_unwind_enter (a:=⟨T,dcall f vs.toArray::ds⟩) rfl Y Z hb,L6 O]
  rw[B3 (b:=baseD f) rfl];simp
 .let⟨_,K⟩:=Kx ag;have ai:t<vs.length:=by
   rcases f7 t vs.length with U | U;exact U;simp at K;have:=(dY.1 K).1;omega
  rw[f5,rQ (by simpa using ai)];simp at K;simp[K]
theorem JL.defer{ops:Ao_}{i:Nat}{rest:List Nat}{d:Option Tmp}{f:FuncId}{args:Array Operand}{ats:Array TypeId}{ty:TypeId}{p:String}{af:Ae_}{g:On_}{vs:Lv_}
  (U:ops[i]?=some ⟨d,.defer ⟨.value (.func f),args,ats⟩,ty,p,af,g⟩) (Y:b.roundOf=none) (hw:A3 L ops ⟨d,.defer ⟨.value (.func f),args,ats⟩,ty,p,af,g⟩=some true) (K:((b.kind != .early)&&BA n d)=true)
  (Z:evs L args.toList=some vs) (h:JL J Q b n (AE L d undef) (dcall f vs.toArray::ds) (.inRegion ops rest::k) cs s):
  JL J Q b n L ds (.inRegion ops (i::rest)::k) cs s:=λT O=>by
 simp only[eM] at K
 have ac:args.map (BM T)=vs.toArray:=by
  rw[← GI O.GL Z];apply rW;simp
 refine Judge.oper U (Cr O hw) (by simpa using K.1) (.inl Y) ?_;have hd:execOp (BM T) ⟨d,.defer ⟨.value (.func f),args,ats⟩,ty,p,af,g⟩=.pure (.defer (dcall f vs.toArray)):=by
  simp only[execOp,resolve,bind,Sem.bind,Deferred.ofValue,BM,pure,dcall];rw[ac];simp
 rw[hd];exact h _ (O.put K.2 undef)
def Mi:Ph->Bool
 | .HX _ | .Gy _ | .HB | .Gw _ _ | .Iq | .Gp | .G4 | .lk _ _=>false
 | _=>true
theorem Jq{p:Ph}{g:Goroutine}(K:Mi p=true)(Y:g.status=.running)(Z:g.offers=none)(O:if Fam.Dr p=true then s=.quiet else s.q=false)(ac:p=.F9->mayWake P g=true)
  (h:∀v wt sm v' wt' sm' es U,F.act p v wt sm=some ((v',wt',sm'),es,U)->∃g',(∀w,F.WG w v wt sm->stepG P (Fam.Dd p) g w=.go g' (F.put w v' wt' sm') es)/\g'.status=.running/\NO P (Stop P F) (Fam.Dd p) U g' (Fam.Kl p s)):Stop P F p g s:=
 HG.stop {
  run:=Y
  offers:=Z
  quiet:=λe=>by rw[d0 e] at O;exact O
  live:=λe=>by rw[d7 (by rw[e];simp)] at O;exact O
  act:=h
  JE:=λe=>by rcases e with e | ⟨k,b,e⟩;exact ac e;subst e;cases K
  FU:=λe=>by subst e;cases K
  go:=λj e=>by subst e;cases K
  lk:=λk l e=>by subst e;cases K
  C9:=λk sv e=>by subst e;cases K
  store:=λk e=>by subst e;cases K
  fin:=λe=>by subst e;cases K}
theorem L5{v wt:Nat}(h:F.WG w v wt sm):F.put w v wt sm=w:=by
 unfold Fam.put;have:w.heap.setIfInBounds F.wg (F.IE (Fam.word v wt) sm)=w.heap:=by
  apply rC;intro i;by_cases e:F.wg=i
  .subst e;unfold Fam.WG at h;have O:F.wg<w.heap.size:=by
    rcases f7 F.wg w.heap.size with K | K;exact K;simp[qQ K] at h
   rw[qJ O,h]
  .rw [f6 e]
 rw[this]
theorem Ju{v wt:Nat}(h:F.WG w v wt sm):w.cell? F.sA=some (.int .u64 (Fam.word v wt))/\w.cell? F.mA=some (.int .u32 sm)/\w.frozen? F.sA=false/\w.frozen? F.mA=false:=by
 unfold Fam.WG Fam.IE at h;refine⟨?_,?_,?_,?_⟩;simp[World.cell?,Fam.sA,h];simp[World.cell?,Fam.mA,h];simp[World.frozen?,Fam.sA,h];simp[World.frozen?,Fam.mA,h]
theorem Oh{v wt wt':Nat}(h:F.WG w v wt sm):w.setCell F.sA (.int .u64 (Fam.word v' wt'))=F.put w v' wt' sm:=by
 unfold Fam.put World.setCell;congr 1;apply rC;intro i;unfold Fam.WG Fam.IE at h;rw[se];have O:F.wg<w.heap.size:=by
  rcases f7 F.wg w.heap.size with K | K;exact K;simp[qQ K] at h
 by_cases e:F.wg=i;subst e;rw[qJ O,h];simp[Fam.sA,Fam.IE];rw[f6 e];simp[Fam.sA,e]
theorem Tx{v wt sm':Nat}(h:F.WG w v wt sm):w.setCell F.mA (.int .u32 sm')=F.put w v wt sm':=by
 unfold Fam.put World.setCell;congr 1;apply rC;intro i;unfold Fam.WG Fam.IE at h;rw[se];have O:F.wg<w.heap.size:=by
  rcases f7 F.wg w.heap.size with K | K;exact K;simp[qQ K] at h
 by_cases e:F.wg=i;subst e;rw[qJ O,h];simp[Fam.mA,Fam.IE];rw[f6 e];simp[Fam.mA,e]
structure BX (P:Program) (f:FuncId) (e:Av_->Sem Value):Prop where
 h:∃fn,P.funcs[f]?=some fn/\(fn.name== "runtime.NumGoroutine")=false/\fn.body.isNone=true/\Extern.findNext fn=none/\Extern.find fn=some e
theorem KP(K:Has n L T)(O:evs L args.toList=some vs):args.map (⟨T,ds⟩:Act).eval=vs.toArray:=by
 have:(⟨T,ds⟩:Act).eval=BM T:=funext λx=>Fw T ds x;rw[this,← GI K.GL O];apply rW;simp
theorem M6{m:Mark}(Z:Mi p=true)(ac:if Fam.Dr p=true then s=.quiet else s.q=false)(ag:p≠ .F9)(ai:∀v wt sm,F.act p v wt sm=some ((v,wt,sm),#[Fam.Dg m],.ph q))(aj:Fam.Kl p s=s)
  (al:ops[i]?=some ⟨d,.call ⟨.value (.func f),args,ats⟩,ty,pp,af,g⟩) (O:b.roundOf=none) (hw:A3 L ops ⟨d,.call ⟨.value (.func f),args,ats⟩,ty,pp,af,g⟩=some true) (K:((b.kind != .early)&&BA n d)=true)
  (hm:∀x,m≠ .extern x) (he:BX P f (λ_=>do mark m;pure Extern.Race.none_))
  (h:JL (Bd P (Fam.Dd p)) (Stop P F q) b n (AE L d (.tuple #[])) ds (.inRegion ops rest::k) cs s):
  JL (Bd P (Fam.Dd p)) (Stop P F p) b n L ds (.inRegion ops (i::rest)::k) cs s:=λT U=>by
 simp only[eM] at K
 obtain⟨fn,am,ap,hb,aq,he⟩:=he.h
 refine(Bd P _).stop (Jq Z rfl rfl ac (λe=>absurd e ag) λv wt sm v' wt' sm' es a0 Y=>?_)
 rw[ai] at Y;cases Y
 refine⟨_,λw aw=>?_,rfl,by rw[aj];exact h _ (U.put K.2 _)⟩
 rw[B3 O,B3 O,stepG_mark0 (a:=⟨T,ds⟩) m hm al (Cr U hw) (by simpa using K.1) rfl am ap hb aq he,L5 aw,EU]
 rfl
theorem Q6{mk:Addr->Mark}(Z:Mi p=true)(ac:if Fam.Dr p=true then s=.quiet else s.q=false)(ag:p≠ .F9)(ai:∀v wt sm,F.act p v wt sm=some ((v,wt,sm),#[Fam.Dg (mk ad)],.ph q))
  (aj:ops[i]?=some ⟨d,.call ⟨.value (.func f),args,ats⟩,ty,pp,af,g⟩) (U:b.roundOf=none) (hw:A3 L ops ⟨d,.call ⟨.value (.func f),args,ats⟩,ty,pp,af,g⟩=some true) (K:((b.kind != .early)&&BA n d)=true)
  (hm:∀ad x,mk ad≠ .extern x) (he:BX P f (Extern.Race.marked mk)) (al:evs L args.toList=some vs) (am:vs[0]?=some (.pointer (some ad)))
  (h:JL (Bd P (Fam.Dd p)) (Stop P F q) b n (AE L d (.tuple #[])) ds (.inRegion ops rest::k) cs (Fam.Kl p s)):
  JL (Bd P (Fam.Dd p)) (Stop P F p) b n L ds (.inRegion ops (i::rest)::k) cs s:=λT O=>by
 simp only[eM] at K
 obtain⟨fn,ap,aq,hb,aw,he⟩:=he.h
 refine(Bd P _).stop (Jq Z rfl rfl ac (λe=>absurd e ag) λv wt sm v' wt' sm' es a1 Y=>?_)
 rw[ai] at Y;cases Y
 refine⟨_,λw a0=>?_,rfl,h _ (O.put K.2 _)⟩
 rw[B3 U,B3 U,stepG_markAt (a:=⟨T,ds⟩) mk hm aj (Cr O hw) (by simpa using K.1) rfl ap aq hb aw he (ad:=ad) (by rw[KP O al];simpa using am),L5 a0,EU]
 rfl
end
variable {E:LH}{S:List Seg}{j l:Nat}{o':Obj}
section
variable {H:LH}{o:Obj}
theorem Ll(al:Au E H S)(Y:S[j]?=some [(l,o)])(o':Obj):(Ak E H S).upd l o'=Ak E H (S.set j [(l,o')])/\Au E H (S.set j [(l,o')]):=by
 let⟨K,Z⟩:=Hu al Y;have U:=Nd.iff.1 Z;have ac:E l=none:=(U.2 (l,o) (by simp)).1;have am:H l=none:=(U.2 (l,o) (by simp)).2;have ag:Nd E H (S.set j []).flatten:=Lg.Nd.left Z;have ap:∀q∈(S.set j []).flatten,q.1≠l:=λq O e=>by
  have:=U.1;rw[ru,rS] at this;exact this.2.2 q.1 (tp O) l (by simp) e
 have ai:By (S.set j []).flatten H l=none:=by
  have key:∀(B:List (Nat×Obj)),(∀q∈B,q.1≠l)->By B H l=none:=by
   intro B
   induction B with
   | nil=>intro _;exact am
   | cons q B aq=>
    intro O;obtain⟨c,aw⟩:=q;have aj:l≠c:=λe=>O (c,aw) (by simp) e.symm;have K:=aq λq' a0=>O q' (f9 _ a0);simp only[By]
    first
    | rw[d7 aj];exact K
    | rw[d7 (q2 aj)];exact K
  exact key _ ap
 have f1:=KD (E:=E) (H:=H) (B:=(S.set j []).flatten) (r:=l) ac ai o ag;have f2:=KD (E:=E) (H:=H) (B:=(S.set j []).flatten) (r:=l) ac ai o' ag;let⟨g1,g2⟩:=Jw (seg:=[(l,o)]) Y f2.1;refine⟨?_,g2⟩;rw[K,← g1,← f1.2,← f2.2];unfold St.upd;congr 1;funext x;by_cases a1:x=l<;>simp[a1]
end
variable {P:Program}{J:Judge P}{Q:Gs_}{b:Frame}{L:Env}{ds:Ld_}{k:Li_}{cs:Lf_}
variable{r:Loop}{caps:Lv_}
section
variable {n:Nat}{H:LH}
theorem Judge.FU{α:Type}{g:Goroutine}{g':α->Goroutine}{s:St}(x:Sem α)(ac:s.q=false)(ag:g.status=.running)
  (ai:∀w a w',x.run P w=.ok a w'->∃es,stepG P J.main g w=.go (g' a) w' es/\∀e∈es,e∈x.events P w #[])
  (h:lp P x s (λa s'=>J.ok Q (g' a) s') (λ_ _=>False)):J.ok Q g s:=by
 refine J.step ⟨ag,λw f=>?_,λe=>by subst e;cases ac⟩;let⟨s',O,U,Y,K⟩:=Ot _ h f;cases Z:x.run P w with
 | ok a w'=>
  rw[Z] at O U Y K;simp only[LC] at O U Y;let⟨es,he,hm⟩:=ai w a w' Z;exact⟨g' a,s',w',es,he,K,O,U,λe aj=>Y e (hm e aj)⟩
 | halt a w'=>rw[Z] at K;exact K.elim
theorem Og{s:St}{K:Loop->St->Prop}{X:Halt->St->Prop}(h:s.get l=some (.loop r))(k:K r s):lp P (Instr.getLoop l) s K X:=by
 unfold Instr.getLoop getObj;simp only[bind,Sem.bind,lp];exact⟨_,h,V,k⟩
theorem Yc(j:Nat)(K:Au E H S)(O:S[j]?=some [(l,.loop r)])(U:(r.state== .busy)=false)(Y:r.pending=none)
  (h:Au E H (S.set j [(l,.loop {r with state:=.exhausted})])->J.ok Q (G (fr b T ds k) cs) (Ak E H (S.set j [(l,.loop {r with state:=.exhausted})]))):
  J.ok Q (G (fr b T ds (.endRangeFunc l::k)) cs) (Ak E H S):=by
 let⟨Z,ac⟩:=Ll K O (.loop {r with state:=.exhausted});have ag:lp P (Instr.endLoop l) (Ak E H S) (λa s'=>a=none/\s'=Ak E H (S.set j [(l,.loop {r with state:=.exhausted})])) (λ_ _=>False):=by
  unfold Instr.endLoop;refine AA _ _ (Og (Ej (i:=0) K O V) ?_);rw[d7 (by rw[U];simp)];have ai:(Ak E H S).H l=some (.loop r):=by
   have:=Ej (i:=0) K O V;have aj:E l=none:=Pn K O;unfold St.get at this;rw[show(Ak E H S).E l=none from aj] at this;exact this
  simp only[bind,Sem.bind,lp,setObj,pure];refine⟨⟨_,ai,V⟩,V,Y,?_⟩;exact Z
 refine Judge.FU (g':=λal=>G (fr b T ds ((al.map Item.code).toList++k)) cs) (Instr.endLoop l) V V (λw a w' am=>?_) (EP _ ag (λa s' ⟨ap,aq⟩=>by subst ap aq;exact h ac) (λ_ _ h=>h));refine⟨seen P b.fn ((Instr.endLoop l).events P w #[])++ #[],?_,λe he=>?_⟩;simp[G,stepG,stepG.exec,fr,am,GStep.after];exact mem_seen (by simpa using he)
def WV(l:Nat)(f:FuncId):Frame:={(default:Frame) with fn:=f,kind:=.normal,roundOf:=some l}
theorem HI.yield{t:Tmp}{v:Value}{B:Seg}{R:Value->LH->Seg->Prop}{i:Nat}(K:B[i]?=some (l,.loop r))(O:r.params=#[t])
  (h:∀(Q:Gs_) (U:Frame) (cs:Lf_) (H:LH),Au E H [B]->(∀w E' S' B',Le E E'->S'.flatten=B'->R w E' B'->Au E' H S'->J.ok Q (G (U.finish w) cs) (Ak E' H S'))->
   J.ok Q (G (fr (WV l r.fn) (r.tmps.setIfInBounds t v) [] [.code r.assign,.beginRound,.code r.body]) (U::cs)) (Ak E H [B])):
  HI J (.func (.yield l) #[] #[]) [v] E B R:=λH Y Q c cs Z=>by
 have ac:(mk E H B).get l=some (.loop r):=QV Y K
 simp only[Deferred.ofValue,bind,Sem.bind,pure,invoke]
 unfold Instr.yield
 refine AA _ _ (Og ac ?_)
 have ag:¬((#[]:Av_)++ [v].toArray).size≠r.params.size:=by rw[O];simp
 rw[d7 ag];have e2:((r.params.zip ((#[]:Av_)++ [v].toArray)).foldl (λtmps (t,a)=>tmps.setIfInBounds t a) r.tmps)=r.tmps.setIfInBounds t v:=by rw[O];simp[Array.zip,Array.zipWith,Array.zipWithMAux]
 simp only[lp,pure];have ai:mk E H B=Ak E H [B]:=by unfold Ak;simp
 rw[e2,ai];exact h Q c cs H (by unfold Au;simpa using Y) λw E' S' B' hle K aj al=>by
  subst K;exact Z w _ ⟨E',S'.flatten,hle,aj,al,rfl⟩
theorem JL.beginRound(j:Nat)(U:b.roundOf=some l)(Y:b.kind=.normal)(K:Au E H S)(O:S[j]?=some [(l,.loop r)])(Z:r.state=.ready)
  (h:Au E H (S.set j [(l,.loop {r with state:=.busy})])->JL J Q b n L ds k cs (Ak E H (S.set j [(l,.loop {r with state:=.busy})]))):
  JL J Q b n L ds (.beginRound::k) cs (Ak E H S):=λT ac=>by
 let⟨ag,ai⟩:=Ll K O (.loop {r with state:=.busy})
 have aj:lp P (Instr.beginRound l) (Ak E H S) (λ_ s'=>s'=Ak E H (S.set j [(l,.loop {r with state:=.busy})])) (λ_ _=>False):=by
  unfold Instr.beginRound;refine AA _ _ (Og (Ej (i:=0) K O rfl) ?_);have al:(Ak E H S).H l=some (.loop r):=by
   have:=Ej (i:=0) K O rfl;have am:E l=none:=Pn K O;unfold St.get at this;rw[show(Ak E H S).E l=none from am] at this;exact this
  simp only[bind,Sem.bind,lp,setObj,pure,Z];exact⟨⟨_,al,rfl⟩,rfl,ag⟩
 refine Judge.FU (g':=λ_=>G (fr b T ds k) cs) (Instr.beginRound l) rfl rfl (λw a w' ap=>?_) (EP _ aj (λa s' aq=>by subst aq;exact h ai T ac) (λ_ _ h=>h));refine⟨seen P b.fn ((Instr.beginRound l).events P w #[])++ #[],?_,λe he=>?_⟩;simp[G,stepG,stepG.exec,fr,stepG.apply,U,Y,ap,GStep.after,Frame.finish];exact mem_seen (by simpa using he)
theorem KS{o:Obj}{seg:Seg}(K:Au E H S)(O:S[j]?=some ((l,o)::seg)):(Ak E H S).H l=some o:=by
 have:=Ej (i:=0) K O V;have U:E l=none:=Pn K O;unfold St.get at this;rw[show(Ak E H S).E l=none from U] at this;exact this
theorem JL.endRound{c:Frame}(j:Nat)(U:b.roundOf=some l)(Y:b.kind=.normal)(K:Au E H S)(O:S[j]?=some [(l,.loop r)])
  (h:Au E H (S.set j [(l,.loop {r with state:=.ready,pending:=none})])->J.ok Q (G (c.finish (.bool true)) cs) (Ak E H (S.set j [(l,.loop {r with state:=.ready,pending:=none})]))):
  JL J Q b n L [] [] (c::cs) (Ak E H S):=λT am=>by
 let⟨Z,ac⟩:=Ll K O (.loop {r with state:=.ready,pending:=none})
 have ag:lp P (Instr.endRound l none) (Ak E H S) (λa s'=>a=.bool true/\s'=Ak E H (S.set j [(l,.loop {r with state:=.ready,pending:=none})])) (λ_ _=>False):=by
  unfold Instr.endRound;refine AA _ _ (Og (Ej (i:=0) K O rfl) ?_);simp only[bind,Sem.bind,lp,setObj,pure];exact⟨⟨_,KS K O,rfl⟩,rfl,rfl,Z⟩
 refine Judge.FU (g':=λv=>G (c.finish v) cs) (Instr.endRound l none) rfl rfl (λw a w' ai=>?_) (EP _ ag (λa s' ⟨aj,al⟩=>by subst aj al;exact h ac) (λ_ _ h=>h));refine⟨seen P b.fn ((Instr.endRound l none).events P w #[])++ #[],?_,λe he=>?_⟩;simp[G,stepG,stepG.exec,fr,U,Y,ai,GStep.after,doReturn];exact mem_seen (by simpa using he)
theorem JL.rangeFunc{x:Operand}{params:Array Tmp}{as O:Code}{f:FuncId}(am:b.roundOf=none)(ap:b.kind≠ .early)(ag:ev L x=some (.func (.func f) #[] caps.toArray))(hb:Ez P f=true)(aq:Au E H S)
  (h:∀K l T,Has n L T->Au E H (S++ [[(K,.deferred (some []))]]++ [[(l,.loop ⟨.ready,none,b.fn,T,params,as,O,K⟩)]])->
   J.ok Q (G (Frame.enter P f (.func (.yield l) #[] #[]::caps).toArray .normal) (fr b T (⟨.collected K,#[]⟩::ds) (.inRangeFunc l::k)::cs)) (Ak E H (S++ [[(K,.deferred (some []))]]++ [[(l,.loop ⟨.ready,none,b.fn,T,params,as,O,K⟩)]]))):
  JL J Q b n L ds (.code (.rangeFunc x params as O)::k) cs (Ak E H S):=λT ai=>by
 have aw:lp P (Instr.enterLoop b.fn T params as O b.roundOf) (Ak E H S) (λq s'=>∃K,q.2=[⟨.collected K,#[]⟩]/\Au E H (S++ [[(K,.deferred (some []))]]++ [[(q.1,.loop ⟨.ready,none,b.fn,T,params,as,O,K⟩)]])/\s'=Ak E H (S++ [[(K,.deferred (some []))]]++ [[(q.1,.loop ⟨.ready,none,b.fn,T,params,as,O,K⟩)]])) (λ_ _=>False):=by
  unfold Instr.enterLoop;rw[am];simp only[newObj,bind,Sem.bind,lp,pure];refine⟨rfl,λK Y Z=>?_⟩;let⟨ac,a0⟩:=KD Y Z (.deferred (some [])) aq;let⟨p1,p2⟩:=FL ac;have a1:(Ak E H S).upd K (.deferred (some []))=Ak E H (S++ [[(K,.deferred (some []))]]):=by rw[← p1,← a0];rfl
  rw[a1];refine⟨rfl,λl a2 a3=>?_⟩;let⟨a4,a5⟩:=KD a2 a3 (.loop ⟨.ready,none,b.fn,T,params,as,O,K⟩) p2;let⟨p3,p4⟩:=FL a4;exact⟨K,rfl,p4,by rw[← p3,← a5];rfl⟩
 refine Judge.FU (g':=λq=>G (Frame.enter P f (.func (.yield q.1) #[] #[]::caps).toArray .normal) (fr b T (q.2++ds) (.inRangeFunc q.1::k)::cs)) (Instr.enterLoop b.fn T params as O b.roundOf) rfl rfl (λw a w' a6=>?_) (EP _ aw (λa s' ⟨K,Y,Z,ac⟩=>by subst ac;simp only[Y];exact h K a.1 T ai Z) (λ_ _ h=>h));obtain⟨l,mk⟩:=a;have a7:BM T x=.func (.func f) #[] caps.toArray:=ai.ev ag;obtain⟨fn,U,a8,aj⟩:∃fn,P.funcs[f]?=some fn/\(fn.name== "runtime.NumGoroutine")=false/\fn.body.isNone=false:=by
  unfold Ez at hb;cases U:P.funcs[f]? with
  | none=>rw[U] at hb;cases hb
  | some fn=>
   rw[U] at hb;simp only[eM,tf] at hb;exact⟨fn,rfl,hb.1,by cases ag:fn.body<;>simp_all⟩
 refine⟨seen P b.fn ((Instr.enterLoop b.fn T params as O b.roundOf).events P w #[])++ #[],?_,λe he=>?_⟩
 .have al:=Uk (b:=b) (ds:=mk++ds) T (.inRangeFunc l::k);simp only[fr] at al;have a9:¬fn.name= "runtime.NumGoroutine" :=by simpa using a8
  have bb:¬fn.body=none:=by intro e;rw[e] at aj;cases aj
  have be:BM T (.const (.func (.yield l) #[] #[]))=.func (.yield l) #[] #[]:=rfl;simp[G,stepG,stepG.exec,fr,a6,GStep.after,stepG.apply,resolve,al,a7,Deferred.ofValue,invoke,callFunc,U,a9,bb,ap,be,seen_none]
 .exact mem_seen (by simpa using he)
theorem JO.collected{K:Nat}(j:Nat)(am:b.roundOf=none)(O:Au E H S)(U:S[j]?=some [(K,.deferred (some []))])
  (h:Au E H (S.set j [(K,.deferred none)])->JO J Q b n L ds cs (Ak E H (S.set j [(K,.deferred none)]))):JO J Q b n L (⟨.collected K,#[]⟩::ds) cs (Ak E H S):=λT Y todo=>by
 let⟨Z,ac⟩:=Ll O U (.deferred none)
 have ag:lp P (Instr.takeDeferred K) (Ak E H S) (λa s'=>a=[]/\s'=Ak E H (S.set j [(K,.deferred none)])) (λ_ _=>False):=by
  unfold Instr.takeDeferred getObj;simp only[bind,Sem.bind,lp,setObj,pure];exact⟨_,Ej (i:=0) O U rfl,rfl,⟨_,KS O U,rfl⟩,rfl,rfl,Z⟩
 refine Judge.FU (g':=λl=>G (Fa b T (l++ds) todo) cs) (Instr.takeDeferred K) rfl rfl (λw a w' ai=>?_) (EP _ ag (λa s' ⟨aj,al⟩=>by subst aj al;exact h ac T Y todo) (λ_ _ h=>h));refine⟨seen P b.fn ((Instr.takeDeferred K).events P w #[])++ #[],?_,λe he=>?_⟩;simp[G,stepG,unwind,Fa,ai,GStep.after];exact mem_seen (by simpa using he)
def Lz(f:FuncId)(args caps:Av_):Deferred:={target:=.fn (.func f) caps,args:=args}
theorem JO.R0{f:FuncId}{c:Code}{vs:Lv_}(al:b.roundOf=none)(O:P.funcs[f]?=some fn)(Y:(fn.name== "runtime.NumGoroutine")=false)(hb:fn.body=some c)(Z:(vs++caps).length<=fn.ntmps){s:St}
  (h:∀T,Has n L T->∀todo,JL J Q (baseD f) fn.ntmps (G0 0 (vs++caps)) [] [.code c] (Fa b T ds todo::cs) s):JO J Q b n L (Lz f vs.toArray caps.toArray::ds) cs s:=λT ac todo=>by
 have ag:¬fn.name= "runtime.NumGoroutine" :=by simpa using Y
 refine Judge.Eh rfl (λw=>?_) (h T ac todo ((vs++caps).toArray++Array.replicate (fn.ntmps - (vs++caps).length) undef) ⟨by simp;simp at Z;omega,λt v ai=>?_⟩);rw[B3 (b:=baseD f) rfl];have:=enter_atD (P:=P) (vs++caps).toArray O hb;simp only[sE] at this;rw[← this];simp[G,stepG,unwind,callDeferred,Fa,Lz,invoke,callFunc,O,ag,hb,GStep.after,seen_none]
 .let⟨_,K⟩:=Kx ai;have aj:t<(vs++caps).length:=by
   rcases f7 t (vs++caps).length with U | U;exact U;simp only[sC] at K;have:=(dY.1 K).1;omega
  rw[f5,rQ (by simpa using aj)];simp only[sC] at K;rw[q6,K];rfl
theorem YJ{ops:Ao_}{i:Nat}{rest:List Nat}{d:Option Tmp}{x:Operand}{f:FuncId}{args:Array Operand}{ats:Array TypeId}{ty:TypeId}{p:String}{af:Ae_}{g:On_}{vs:Lv_}{s:St}
  (U:ops[i]?=some ⟨d,.defer ⟨.value x,args,ats⟩,ty,p,af,g⟩) (Y:b.roundOf=none) (hw:A3 L ops ⟨d,.defer ⟨.value x,args,ats⟩,ty,p,af,g⟩=some true) (O:((b.kind != .early)&&BA n d)=true)
  (Z:ev L x=some (.func (.func f) #[] caps.toArray)) (ac:evs L args.toList=some vs) (h:JL J Q b n (AE L d undef) (Lz f vs.toArray caps.toArray::ds) (.inRegion ops rest::k) cs s):
  JL J Q b n L ds (.inRegion ops (i::rest)::k) cs s:=λT K=>by
 simp only[eM] at O
 have ag:args.map (BM T)=vs.toArray:=by
  rw[← GI K.GL ac];apply rW;simp
 refine Judge.oper U (Cr K hw) (by simpa using O.1) (.inl Y) ?_;have hd:execOp (BM T) ⟨d,.defer ⟨.value x,args,ats⟩,ty,p,af,g⟩=.pure (.defer (Lz f vs.toArray caps.toArray)):=by
  simp only[execOp,resolve,bind,Sem.bind,Deferred.ofValue,K.ev Z,pure,Lz];rw[ag];simp
 rw[hd];exact h _ (K.put O.2 undef)
end
variable {s:St}{ρ:Operand->Value}{x y z:Operand}{t u e:TypeId}{a:Option Addr}{c:Nat}
section
variable {p:String}
theorem Oo(K:P.underlying t=some (.slice e))(O:ρ x=.slice a l c)(U:ρ (.const (.slice none 0 0))=.slice none 0 0):Yl P ⟨d,.binOp .eql t x (.const (.slice none 0 0)) u,ty,p,af,g⟩ ρ s (.bool a.isNone):=by
 refine Gi (sm:=do eqGuard .eql t x (.const (.slice none 0 0)) (ρ x) (ρ (.const (.slice none 0 0)));binOp .eql t (ρ x) (ρ (.const (.slice none 0 0)))) V ?_
 rw[O,U];have Y:lp P (eqGuard .eql t x (.const (.slice none 0 0)) (.slice a l c) (.slice none 0 0)) s (λ_ s'=>s'=s) (λ_ _=>False):=by
  simp[eqGuard,lp,pure]
 refine AA _ _ (EP _ Y ?_ (λ_ _ h=>h));rintro _ _ rfl;have hb:binOp .eql t (.slice a l c) (.slice none 0 0)=(do pure (.bool (← Op.equal t (.slice a l c) (.slice none 0 0)))):=V
 rw[hb];refine AA (x:=Op.equal t (.slice a l c) (.slice none 0 0)) _ ?_;unfold Op.equal Op.maxDepth Op.equalIn;refine AA _ _ (CM K ?_);cases a<;>exact⟨rfl,rfl⟩
end
section
variable {n:Nat}
end
variable {fuel:Nat}{listed:Array Bool}
variable {v:Value}
section
variable {n m:Nat}{H:LH}
variable {p:String}
end
def JF(P:Program)(d:Nat):GP:=λg _=>∃q,QuitsD P q d g
def MA(P:Program):Frame:={(default:Frame) with fn:=P.funcs.size,defers:=[],mode:=.panicking [goexitEntry]}
section
variable {P:Program}{F:Fam}{J:Judge P}{Q:GP}{n:Nat}{L L':Env}{ds:Ld_}{k:Li_}{cs:Lf_}{s s':St}{b:Frame}{main:Bool}
theorem Lv.quits{d:Nat}:∀{m:Nat}{g:Goroutine},Lv P (JF P d) m g->∃q,QuitsD P q d g
 | 0,_,h=>h
 | m+1,_,h=>by
  rcases h with h | ⟨K,g',O,h⟩;exact h;obtain⟨q,U⟩:=h.quits;exact⟨q+1,.ctl K O U⟩
theorem QJ{d:Nat}{g:Goroutine}(h:(IY P).ok (JF P d) g .quiet):∃q,QuitsD P q d g:=by
 let⟨m,hm⟩:=h V;exact hm.quits
theorem YB:(IY P).ok (JF P 0) (G (MA P) []) .quiet:=by
 refine Judge.Eh (g':={frame:=MA P,callers:=[],status:=.finished,dying:=none}) V (λw=>?_) ((IY P).stop ⟨0,V,V⟩);have K:(default:Frame).todo=[]:=V;have O:∀(m:FrameMode),Frame.catches P {fn:=P.funcs.size,tmps:=(default:Frame).tmps,todo:=[],defers:=[],mode:=m,kind:=(default:Frame).kind,roundOf:=(default:Frame).roundOf}=false:=λm=>by simp[Frame.catches]
 simp[G,stepG,unwind,MA,goexitEntry,K,O]
theorem UO{ops:Ao_}{i:Nat}{rest:List Nat}{d:Option Tmp}{f:FuncId}{args:Array Operand}{ats:Array TypeId}{ty:TypeId}{pp:String}{af:Ae_}{g:On_}{e:Av_->Sem Value}
  (K:ops[i]?=some ⟨d,.call ⟨.value (.func f),args,ats⟩,ty,pp,af,g⟩) (he:BX P f e):mayWake P (G (fr b T ds (.inRegion ops (i::rest)::k)) cs)=true:=by
 obtain⟨fn,O,_,hb,_⟩:=he.h;have U:fn.body.isSome=false:=by cases h:fn.body<;>simp_all
 simp[mayWake,G,fr,K,Frame.eval,O,U]
theorem aB{v wt:Nat}(K:1<=v)(O:v<2147483648)(U:wt<=1):IntKind.u64.wrap (Fam.word v wt+18446744069414584320)=Fam.word (v - 1) wt:=by
 simp only[Fam.word,Fam.KK,IntKind.wrap,IntKind.bits,IntKind.signed];simp;omega
theorem ZN{v:Nat}(h:v<2147483647):IntKind.u64.wrap (Fam.word v 0+4294967296)=Fam.word (v+1) 0:=by
 simp only[Fam.word,Fam.KK,IntKind.wrap,IntKind.bits,IntKind.signed];simp;omega
theorem word_inj{v wt:Nat}(h:Fam.word v wt=Fam.word v' wt):v=v':=by
 simp only[Fam.word,Fam.KK] at h;omega
theorem b8(ag:ops[i]?=some ⟨d,.call ⟨.value (.func f),#[x,y],ats⟩,ty,pp,af,g⟩)(Z:b.roundOf=none)(hw:A3 L ops ⟨d,.call ⟨.value (.func f),#[x,y],ats⟩,ty,pp,af,g⟩=some true)(O:((b.kind != .early)&&BA n d)=true)
  (he:BX P f (Extern.Atomic.update (Op.intArith .add) .u64 true)) (ai:ev L x=some (.pointer (some F.sA))) (aj:ev L y=some (.int .u64 18446744069414584320))
  (al:JL (Bd P false) (Stop P F .Hz) b n (AE L d (.int .u64 (Fam.word 0 1))) ds (.inRegion ops rest::k) cs .quiet)
  (am:∀v wt:Nat,v<2147483647->wt<=1->¬(v=0/\wt=1)->JL (IY P) (JF P 1) b n (AE L d (.int .u64 (Fam.word v wt))) ds (.inRegion ops rest::k) cs .quiet):
  JL (Bd P false) (Stop P F .H4) b n L ds (.inRegion ops (i::rest)::k) cs .quiet:=λT K=>by
 simp only[eM] at O
 obtain⟨fn,ap,aq,hb,aw,he⟩:=he.h
 refine(Bd P _).stop (Jq rfl rfl rfl rfl (by simp) λv wt sm v' wt' sm' es a0 U=>?_)
 simp only[Fam.act] at U
 split at U
 .rename_i Y
  cases U;refine⟨G (fr b (Dl T d (.int .u64 (Fam.word (v - 1) wt))) ds (.inRegion ops rest::k)) cs,λw ac=>?_,rfl,?_⟩
  .let⟨c1,_,c3,_⟩:=Ju ac;rw[B3 Z,B3 Z];show stepG P false _ w=_;rw[stepG_add_atomic (a:=⟨T,ds⟩) ag (Cr K hw) (by simpa using O.1) rfl ap aq hb aw .u64 he (by rw[Fw];exact K.ev ai) (by rw[Fw];exact K.ev aj) c1 c3,aB Y.1 Y.2.1 Y.2.2,Oh ac,EU]
   rfl
  .split;rename_i e;obtain⟨rfl,rfl⟩:=e;exact al _ (K.put O.2 _);rename_i e;exact QJ (am (v - 1) wt (by omega) Y.2.2 (by omega) _ (K.put O.2 _))
 .cases U
theorem b9{j:Nat}(ag:s.q=false)(ai:ops[i]?=some ⟨d,.call ⟨.value (.func f),#[x,y],ats⟩,ty,pp,af,g⟩)(Z:b.roundOf=none)(hw:A3 L ops ⟨d,.call ⟨.value (.func f),#[x,y],ats⟩,ty,pp,af,g⟩=some true)(O:((b.kind != .early)&&BA n d)=true)
  (he:BX P f (Extern.Atomic.update (Op.intArith .add) .u64 true)) (aj:ev L x=some (.pointer (some F.sA))) (al:ev L y=some (.int .u64 4294967296))
  (am:JL (Bd P true) (Stop P F (.Je j)) b n (AE L d (.int .u64 (Fam.word 1 0))) ds (.inRegion ops rest::k) cs s)
  (ap:∀v:Nat,1<=v->v<2147483647->JL (Bd P true) (Stop P F (.HH j)) b n (AE L d (.int .u64 (Fam.word (v+1) 0))) ds (.inRegion ops rest::k) cs s):
  JL (Bd P true) (Stop P F (.I8 j)) b n L ds (.inRegion ops (i::rest)::k) cs s:=λT K=>by
 simp only[eM] at O
 obtain⟨fn,aq,aw,hb,a0,he⟩:=he.h
 refine(Bd P _).stop (Jq rfl rfl rfl ag (by simp) λv wt sm v' wt' sm' es a1 U=>?_)
 simp only[Fam.act] at U
 split at U
 .rename_i Y
  obtain⟨Y,rfl⟩:=Y;cases U;refine⟨G (fr b (Dl T d (.int .u64 (Fam.word (v+1) 0))) ds (.inRegion ops rest::k)) cs,λw ac=>?_,rfl,?_⟩
  .let⟨c1,_,c3,_⟩:=Ju ac;rw[B3 Z,B3 Z];show stepG P true _ w=_;rw[stepG_add_atomic (a:=⟨T,ds⟩) ai (Cr K hw) (by simpa using O.1) rfl aq aw hb a0 .u64 he (by rw[Fw];exact K.ev aj) (by rw[Fw];exact K.ev al) c1 c3,ZN Y,Oh ac,EU]
   rfl
  .split;rename_i e;subst e;exact am _ (K.put O.2 _);rename_i e;exact ap v (by omega) Y _ (K.put O.2 _)
 .cases U
theorem gD(ai:Mi p=true)(aj:if Fam.Dr p=true then s=.quiet else s.q=false)(al:p≠ .F9)(am:Fam.Kl p s=s)(ap:∀v wt sm r,F.act p v wt sm=some r->r.1=(v,wt,sm)/\r.2.1=#[Fam.CC F.sA])
  (aq:ops[i]?=some ⟨d,.call ⟨.value (.func f),#[x],ats⟩,ty,pp,af,g⟩) (U:b.roundOf=none) (hw:A3 L ops ⟨d,.call ⟨.value (.func f),#[x],ats⟩,ty,pp,af,g⟩=some true) (K:((b.kind != .early)&&BA n d)=true)
  (he:BX P f (Extern.Atomic.loadT (.int .u64))) (aw:ev L x=some (.pointer (some F.sA)))
  (h:∀v wt sm r,F.act p v wt sm=some r->∃q,r.2.2=.ph q/\JL (Bd P (Fam.Dd p)) (Stop P F q) b n (AE L d (.int .u64 (Fam.word v wt))) ds (.inRegion ops rest::k) cs s):
  JL (Bd P (Fam.Dd p)) (Stop P F p) b n L ds (.inRegion ops (i::rest)::k) cs s:=λT O=>by
 simp only[eM] at K
 obtain⟨fn,a0,a1,hb,a2,he⟩:=he.h
 refine(Bd P _).stop (Jq ai rfl rfl aj (λe=>absurd e al) λv wt sm v' wt' sm' es a3 Y=>?_)
 let⟨Z,e2⟩:=ap _ _ _ _ Y
 let⟨q,ac,hj⟩:=h _ _ _ _ Y
 simp only at Z e2 ac
 cases Z
 subst e2 ac
 refine⟨_,λw ag=>?_,rfl,by rw[am];exact hj _ (O.put K.2 _)⟩
 let⟨c1,_,_,_⟩:=Ju ag
 rw[B3 U,B3 U,stepG_load_atomic (a:=⟨T,ds⟩) aq (Cr O hw) (by simpa using K.1) rfl a0 a1 hb a2 .u64 he (by rw[Fw];exact O.ev aw) c1,L5 ag,EU]
 rfl
theorem gM(ac:ops[i]?=some ⟨d,.call ⟨.value (.func f),#[x,y],ats⟩,ty,pp,af,g⟩)(Y:b.roundOf=none)(hw:A3 L ops ⟨d,.call ⟨.value (.func f),#[x,y],ats⟩,ty,pp,af,g⟩=some true)(U:((b.kind != .early)&&BA n d)=true)
  (he:BX P f Extern.Atomic.storeT) (ag:ev L x=some (.pointer (some F.sA))) (ai:ev L y=some (.int .u64 0))
  (h:JL (Bd P false) (Stop P F .F9) b n (AE L d (.tuple #[])) ds (.inRegion ops rest::k) cs .quiet):
  JL (Bd P false) (Stop P F .HV) b n L ds (.inRegion ops (i::rest)::k) cs .quiet:=λT K=>by
 simp only[eM] at U
 obtain⟨fn,aj,al,hb,am,he⟩:=he.h
 refine(Bd P _).stop (Jq rfl rfl rfl rfl (by simp) λv wt sm v' wt' sm' es aw O=>?_)
 simp only[Fam.act] at O
 split at O
 .rename_i ap
  obtain⟨rfl,rfl⟩:=ap;cases O;refine⟨_,λw Z=>?_,rfl,h _ (K.put U.2 _)⟩;let⟨c1,_,c3,_⟩:=Ju Z;have aq:(.int .u64 0:Value)=.int .u64 (Fam.word 0 0):=by simp[Fam.word]
  rw[B3 Y,B3 Y];show stepG P false _ w=_;rw[stepG_store_atomic (a:=⟨T,ds⟩) ac (Cr K hw) (by simpa using U.1) rfl aj al hb am he (by rw[Fw];exact K.ev ag) (by rw[Fw];exact K.ev ai) c1 c3,aq,Oh Z,EU]
  rfl
 .cases O
theorem gl{m:Nat}(aq:s.q=false)(ac:ops[i]?=some ⟨d,.call ⟨.value (.func f),#[x,y,z],ats⟩,ty,pp,af,g⟩)(Z:b.roundOf=none)(hw:A3 L ops ⟨d,.call ⟨.value (.func f),#[x,y,z],ats⟩,ty,pp,af,g⟩=some true)(U:((b.kind != .early)&&BA n d)=true)
  (he:BX P f (Extern.Atomic.casT (.int .u64))) (ag:ev L x=some (.pointer (some F.sA))) (ai:ev L y=some (.int .u64 (Fam.word m 0))) (aj:ev L z=some (.int .u64 (Fam.word m 1)))
  (aw:JL (Bd P true) (Stop P F .Jh) b n (AE L d (.bool true)) ds (.inRegion ops rest::k) cs s)
  (a0:JL (Bd P true) (Stop P F (.GM (m - 1))) b n (AE L d (.bool false)) ds (.inRegion ops rest::k) cs s):
  JL (Bd P true) (Stop P F (.H2 m)) b n L ds (.inRegion ops (i::rest)::k) cs s:=λT K=>by
 simp only[eM] at U
 obtain⟨fn,al,am,hb,ap,he⟩:=he.h
 refine(Bd P _).stop (Jq rfl rfl rfl aq (by simp) λv wt sm v' wt' sm' es a2 O=>?_)
 simp only[Fam.act] at O
 split at O
 .rename_i a1
  obtain⟨_,_,rfl⟩:=a1;split at O
  .rename_i e;subst e;cases O;refine⟨_,λw Y=>?_,rfl,aw _ (K.put U.2 _)⟩;let⟨c1,_,c3,_⟩:=Ju Y;rw[B3 Z,B3 Z];show stepG P true _ w=_;rw[stepG_cas_hit (a:=⟨T,ds⟩) ac (Cr K hw) (by simpa using U.1) rfl al am hb ap .u64 he (by rw[Fw];exact K.ev ag) (by rw[Fw];exact K.ev ai) (by rw[Fw];exact K.ev aj) c1 c3,Oh Y,EU]
   rfl
  .rename_i e;cases O;refine⟨_,λw Y=>?_,rfl,a0 _ (K.put U.2 _)⟩;let⟨c1,_,c3,_⟩:=Ju Y;rw[B3 Z,B3 Z];show stepG P true _ w=_;rw[stepG_cas_miss (a:=⟨T,ds⟩) ac (Cr K hw) (by simpa using U.1) rfl al am hb ap .u64 he (by rw[Fw];exact K.ev ag) (by rw[Fw];exact K.ev ai) (by rw[Fw];exact K.ev aj) c1 c3 (λq=>e (word_inj q)),L5 Y,EU]
   rfl
 .cases O
theorem ba{args:Array Operand}{vs:Lv_}(Y:ops[i]?=some ⟨d,.call ⟨.value (.func f),args,ats⟩,ty,pp,af,g⟩)(Z:b.roundOf=none)(hw:A3 L ops ⟨d,.call ⟨.value (.func f),args,ats⟩,ty,pp,af,g⟩=some true)(O:((b.kind != .early)&&BA n d)=true)
  (he:BX P f Extern.Sync.semrelease) (ag:evs L args.toList=some vs) (ai:vs[0]?=some (.pointer (some F.mA)))
  (h:JL (IY P) (JF P 1) b n (AE L d (.tuple #[])) ds (.inRegion ops rest::k) cs .quiet):
  JL (Bd P false) (Stop P F .F9) b n L ds (.inRegion ops (i::rest)::k) cs .quiet:=λT U=>by
 simp only[eM] at O
 have aj:=UO (P:=P) (b:=b) (ds:=ds) (k:=k) (cs:=cs) (rest:=rest) (T:=T) Y he
 obtain⟨fn,al,am,hb,ap,he⟩:=he.h
 refine(Bd P _).stop (Jq rfl rfl rfl rfl (λ_=>aj) λv wt sm v' wt' sm' es a0 K=>?_)
 simp only[Fam.act] at K
 split at K
 .rename_i aq
  subst aq;cases K;refine⟨_,λw ac=>?_,rfl,QJ (h _ (U.put O.2 _))⟩;let⟨_,c2,_,c4⟩:=Ju ac;rw[B3 Z,B3 Z];show stepG P false _ w=_;rw[stepG_semrelease (a:=⟨T,ds⟩) Y (Cr U hw) (by simpa using O.1) rfl al am hb ap he (ad:=F.mA) (by rw[KP U ag];simpa using ai) c2 c4,EU];have aw:IntKind.u32.wrap (((0:Nat):Int)+1)=((1:Nat):Int):=by decide
  rw[aw,Tx ac]
 .cases K
theorem Yw{args:Array Operand}{vs:Lv_}(am:s.q=false)(ac:ops[i]?=some ⟨d,.call ⟨.value (.func f),args,ats⟩,ty,pp,af,g⟩)(Y:b.roundOf=none)(hw:A3 L ops ⟨d,.call ⟨.value (.func f),args,ats⟩,ty,pp,af,g⟩=some true)(Z:((b.kind != .early)&&BA n d)=true)
  (he:BX P f Extern.Sync.semacquire) (ap:evs L args.toList=some vs) (aq:vs[0]?=some (.pointer (some F.mA)))
  (h:JL (Bd P true) (Stop P F .HU) b n (AE L d (.tuple #[])) ds (.inRegion ops rest::k) cs s):
  JL (Bd P true) (Stop P F .Gp) b n L ds (.inRegion ops (i::rest)::k) cs s:=λT K=>by
 simp only[eM] at Z
 obtain⟨fn,ag,ai,hb,aj,he⟩:=he.h
 have al:(args.map (⟨T,ds⟩:Act).eval)[0]?=some (.pointer (some F.mA)):=by rw[KP K ap];simpa using aq
 refine(Bd P _).stop (HG.stop {
  run:=rfl,offers:=rfl,quiet:=(by simp[Fam.Dr]),live:=λ_=>am,act:=?_,JE:=(by simp),FU:=?_,go:=(by simp),lk:=(by simp),C9:=(by simp),store:=(by simp),fin:=(by simp)})
 .intro v wt sm v' wt' sm' es a1 O;simp only[Fam.act] at O;split at O
  .rename_i aw;subst aw;cases O;refine⟨_,λw U=>?_,rfl,h _ (K.put Z.2 _)⟩;let⟨_,c2,_,c4⟩:=Ju U;rw[B3 Y,B3 Y];show stepG P true _ w=_;rw[stepG_semacquire (a:=⟨T,ds⟩) ac (Cr K hw) (by simpa using Z.1) rfl ag ai hb aj he (ad:=F.mA) al c2 (by decide) c4,EU];have a0:(((1:Nat):Int) - 1)=((0:Nat):Int):=by decide
   rw[a0,Tx U]
  .cases O
 .intro _ w v wt U;let⟨_,c2,_,c4⟩:=Ju U;rw[B3 Y];exact stepG_semacquire_wait (a:=⟨T,ds⟩) ac (Cr K hw) rfl ag ai hb aj he (ad:=F.mA) al c2
theorem Vo{args:Array Operand}{vs:Lv_}(Y:s.q=false)(Z:ops[i]?=some ⟨d,.call ⟨.value (.func f),args,ats⟩,ty,pp,af,g⟩)(U:b.roundOf=none)(hw:A3 L ops ⟨d,.call ⟨.value (.func f),args,ats⟩,ty,pp,af,g⟩=some true)(K:((b.kind != .early)&&BA n d)=true)
  (he:BX P f (Extern.Race.marked .acquire)) (ac:evs L args.toList=some vs) (ag:vs[0]?=some (.pointer (some F.sA)))
  (h:∀E' f,Le s.E E'->E' F.fd=none->(∀b,E' b≠none->s.H b=none)->(∀k,k<F.n->F.msg k (f k) E')->∀T,Has n (AE L d (.tuple #[])) T->F.fin (G (fr b T ds (.inRegion ops rest::k)) cs) ⟨E',F.KH s.H f,false⟩):
  JL (Bd P true) (Stop P F .G4) b n L ds (.inRegion ops (i::rest)::k) cs s:=λT O=>by
 simp only[eM] at K
 obtain⟨fn,ai,aj,hb,al,he⟩:=he.h
 refine(Bd P _).stop (HG.stop {
  run:=rfl,offers:=rfl,quiet:=(by simp[Fam.Dr]),live:=λ_=>Y,act:=(by simp[Fam.act]),JE:=(by simp),FU:=(by simp),go:=(by simp),lk:=(by simp),C9:=(by simp),store:=(by simp),fin:=λ_=>?_})
 refine⟨_,λw=>?_,λE' f a1 am ap aq=>h E' f a1 am ap aq _ (O.put K.2 _)⟩
 rw[B3 U,B3 U,stepG_markAt (a:=⟨T,ds⟩) .acquire (by simp) Z (Cr O hw) (by simpa using K.1) rfl ai aj hb al he (ad:=F.sA) (by rw[KP O ac];simpa using ag),EU]
 rfl
end
variable{fi:Av_}{as:Lv_}
section
variable {P:Program}{F:Fam}{J:Judge P}{Q:GP}{n:Nat}{L L':Env}{ds:Ld_}{k:Li_}{cs:Lf_}{s s':St}{b:Frame}{main:Bool}
theorem LY(T:Av_)(ds:Ld_):(⟨T,ds⟩:Act).eval=BM T:=funext λx=>Fw T ds x
theorem bp{X:GP}{c:Code}{vs:Lv_}{caps args:Av_}(O:P.funcs[f]?=some fn)(Z:(fn.name== "runtime.NumGoroutine")=false)(hb:fn.body=some c)(ac:args++caps=vs.toArray)(al:vs.length<=fn.ntmps)
  (h:JL (Bd P false) X (baseD f) fn.ntmps (G0 0 vs) [] [.code c] [MA P] s):Way P false X (born P {target:=.fn (.func f) caps,args:=args}) s:=by
 have ag:¬fn.name= "runtime.NumGoroutine" :=by simpa using Z
 refine Judge.Eh (J:=Bd P false) V (λw=>?_) (h (vs.toArray++Array.replicate (fn.ntmps - vs.length) undef) ⟨by simp;omega,λt v ai=>?_⟩);show stepG P false _ w=_;have U:=enter_atD (P:=P) vs.toArray O hb;rw[B3 (b:=baseD f) rfl];simp only[sE] at U;simp[G,born,stepG,unwind,callDeferred,invoke,callFunc,O,ag,hb,GStep.after,seen_none,ac,MA,U]
 .let⟨_,K⟩:=Kx ai;have aj:t<vs.length:=by
   rcases f7 t vs.length with Y | Y;exact Y;simp at K;have:=(dY.1 K).1;omega
  rw[f5,rQ (by simpa using aj)];simp at K;simp[K]
theorem fI{args:Array Operand}{K:Go.Fn}{O:Av_}(U:Has n L T)(Y:ev L x=some (.func K fi O))(Z:evs L args.toList=some as):
  execOp (BM T) ⟨d,.go ⟨.value x,args,ats⟩,ty,pp,af,g⟩=.pure (.spawn {target:=.fn K O,args:=fi++as.toArray}):=by
 have ac:args.map (BM T)=as.toArray:=by
  rw[← GI U.GL Z];apply rW;simp
 simp only[execOp,resolve,bind,Sem.bind,Deferred.ofValue,U.ev Y,pure,ac]
theorem dX{j:Nat}{args:Array Operand}{U:Av_}{Y:FuncId}(ag:s.q=false)(ai:ops[i]?=some ⟨d,.go ⟨.value x,args,ats⟩,ty,pp,af,g⟩)(Z:b.roundOf=none)(hw:A3 L ops ⟨d,.go ⟨.value x,args,ats⟩,ty,pp,af,g⟩=some true)(K:((b.kind != .early)&&BA n d)=true)
  (aj:ev L x=some (.func (.func Y) fi U)) (al:evs L args.toList=some as)
  (am:Way P false (Stop P F (F.start j)) (born P {target:=.fn (.func Y) U,args:=fi++as.toArray}) ⟨s.E,λ_=>none,false⟩)
  (ap:JL (Bd P true) (Stop P F (F.Fp j)) b n (AE L d undef) ds (.inRegion ops rest::k) cs s):
  JL (Bd P true) (Stop P F (.Gy j)) b n L ds (.inRegion ops (i::rest)::k) cs s:=λT O=>by
 simp only[eM] at K
 have ac:=fI (d:=d) (ats:=ats) (ty:=ty) (pp:=pp) (af:=af) (g:=g) O aj al
 refine(Bd P _).stop (HG.stop {
  run:=rfl,offers:=rfl,quiet:=(by simp[Fam.Dr]),live:=λ_=>ag,act:=(by simp[Fam.act]),JE:=(by simp),FU:=(by simp),go:=λaq e=>?_,lk:=(by simp),C9:=(by simp),store:=(by simp),fin:=(by simp)})
 cases e
 refine⟨G (fr b (Dl T d undef) ds (.inRegion ops rest::k)) cs,_,rfl,rfl,λw=>?_,am,ap _ (O.put K.2 _)⟩
 rw[B3 Z,B3 Z,stepG_spawn (a:=⟨T,ds⟩) (w':=w) ai (Cr O hw) (by simpa using K.1) (by rw[LY,ac];rfl) rfl,listed_none (by rw[LY,ac];simp[Sem.events_pure']),EU]
theorem JO.U3{j:Nat}(Y:s.q=false)(K:b.roundOf=none)(he:BX P f (λ_=>do mark .enable;pure Extern.Race.none_))
  (h:JO (Bd P true) (Stop P F (.Gy j)) b n L ds cs s):JO (Bd P true) (Stop P F (.HH j)) b n L (dcall f #[]::ds) cs s:=λT Z todo=>by
 obtain⟨fn,ac,ag,hb,ai,he⟩:=he.h
 refine(Bd P _).stop (Jq rfl rfl rfl Y (by simp) λv wt sm v' wt' sm' es al O=>?_)
 simp only[Fam.act] at O
 cases O
 refine⟨G (Fa b T ds todo) cs,λw aj=>?_,rfl,h T Z todo⟩
 rw[L6 K,L6 K,L5 aj]
 exact stepG_unwind_entry (a:=⟨T,dcall f #[]::ds⟩) (v:=.tuple #[]) (evs:=#[Fam.Dg .enable]) rfl ac ag hb ai he (by simp[Extern.Race.none_]) (by simp;rfl) (by
  intro x U
  simp at U
  subst U
  exact⟨rfl,λg h=>by cases h⟩)
theorem JO.OM(K:b.roundOf=none)(he:BX P f (λ_=>do mark .enable;pure Extern.Race.none_))
  (h:JO (IY P) (JF P 0) b n L ds cs .quiet):JO (IY P) (JF P 1) b n L (dcall f #[]::ds) cs .quiet:=λT U todo=>by
 obtain⟨fn,Y,Z,hb,ac,he⟩:=he.h
 refine(IY P).stop ?_
 let⟨q,O⟩:=QJ (h T U todo)
 rw[L6 K] at O
 rw[L6 K]
 exact⟨q+1,QuitsD.unwind_mark (a:=⟨T,dcall f #[]::ds⟩) .enable rfl (by simp) rfl Y Z hb ac he O⟩
end
def Xo:BinOp->Int->Int->Option Bool
 | .lss,m,m'=>some (decide (m<m'))
 | .leq,m,m'=>some (decide (m<=m'))
 | .gtr,m,m'=>some (decide (m'<m))
 | .geq,m,m'=>some (decide (m'<=m))
 | .eql,m,m'=>some (decide (m=m'))
 | .neq,m,m'=>some (decide (m≠m'))
 | _,_,_=>none
def LG(L:Env):Op->Option Value
 | .move x=>ev L x
 | .assign x=>ev L x
 | .pick z x y=>match ev L z with
  | some (.bool true)=>ev L x
  | some (.bool false)=>ev L y
  | _=>none
 | .extract x i=>match ev L x with
  | some (.tuple vs)=>vs[i]?
  | _=>none
 | .nilCheck x=>match ev L x with
  | some (.pointer (some a))=>some (.pointer (some a))
  | _=>none
 | .binOp op _ x y _=>match ev L x with
  | some (.int kd m)=>match ev L y with
   | some (.int kd' m')=>if kd=kd' then(match Xo op m m' with | some t=>some (.bool t) | none=>none) else none
   | _=>none
  | _=>none
 | _=>none
theorem cY{P:Program}{s:St}{ρ:Operand->Value}{d:Option Tmp}{x y:Operand}{t u ty:TypeId}{p:String}{af:Ae_}{g:On_}{kd:IntKind}{m m':Int}(K:ρ x=.int kd m)(O:ρ y=.int kd m'):Yl P ⟨d,.binOp .neq t x y u,ty,p,af,g⟩ ρ s (.bool (decide (m≠m'))):=by
 have h:=Yl.neq (P:=P) (s:=s) (d:=d) (t:=t) (u:=u) (ty:=ty) (p:=p) (af:=af) (g:=g) K O;simpa using h
theorem OV{P:Program}{L:Env}{ρ:Operand->Value}{s:St}{o:Oper}{v:Value}(K:Fz L ρ)(h:LG L o.op=some v):Yl P o ρ s v:=by
 obtain⟨d,op,ty,p,af,g⟩:=o;simp only at h;unfold LG at h;split at h;exact Yl.move (K _ _ h);exact Yl.assign (K _ _ h);split at h;rename_i e;exact M1 (K _ _ e) (K _ _ h);rename_i e;exact YL (K _ _ e) (K _ _ h);cases h;split at h;rename_i e;exact Yl.extract (K _ _ e) h;cases h;split at h;rename_i e;cases h;exact Yl.nilCheck (K _ _ e);cases h;split at h;rename_i O;split at h;rename_i U;split at h;rename_i e;subst e;split at h;rename_i e;cases h;unfold Xo at e;split at e;cases e;exact Yl.lss (K _ _ O) (K _ _ U);cases e;exact Yl.leq (K _ _ O) (K _ _ U);cases e;exact Yl.gtr (K _ _ O) (K _ _ U);cases e;exact Yl.geq (K _ _ O) (K _ _ U);cases e;exact Yl.eql (K _ _ O) (K _ _ U);cases e;exact cY (K _ _ O) (K _ _ U);cases e;cases h;cases h;cases h;cases h;cases h
def Kh:List Oper->Nat->Option Oper
 | [],_=>none
 | o::_,0=>some o
 | _::os,i+1=>Kh os i
theorem Mj:∀(os:List Oper) (i:Nat),Kh os i=os[i]?
 | [],i=>by simp[Kh]
 | _::_,0=>rfl
 | _::os,i+1=>by simp[Kh,Mj os i]
def PW(b:Frame)(n:Nat)(L:Env):Li_->Option (Li_×Env)
 | .code (.seq x y)::k=>some (.code x:: .code y::k,L)
 | .code (.block i c)::k=>some (.code c:: .inBlock i::k,L)
 | .code (.scope c)::k=>some (.code c:: .inScope c::k,L)
 | .code .skip::k=>some (k,L)
 | .code (.exit i)::k=>match exitTo i k with
  | some k'=>some (k',L)
  | none=>none
 | .code (.cond c x y)::k=>match ev L c with
  | some (.bool true)=>some (.code x::k,L)
  | some (.bool false)=>some (.code y::k,L)
  | _=>none
 | .code (.region _ ops false)::k=>some (.inRegion ops (List.range ops.size)::k,L)
 | .inBlock _::k=>some (k,L)
 | .inScope _::k=>some (k,L)
 | .inRegion _ []::k=>some (k,L)
 | .inRegion ops (i::rest)::k=>match Kh ops.toList i with
  | some ⟨d,op,ty,p,af,g⟩=>match A3 L ops ⟨d,op,ty,p,af,g⟩ with
   | some true=>match BV b n ⟨d,op,ty,p,af,g⟩ with
    | true=>match LG L op with
     | some v=>match d with
      | some d=>some (.inRegion ops rest::k,(d,v)::L)
      | none=>some (.inRegion ops rest::k,L)
     | none=>none
    | false=>none
   | some false=>match BA n d with
    | true=>match d with
     | some d=>some (.inRegion ops rest::k,(d,undef)::L)
     | none=>some (.inRegion ops rest::k,L)
    | false=>none
   | none=>none
  | none=>none
 | _=>none
def Pk(b:Frame)(n:Nat):Nat->Li_->Env->Option (Li_×Env)
 | 0,k,L=>some (k,L)
 | m+1,k,L=>match PW b n L k with
  | some (k',L')=>Pk b n m k' L'
  | none=>none
variable {L':Env}{k':Li_}
section
variable {n:Nat}
theorem Wi(h:PW b n L k=some (k',L'))(K:JL J Q b n L' ds k' cs s):JL J Q b n L ds k cs s:=by
 unfold PW at h;split at h;cases h;exact JL.seq K;cases h;exact JL.block K;cases h;exact JL.scope K;cases h;exact JL.skip K;split at h;rename_i e;cases h;exact JL.exit e K;cases h;split at h;rename_i e;cases h;exact Y3 e K;rename_i e;cases h;exact YV e K;cases h;cases h;exact JL.region K;cases h;exact Of K;cases h;exact X7 K;cases h;exact JL.done K
 .split at h
  .rename_i d op ty p af g O;rw[Mj,ro] at O;split at h
   .rename_i hw;split at h
    .rename_i U;split at h
     .rename_i v Z;cases d with
      | none=>cases h;exact Bp O hw U (λρ Y=>OV Y Z) K
      | some d=>cases h;exact Bp O hw U (λρ Y=>OV Y Z) K
     .cases h
    .cases h
   .rename_i hw;split at h
    .rename_i U;cases d with
     | none=>cases h;exact I6 O hw U K
     | some d=>cases h;exact I6 O hw U K
    .cases h
   .cases h
  .cases h
 .cases h
theorem JL.go(m:Nat)(h:Pk b n m k L=some (k',L'))(K:JL J Q b n L' ds k' cs s):JL J Q b n L ds k cs s:=by
 induction m generalizing k L with
 | zero=>cases h;exact K
 | succ m O=>
  unfold Pk at h;split at h;rename_i e;exact Wi e (O h);cases h
end
abbrev Ar(a o:Nat):Value:=.pointer (some ⟨a,o,none⟩)
abbrev sV{α:Type}(a:Option Addr)(l:List α)(c:Nat):Value:=.slice a l.length c
abbrev fV(n:Nat):Value:=.func (.func n) #[] #[]
abbrev nS:Value:=.slice none 0 0
abbrev Bh(r:Nat):Option Addr:=some ⟨r,0,none⟩
open Go.Conc.Lib Go.ConcR.Gen
theorem GW{P:Program}{t:TypeId}{n:Nat}(h:∀w,Sem.run P (Go.sizeOf t) w=.ok n w):Bz P t=some n:=by
 have K:=h default;unfold Bz;simp only[Go.sizeOf,typeInfo,bind,Sem.bind,program,Sem.run] at K;cases hi:P.info? t with
 | none=>rw[hi] at K;simp[stuck,Sem.run,Sem.bind] at K
 | some i=>
  rw[hi] at K;simp[pure,Sem.bind,Sem.run] at K;simp[K]
section
variable {L:WgLink}(H:WgLib P L)
include H
theorem Oe:BX P L.disable (λ_=>do mark .disable;pure Extern.Race.none_):=⟨⟨_,H.f_disable,x_disable_n L,x_disable_b L,x_disable_x L,x_disable_f L⟩⟩
theorem J2:BX P L.enable (λ_=>do mark .enable;pure Extern.Race.none_):=⟨⟨_,H.f_enable,x_enable_n L,x_enable_b L,x_enable_x L,x_enable_f L⟩⟩
theorem S3:BX P L.relMerge (Extern.Race.marked .releaseMerge):=⟨⟨_,H.f_relMerge,x_relMerge_n L,x_relMerge_b L,x_relMerge_x L,x_relMerge_f L⟩⟩
theorem QN:BX P L.acquire (Extern.Race.marked .acquire):=⟨⟨_,H.f_acquire,x_acquire_n L,x_acquire_b L,x_acquire_x L,x_acquire_f L⟩⟩
theorem aA:BX P L.raceRead (Extern.Race.marked .read):=⟨⟨_,H.f_raceRead,x_raceRead_n L,x_raceRead_b L,x_raceRead_x L,x_raceRead_f L⟩⟩
theorem Y9:BX P L.raceWrite (Extern.Race.marked .write):=⟨⟨_,H.f_raceWrite,x_raceWrite_n L,x_raceWrite_b L,x_raceWrite_x L,x_raceWrite_f L⟩⟩
theorem Ve:BX P L.addU64 (Extern.Atomic.update (Op.intArith .add) .u64 true):=⟨⟨_,H.f_addU64,x_addU64_n L,x_addU64_b L,x_addU64_x L,x_addU64_f L⟩⟩
theorem aW:BX P L.loadU64 (Extern.Atomic.loadT (.int .u64)):=⟨⟨_,H.f_loadU64,x_loadU64_n L,x_loadU64_b L,x_loadU64_x L,x_loadU64_f L⟩⟩
theorem Zk:BX P L.storeU64 Extern.Atomic.storeT:=⟨⟨_,H.f_storeU64,x_storeU64_n L,x_storeU64_b L,x_storeU64_x L,x_storeU64_f L⟩⟩
theorem de:BX P L.casU64 (Extern.Atomic.casT (.int .u64)):=⟨⟨_,H.f_casU64,x_casU64_n L,x_casU64_b L,x_casU64_x L,x_casU64_f L⟩⟩
theorem YT:BX P L.semrelease Extern.Sync.semrelease:=⟨⟨_,H.f_semrelease,x_semrelease_n L,x_semrelease_b L,x_semrelease_x L,x_semrelease_f L⟩⟩
theorem XY:BX P L.semacquire Extern.Sync.semacquire:=⟨⟨_,H.f_semacquire,x_semacquire_n L,x_semacquire_b L,x_semacquire_x L,x_semacquire_f L⟩⟩
theorem Tq:BX P L.inBubble (λ_=>pure (.bool false)):=⟨⟨_,H.f_inBubble,x_inBubble_n L,x_inBubble_b L,x_inBubble_x L,x_inBubble_f L⟩⟩
end
variable {tw:TypeId}
section
variable {P:Program}{F:Fam}{J:Judge P}{Q:GP}{n:Nat}{L L':Env}{ds:Ld_}{k:Li_}{cs:Lf_}{s s':St}{b:Frame}{main:Bool}
theorem Yl.to{o:Oper}{ρ:Operand->Value}{v v':Value}(h:Yl P o ρ s v)(e:v=v'):Yl P o ρ s v':=e▸h
theorem M9(ap:Mi p=true)(aq:if Fam.Dr p=true then s=.quiet else s.q=false)(aw:p≠ .F9)(a0:∀v wt sm,F.act p v wt sm=some ((v,wt,sm),#[],.ph q))(a1:Fam.Kl p s=s)
  (a2:ops[i]?=some ⟨d,.convert t u x,ty,pp,af,g⟩) (U:b.roundOf=none) (hw:A3 L ops ⟨d,.convert t u x,ty,pp,af,g⟩=some true) (K:((b.kind != .early)&&BA n d)=true)
  (Y:P.underlying t=some (.pointer tw)) (hu:P.underlying u=some .unsafePointer) (Z:(P.info? tw).map (λi=>decide (i.size=0))=some false) (a3:ev L x=some (.pointer (some ad))) (hb:ad=F.sA∨ad=F.mA)
  (h:JL (Bd P (Fam.Dd p)) (Stop P F q) b n (AE L d (.pointer (some ad))) ds (.inRegion ops rest::k) cs s):
  JL (Bd P (Fam.Dd p)) (Stop P F p) b n L ds (.inRegion ops (i::rest)::k) cs s:=λT O=>by
 simp only[eM] at K
 refine(Bd P _).stop (Jq ap rfl rfl aq (λe=>absurd e aw) λv wt sm v' wt' sm' es a5 ac=>?_)
 rw[a0] at ac;cases ac
 refine⟨_,λw ag=>?_,rfl,by rw[a1];exact h _ (O.put K.2 _)⟩
 obtain⟨ai,aj⟩:∃ai,w.cell? ad=some ai:=by
  let⟨c1,c2,_,_⟩:=Ju ag;rcases hb with e | e<;>rw[e];exact⟨_,c1⟩;exact⟨_,c2⟩
 have al:=run_convert_to_unsafe (P:=P) (w:=w) Y hu Z aj;have a4:=events_convert_to_unsafe (P:=P) (w:=w) Y hu Z aj;have am:execOp (⟨T,ds⟩:Act).eval ⟨d,.convert t u x,ty,pp,af,g⟩=(do pure (Next.value (← Go.convert t u (.pointer (some ad))))):=by
  rw[LY];simp only[execOp,O.ev a3]
 rw[B3 U,B3 U,stepG_value (a:=⟨T,ds⟩) (v:=.pointer (some ad)) (w':=w) a2 (Cr O hw) (by simpa using K.1) (by rw[am];simp[al,Result.andThen]),L5 ag,EU];have e2:listed P b.fn ⟨T,ds⟩ ⟨d,.convert t u x,ty,pp,af,g⟩ w=#[]:=by
  unfold listed;rw[am];simp[al,a4,Result.evThen,seen_none]
 rw[e2]
end
section
variable {P:Program}{F:Fam}{J:Judge P}{Q:GP}{n:Nat}{L L':Env}{ds:Ld_}{k:Li_}{cs:Lf_}{s s':St}{b:Frame}{main:Bool}
def jD(P:Program)(b:Frame)(n:Nat)(L:Env)(d:Option Tmp)(ds:Ld_)(todo:Li_)(cs:Lf_)(U:Frame):Prop:=
 ∀(K:Judge P) (O:GP) (v:Value) (s':St),JL K O b n (AE L d v) ds todo cs s'->K.ok O (G (U.finish v) cs) s'
theorem HQ{c:Code}(Y:ops[i]?=some ⟨d,.call ⟨.value (.func f),args,ats⟩,ty,pp,af,g⟩)(hw:A3 L ops ⟨d,.call ⟨.value (.func f),args,ats⟩,ty,pp,af,g⟩=some true)(O:((b.kind != .early)&&BA n d)=true)
  (Z:P.funcs[f]?=some fn) (ai:(fn.name== "runtime.NumGoroutine")=false) (hb:fn.body=some c) (aj:evs L args.toList=some vs) (a0:vs.length<=fn.ntmps)
  (h:∀ac:Frame,jD P b n L d ds (.inRegion ops rest::k) cs ac->JL J Q (base f) fn.ntmps (G0 0 vs) [] [.code c] (ac::cs) s):
  JL J Q b n L ds (.inRegion ops (i::rest)::k) cs s:=λT U=>by
 simp only[eM] at O
 have al:args.map (BM T)=vs.toArray:=by
  rw[← GI U.GL aj];apply rW;simp
 refine Judge.oper Y (Cr U hw) (by simpa using O.1) (.inr λc am=>by cases am) ?_;have ap:Ez P f=true:=by unfold Ez;rw[Z];simp[ai,hb]
 have hd:lp P (execOp (BM T) ⟨d,.call ⟨.value (.func f),args,ats⟩,ty,pp,af,g⟩) s (upon J Q b T ds ops i rest k cs d) (MB J Q b T ds ops i rest k cs):=by
  simp only[execOp,resolve,bind,Sem.bind,Deferred.ofValue,BM,pure,invoke];have e: #[]++args.map (BM T)++ #[]=vs.toArray:=by rw[al];simp
  rw[e];refine J0 ap ?_;have he:Frame.enter P f vs.toArray .normal=fr (base f) (vs.toArray++Array.replicate (fn.ntmps - vs.length) undef) [] [.code c]:=by
   simp[Frame.enter,fr,Z,hb,base];rfl
  show J.ok Q (G (Frame.enter P f vs.toArray .normal) _) s;rw[he];refine h _ (λa1 a2 v s' hj=>?_) _ ⟨by simp;omega,λt v aq=>?_⟩;rw[He (o:=⟨d,.call ⟨.value (.func f),args,ats⟩,ty,pp,af,g⟩) _ _ _ _ _ Y];exact hj _ (U.put O.2 v)
  .let⟨_,K⟩:=Kx aq;have aw:t<vs.length:=by
    rcases f7 t vs.length with ag | ag;exact ag;simp at K;have:=(dY.1 K).1;omega
   rw[f5,rQ (by simpa using aw)];simp at K;simp[K]
 exact hd
theorem Yl.ext{e:Av_->Sem Value}{v:Value}{ρ:Operand->Value}(he:BX P f e)(O:args.map ρ=vs.toArray)(h:e vs.toArray=.pure v):Yl P ⟨d,.call ⟨.value (.func f),args,ats⟩,ty,pp,af,g⟩ ρ s v∨ρ (.func f)≠ .func (.func f) #[] #[]:=by
 by_cases K:ρ (.func f)=.func (.func f) #[] #[]
 .left;obtain⟨fn,U,Y,Z,ac,ag⟩:=he.h;unfold Yl;simp only[execOp,resolve,bind,Sem.bind,Deferred.ofValue,K,pure,invoke];have ai: #[]++args.map ρ++ #[]=vs.toArray:=by rw[O];simp
  rw[ai];have aj:fn.body=none:=by simpa using Z
  simp only[callFunc,bind,Sem.bind,program,lp,U,Y,aj,Option.isNone_none,qP,rr,rH,mark,ac,ag,h,pure];exact⟨.inr ⟨f,V⟩,trivial,trivial⟩
 .exact .inr K
theorem JL.ext{e:Av_->Sem Value}{v:Value}(O:ops[i]?=some ⟨d,.call ⟨.value (.func f),args,ats⟩,ty,pp,af,g⟩)(hw:A3 L ops ⟨d,.call ⟨.value (.func f),args,ats⟩,ty,pp,af,g⟩=some true)(U:BV b n ⟨d,.call ⟨.value (.func f),args,ats⟩,ty,pp,af,g⟩=true)
  (he:BX P f e) (Y:evs L args.toList=some vs) (Z:e vs.toArray=.pure v) (h:JL J Q b n (AE L d v) ds (.inRegion ops rest::k) cs s):JL J Q b n L ds (.inRegion ops (i::rest)::k) cs s:=
 Bp O hw U (λρ K=>by
  have ac:args.map ρ=vs.toArray:=by
   rw[← GI K Y]
   apply rW;simp
  rcases Yl.ext (s:=s) (d:=d) (ats:=ats) (ty:=ty) (pp:=pp) (af:=af) (g:=g) he ac Z with q | q;exact q
  .exact absurd (K (.func f) _ rfl) q) h
end
section
variable {P:Program}{L:WgLink}(H:WgLib P L){F:Fam}{n:Nat}{M:Env}{ds:Ld_}{k:Li_}{cs:Lf_}{s:St}{b:Frame}
include H
theorem av(K:ops[i]?=some ⟨d,.call ⟨.value (.func L.uAdd),#[x,y],ats⟩,ty,pp,af,g⟩)(hw:A3 M ops ⟨d,.call ⟨.value (.func L.uAdd),#[x,y],ats⟩,ty,pp,af,g⟩=some true)(O:((b.kind != .early)&&BA n d)=true)
  (U:ev M x=some (.pointer (some F.sA))) (Y:ev M y=some (.int .u64 18446744069414584320))
  (Z:JL (Bd P false) (Stop P F .Hz) b n (AE M d (.int .u64 (Fam.word 0 1))) ds (.inRegion ops rest::k) cs .quiet)
  (ac:∀v wt:Nat,v<2147483647->wt<=1->¬(v=0/\wt=1)->JL (IY P) (JF P 1) b n (AE M d (.int .u64 (Fam.word v wt))) ds (.inRegion ops rest::k) cs .quiet):
  JL (Bd P false) (Stop P F .H4) b n M ds (.inRegion ops (i::rest)::k) cs .quiet:=by
 refine HQ (vs:=[.pointer (some F.sA),.int .u64 18446744069414584320]) K hw O H.f_uAdd (nm_uAdd L) V (by simp[evs,U,Y]) (qN V) λal back=>JL.go 8 V (Bp V V V (λρ h=>Yl.fieldAddr H.underlying_tAU V (GW H.sizeOf_tU64) (h _ _ V)) ?_);refine JL.go 1 V (b8 V V V V (Ve H) V V ?_ λv wt ag ai aj=>?_);refine Bp V V V (λρ h=>Yl.assign (h _ _ V)) (JL.done ?_);exact JL.ret V V (BK.one H.f_uAdd V V) (back _ _ _ _ Z);refine Bp V V V (λρ h=>Yl.assign (h _ _ V)) (JL.done ?_);exact JL.ret V V (BK.one H.f_uAdd V V) (back _ _ _ _ (ac v wt ag ai aj))
theorem ZG{j:Nat}(K:s.q=false)(O:ops[i]?=some ⟨d,.call ⟨.value (.func L.uAdd),#[x,y],ats⟩,ty,pp,af,g⟩)(hw:A3 M ops ⟨d,.call ⟨.value (.func L.uAdd),#[x,y],ats⟩,ty,pp,af,g⟩=some true)(U:((b.kind != .early)&&BA n d)=true)
  (Y:ev M x=some (.pointer (some F.sA))) (Z:ev M y=some (.int .u64 4294967296))
  (ac:JL (Bd P true) (Stop P F (.Je j)) b n (AE M d (.int .u64 (Fam.word 1 0))) ds (.inRegion ops rest::k) cs s)
  (ag:∀v:Nat,1<=v->v<2147483647->JL (Bd P true) (Stop P F (.HH j)) b n (AE M d (.int .u64 (Fam.word (v+1) 0))) ds (.inRegion ops rest::k) cs s):
  JL (Bd P true) (Stop P F (.I8 j)) b n M ds (.inRegion ops (i::rest)::k) cs s:=by
 refine HQ (vs:=[.pointer (some F.sA),.int .u64 4294967296]) O hw U H.f_uAdd (nm_uAdd L) V (by simp[evs,Y,Z]) (qN V) λal back=>JL.go 8 V (Bp V V V (λρ h=>Yl.fieldAddr H.underlying_tAU V (GW H.sizeOf_tU64) (h _ _ V)) ?_);refine JL.go 1 V (b9 K V V V V (Ve H) V V ?_ λv ai aj=>?_);refine Bp V V V (λρ h=>Yl.assign (h _ _ V)) (JL.done ?_);exact JL.ret V V (BK.one H.f_uAdd V V) (back _ _ _ _ ac);refine Bp V V V (λρ h=>Yl.assign (h _ _ V)) (JL.done ?_);exact JL.ret V V (BK.one H.f_uAdd V V) (back _ _ _ _ (ag v ai aj))
theorem JL.uLoad(K:Mi p=true)(O:if Fam.Dr p=true then s=.quiet else s.q=false)(U:p≠ .F9)(Y:Fam.Kl p s=s)(Z:∀v wt sm r,F.act p v wt sm=some r->r.1=(v,wt,sm)/\r.2.1=#[Fam.CC F.sA])(ac:ops[i]?=some ⟨d,.call ⟨.value (.func L.uLoad),#[x],ats⟩,ty,pp,af,g⟩)(hw:A3 M ops ⟨d,.call ⟨.value (.func L.uLoad),#[x],ats⟩,ty,pp,af,g⟩=some true)(ag:((b.kind != .early)&&BA n d)=true)
  (ai:ev M x=some (.pointer (some F.sA)))
  (h:∀v wt sm r,F.act p v wt sm=some r->∃q,r.2.2=.ph q/\JL (Bd P (Fam.Dd p)) (Stop P F q) b n (AE M d (.int .u64 (Fam.word v wt))) ds (.inRegion ops rest::k) cs s):
  JL (Bd P (Fam.Dd p)) (Stop P F p) b n M ds (.inRegion ops (i::rest)::k) cs s:=by
 refine HQ (vs:=[.pointer (some F.sA)]) ac hw ag H.f_uLoad (nm_uLoad L) V (by simp[evs,ai]) (qN V) λam back=>JL.go 8 V (Bp V V V (λρ h=>Yl.fieldAddr H.underlying_tAU V (GW H.sizeOf_tU64) (h _ _ V)) ?_);refine gD K O U Y Z V V V V (aW H) V λv wt sm r aj=>?_;let⟨q,al,hj⟩:=h v wt sm r aj;refine⟨q,al,?_⟩;refine Bp V V V (λρ h=>Yl.assign (h _ _ V)) (JL.done ?_);exact JL.ret V V (BK.one H.f_uLoad V V) (back _ _ _ _ hj)
theorem JL.uStore(K:ops[i]?=some ⟨d,.call ⟨.value (.func L.uStore),#[x,y],ats⟩,ty,pp,af,g⟩)(hw:A3 M ops ⟨d,.call ⟨.value (.func L.uStore),#[x,y],ats⟩,ty,pp,af,g⟩=some true)(O:((b.kind != .early)&&BA n d)=true)
  (U:ev M x=some (.pointer (some F.sA))) (Y:ev M y=some (.int .u64 0))
  (h:JL (Bd P false) (Stop P F .F9) b n (AE M d (.tuple #[])) ds (.inRegion ops rest::k) cs .quiet):
  JL (Bd P false) (Stop P F .HV) b n M ds (.inRegion ops (i::rest)::k) cs .quiet:=by
 refine HQ (vs:=[.pointer (some F.sA),.int .u64 0]) K hw O H.f_uStore (nm_uStore L) V (by simp[evs,U,Y]) (qN V) λZ back=>JL.go 3 V (Bp V V V (λρ h=>Yl.fieldAddr H.underlying_tAU V (GW H.sizeOf_tU64) (h _ _ V)) ?_);refine JL.go 1 V (gM V V V V (Zk H) V V ?_);exact JL.done (JL.fin V V (BK.none H.f_uStore V) (back _ _ _ _ h))
theorem JL.uCas{m:Nat}(K:s.q=false)(O:ops[i]?=some ⟨d,.call ⟨.value (.func L.uCas),#[x,y,z],ats⟩,ty,pp,af,g⟩)(hw:A3 M ops ⟨d,.call ⟨.value (.func L.uCas),#[x,y,z],ats⟩,ty,pp,af,g⟩=some true)(U:((b.kind != .early)&&BA n d)=true)
  (Y:ev M x=some (.pointer (some F.sA))) (Z:ev M y=some (.int .u64 (Fam.word m 0))) (ac:ev M z=some (.int .u64 (Fam.word m 1)))
  (ag:JL (Bd P true) (Stop P F .Jh) b n (AE M d (.bool true)) ds (.inRegion ops rest::k) cs s)
  (ai:JL (Bd P true) (Stop P F (.GM (m - 1))) b n (AE M d (.bool false)) ds (.inRegion ops rest::k) cs s):
  JL (Bd P true) (Stop P F (.H2 m)) b n M ds (.inRegion ops (i::rest)::k) cs s:=by
 refine HQ (vs:=[.pointer (some F.sA),.int .u64 (Fam.word m 0),.int .u64 (Fam.word m 1)]) O hw U H.f_uCas (nm_uCas L) V (by simp[evs,Y,Z,ac]) (qN V) λaj back=>JL.go 8 V (Bp V V V (λρ h=>Yl.fieldAddr H.underlying_tAU V (GW H.sizeOf_tU64) (h _ _ V)) ?_);refine JL.go 2 V (gl (m:=m) K V V V V (de H) V V V ?_ ?_);refine Bp V V V (λρ h=>Yl.assign (h _ _ V)) (JL.done ?_);exact JL.ret V V (BK.one H.f_uCas V V) (back _ _ _ _ ag);refine Bp V V V (λρ h=>Yl.assign (h _ _ V)) (JL.done ?_);exact JL.ret V V (BK.one H.f_uCas V V) (back _ _ _ _ ai)
end
theorem Mp{v wt:Nat}(K:v<2147483648)(O:wt<=1):IntKind.u64.wrap (BitVec.ofInt IntKind.u64.bits (Fam.word v wt)&&& BitVec.ofInt IntKind.u64.bits 2147483648).toNat=0:=by
 have:=Go.ConcN.st_flag v wt K O;simpa [bits,Fam.word,Fam.KK] using this
theorem My{v wt:Nat}(K:v<2147483648)(O:wt<=1):IntKind.u64.wrap (BitVec.ofInt IntKind.u64.bits (Fam.word v wt)&&& BitVec.ofInt IntKind.u64.bits 2147483647).toNat=(wt:Int):=by
 have:=Go.ConcN.st_waiters v wt K O;simpa [bits,Fam.word,Fam.KK] using this
theorem Md{v wt:Nat}(K:wt<=1):(Fam.word v wt).fdiv (2^(min (32:Int).toNat IntKind.u64.bits))=(v:Int):=by
 have e:(2:Int)^(min (32:Int).toNat IntKind.u64.bits)=4294967296:=by decide
 rw[e,sT _ (by decide)];simp only[Fam.word,Fam.KK];omega
theorem wrap_i32{v:Nat}(K:v<2147483648):IntKind.i32.wrap (v:Int)=v:=by
 simp only[IntKind.wrap,IntKind.bits,IntKind.signed];simp;split<;>omega
theorem wrap_u32{v:Nat}(K:v<=1):IntKind.u32.wrap (v:Int)=v:=by
 simp only[IntKind.wrap,IntKind.bits,IntKind.signed];simp;omega
theorem Zx{F:Fam}:∀v wt sm r,F.act .Hz v wt sm=some r->r.1=(v,wt,sm)/\r.2.1=#[Fam.CC F.sA]:=by
 intro v wt sm r h;simp only[Fam.act] at h;split at h;rename_i K;obtain⟨rfl,rfl⟩:=K;cases h;exact⟨V,V⟩;cases h
theorem aL{F:Fam}{v wt:Nat}{r}(h:F.act .Hz v wt sm=some r):v=0/\wt=1/\r.2.2=.ph .HV:=by
 simp only[Fam.act] at h;split at h;rename_i K;cases h;exact⟨K.1,K.2,V⟩;cases h
section
variable {P:Program}{L:WgLink}(H:WgLib P L){F:Fam}{n:Nat}{M:Env}{ds:Ld_}{k:Li_}{cs:Lf_}{s:St}{b:Frame}
include H
theorem Za(U:s.q=false)(Y:ops[i]?=some ⟨d,.call ⟨.value (.func L.add),#[x,y],ats⟩,ty,pp,af,g⟩)(hw:A3 M ops ⟨d,.call ⟨.value (.func L.add),#[x,y],ats⟩,ty,pp,af,g⟩=some true)(Z:((b.kind != .early)&&BA n d)=true)
  (ac:ev M x=some (.pointer (some F.sA))) (ag:ev M y=some (.int .i64 (-1)))
  (h:JL (IY P) (JF P 0) b n (AE M d (.tuple #[])) ds (.inRegion ops rest::k) cs .quiet):
  JL (Bd P false) (Stop P F .IG) b n M ds (.inRegion ops (i::rest)::k) cs s:=by
 refine HQ (vs:=[.pointer (some F.sA),.int .i64 (-1)]) Y hw Z H.f_add (nm_add L) V (by simp[evs,ac,ag]) (qN V) λaj back=>JL.go 11 V (M9 (p:=.IG) (q:=.Hk) (ad:=F.sA) V U (by simp) (λ_ _ _=>V) V V V V V H.underlying_tWgP H.underlying_tUP H.room_tWg V (.inl V) ?_)
 refine Q6 (p:=.Hk) (q:=.JJ) (mk:=.releaseMerge) (ad:=F.sA) (vs:=[.pointer (some F.sA)]) V U (by simp) (λ_ _ _=>V) V V V V (by simp) (S3 H) V V (JL.go 3 V ?_);refine M6 (p:=.JJ) (q:=.H4) V V (by simp) (λ_ _ _=>V) V V V V V (by simp) (Oe H) (JL.go 2 V ?_);refine JL.defer (vs:=[]) V V V V V (JL.go 8 V ?_);refine JL.ext (vs:=[]) V V V (Tq H) V V (JL.go 7 V ?_);refine Bp V V V (λρ h=>Yl.fieldAddr H.underlying_tWg V (GW H.sizeOf_tAU) (h _ _ V)) (JL.go 1 V ?_);refine Bp V V V (λρ h=>F6 H.underlying_t3 H.underlying_tU64 (h _ _ V)) ?_
 refine Bp (v:=.int .u64 18446744069414584320) V V V (λρ h=>(Yl.shl (h _ _ V) (h _ _ V) (by decide)).to (qS _ (by decide))) (av H V V V V V ?_ λv wt al K am=>?_)
 .refine Bp V V V (λρ h=>Yl.assign (h _ _ V)) (JL.go 5 V ?_);refine Bp (v:=.int .u64 0) V V V (λρ h=>(Yl.and (h _ _ V) (h _ _ V)).to (qS _ (Mp (v:=0) (wt:=1) (by decide) (by decide)))) (Bp V V V (λρ h=>Yl.neq (h _ _ V) (h _ _ V)) ?_);refine JL.go 10 V (Bp (v:=.int .u64 (0:Nat)) V V V (λρ h=>(Yl.shr (h _ _ V) (h _ _ V) (by decide)).to (qS _ (Md (v:=0) (wt:=1) (by decide)))) ?_);refine Bp (v:=.int .i32 (0:Nat)) V V V (λρ h=>(F6 H.underlying_tU64 H.underlying_t21 (h _ _ V)).to (qS _ (wrap_i32 (by decide)))) ?_
  refine JL.go 5 V (Bp (v:=.int .u64 (1:Nat)) V V V (λρ h=>(Yl.and (h _ _ V) (h _ _ V)).to (qS _ (My (v:=0) (wt:=1) (by decide) (by decide)))) ?_);refine Bp (v:=.int .u32 (1:Nat)) V V V (λρ h=>(F6 H.underlying_tU64 H.underlying_tU32 (h _ _ V)).to (qS _ (wrap_u32 (by decide)))) ?_
  refine JL.go 30 V (Bp V V V (λρ h=>Yl.neq (h _ _ V) (h _ _ V)) ?_);refine JL.go 30 V (Bp V V V (λρ h=>Yl.fieldAddr H.underlying_tWg V (GW H.sizeOf_tAU) (h _ _ V)) ?_);refine JL.uLoad H (p:=.Hz) V V (by simp) V Zx V V V V λv wt sm r ai=>?_;obtain⟨rfl,rfl,e⟩:=aL ai;refine⟨.HV,e,?_⟩;refine JL.go 1 V (Bp (v:=.bool false) V V V (λρ h=>(Yl.neq (h _ _ V) (h _ _ V)).to (by simp)) ?_);refine JL.go 7 V (Bp V V V (λρ h=>Yl.fieldAddr H.underlying_tWg V (GW H.sizeOf_tAU) (h _ _ V)) ?_);refine JL.uStore H V V V V V (JL.go 9 V ?_);refine IV (JL.go 4 V ?_);refine Bp V V V (λρ h=>Yl.neq (h _ _ V) (h _ _ V)) (JL.go 8 V ?_);refine Bp V V V (λρ h=>Yl.fieldAddr H.underlying_tWg V (GW H.sizeOf_tU32) (h _ _ V)) (ba (vs:=[.pointer (some F.mA),.bool false,.int .i64 0]) V V V V (YT H) V V ?_);refine JL.go 4 V (Bp (v:=.int .u32 ((0:Nat):Int)) V V V (λρ h=>(Yl.sub (h _ _ V) (h _ _ V)).to (qS _ (by decide))) ?_);refine JL.go 2 V (JL.again ?_);refine JL.go 4 V (Bp V V V (λρ h=>Yl.neq (h _ _ V) (h _ _ V)) ?_);refine JL.go 3 V (JL.out V (JO.OM V (J2 H) (JO.leave V (BK.none H.f_add V) (back _ _ _ _ h))))
 .refine Bp V V V (λρ h=>Yl.assign (h _ _ V)) (JL.go 5 V ?_);refine Bp (v:=.int .u64 0) V V V (λρ h=>(Yl.and (h _ _ V) (h _ _ V)).to (qS _ (Mp (v:=v) (wt:=wt) (by omega) K))) (Bp V V V (λρ h=>Yl.neq (h _ _ V) (h _ _ V)) ?_);refine JL.go 10 V (Bp (v:=.int .u64 (v:Nat)) V V V (λρ h=>(Yl.shr (h _ _ V) (h _ _ V) (by decide)).to (qS _ (Md (v:=v) (wt:=wt) K))) ?_);refine Bp (v:=.int .i32 (v:Nat)) V V V (λρ h=>(F6 H.underlying_tU64 H.underlying_t21 (h _ _ V)).to (qS _ (wrap_i32 (by omega)))) ?_
  refine JL.go 5 V (Bp (v:=.int .u64 (wt:Nat)) V V V (λρ h=>(Yl.and (h _ _ V) (h _ _ V)).to (qS _ (My (v:=v) (wt:=wt) (by omega) K))) ?_);refine Bp (v:=.int .u32 (wt:Nat)) V V V (λρ h=>(F6 H.underlying_tU64 H.underlying_tU32 (h _ _ V)).to (qS _ (wrap_u32 K))) ?_
  refine JL.go 22 V (Bp (v:=.bool false) V V V (λρ h=>(Yl.lss (h _ _ V) (h _ _ V)).to (by simp)) ?_);refine JL.go 6 V ?_;by_cases O:wt=0;refine Bp V V V (λρ h=>Yl.move (h _ _ V)) (Bp (v:=.bool false) V V V (λρ h=>(Yl.neq (h _ _ V) (h _ _ V)).to (by simp[O])) ?_);refine JL.go 16 V ?_;by_cases ap:0<v;refine Bp V V V (λρ h=>Yl.move (h _ _ V)) (Bp (v:=.bool true) V V V (λρ h=>(Yl.gtr (h _ _ V) (h _ _ V)).to (by simp<;>omega)) ?_);refine JL.go 6 V (Ik V (JO.OM V (J2 H) (JO.leave V (BK.none H.f_add V) (back _ _ _ _ h))));refine Bp V V V (λρ h=>Yl.move (h _ _ V)) (Bp (v:=.bool false) V V V (λρ h=>(Yl.gtr (h _ _ V) (h _ _ V)).to (by simp<;>omega)) ?_);refine JL.go 2 V (Bp (v:=.bool true) V V V (λρ h=>(Yl.eql (h _ _ V) (h _ _ V)).to (by simp[O])) ?_);refine JL.go 3 V (Ik V (JO.OM V (J2 H) (JO.leave V (BK.none H.f_add V) (back _ _ _ _ h))));refine Bp V V V (λρ h=>Yl.move (h _ _ V)) (Bp (v:=.bool true) V V V (λρ h=>(Yl.neq (h _ _ V) (h _ _ V)).to (by simp[O])) ?_);refine JL.go 17 V (Bp (v:=.bool true) V V V (λρ h=>(Yl.gtr (h _ _ V) (h _ _ V)).to (by simp<;>omega)) ?_);refine JL.go 6 V (Ik V (JO.OM V (J2 H) (JO.leave V (BK.none H.f_add V) (back _ _ _ _ h))))
theorem Zd{j:Nat}(K:s.q=false)(O:ops[i]?=some ⟨d,.call ⟨.value (.func L.add),#[x,y],ats⟩,ty,pp,af,g⟩)(hw:A3 M ops ⟨d,.call ⟨.value (.func L.add),#[x,y],ats⟩,ty,pp,af,g⟩=some true)(U:((b.kind != .early)&&BA n d)=true)
  (Y:ev M x=some (.pointer (some F.sA))) (Z:ev M y=some (.int .i64 1))
  (h:JL (Bd P true) (Stop P F (.Gy j)) b n (AE M d (.tuple #[])) ds (.inRegion ops rest::k) cs s):
  JL (Bd P true) (Stop P F (.G5 j)) b n M ds (.inRegion ops (i::rest)::k) cs s:=by
 refine HQ (vs:=[.pointer (some F.sA),.int .i64 1]) O hw U H.f_add (nm_add L) V (by simp[evs,Y,Z]) (qN V) λac back=>JL.go 12 V (M6 (p:=.G5 j) (q:=.I8 j) V K (by simp) (λ_ _ _=>V) V V V V V (by simp) (Oe H) ?_);refine JL.go 2 V (JL.defer (vs:=[]) V V V V V ?_);refine JL.go 8 V (JL.ext (vs:=[]) V V V (Tq H) V V ?_);refine JL.go 7 V (Bp V V V (λρ h=>Yl.fieldAddr H.underlying_tWg V (GW H.sizeOf_tAU) (h _ _ V)) ?_);refine JL.go 1 V (Bp V V V (λρ h=>F6 H.underlying_t3 H.underlying_tU64 (h _ _ V)) ?_)
 refine Bp (v:=.int .u64 4294967296) V V V (λρ h=>(Yl.shl (h _ _ V) (h _ _ V) (by decide)).to (qS _ (by decide))) (ZG H K V V V V V ?_ λv ag ai=>?_)
 .refine Bp V V V (λρ h=>Yl.assign (h _ _ V)) (JL.go 5 V ?_);refine Bp (v:=.int .u64 0) V V V (λρ h=>(Yl.and (h _ _ V) (h _ _ V)).to (qS _ (Mp (v:=1) (wt:=0) (by decide) (by decide)))) (Bp V V V (λρ h=>Yl.neq (h _ _ V) (h _ _ V)) ?_);refine JL.go 10 V (Bp (v:=.int .u64 (1:Nat)) V V V (λρ h=>(Yl.shr (h _ _ V) (h _ _ V) (by decide)).to (qS _ (Md (v:=1) (wt:=0) (by decide)))) ?_);refine Bp (v:=.int .i32 (1:Nat)) V V V (λρ h=>(F6 H.underlying_tU64 H.underlying_t21 (h _ _ V)).to (qS _ (wrap_i32 (by decide)))) ?_
  refine JL.go 5 V (Bp (v:=.int .u64 (0:Nat)) V V V (λρ h=>(Yl.and (h _ _ V) (h _ _ V)).to (qS _ (My (v:=1) (wt:=0) (by decide) (by decide)))) ?_);refine Bp (v:=.int .u32 (0:Nat)) V V V (λρ h=>(F6 H.underlying_tU64 H.underlying_tU32 (h _ _ V)).to (qS _ (wrap_u32 (by decide)))) ?_
  refine JL.go 12 V (Bp (v:=.int .i32 1) V V V (λρ h=>(F6 H.underlying_t3 H.underlying_t21 (h _ _ V)).to (qS _ (by decide))) ?_)
  refine Bp (v:=.bool true) V V V (λρ h=>(Yl.eql (h _ _ V) (h _ _ V)).to (by simp)) (JL.go 6 V ?_);refine Bp V V V (λρ h=>Yl.fieldAddr H.underlying_tWg V (GW H.sizeOf_tU32) (h _ _ V)) (M9 (p:=.Je j) (q:=.Iz j) (ad:=F.mA) V K (by simp) (λ_ _ _=>V) V V V V V H.underlying_tPU32 H.underlying_tUP H.room_tU32 V (.inr V) ?_)
  refine Q6 (p:=.Iz j) (q:=.HH j) (mk:=.read) (ad:=F.mA) (vs:=[.pointer (some F.mA)]) V K (by simp) (λ_ _ _=>V) V V V V (by simp) (aA H) V V (JL.go 5 V ?_);refine Bp (v:=.bool false) V V V (λρ h=>(Yl.lss (h _ _ V) (h _ _ V)).to (by simp)) (JL.go 7 V ?_);refine Bp (v:=.bool false) V V V (λρ h=>(Yl.neq (h _ _ V) (h _ _ V)).to (by simp)) (JL.go 17 V ?_);refine Bp (v:=.bool true) V V V (λρ h=>(Yl.gtr (h _ _ V) (h _ _ V)).to (by simp)) (JL.go 6 V ?_);exact Ik V (JO.U3 K V (J2 H) (JO.leave V (BK.none H.f_add V) (back _ _ _ _ h)))
 .refine Bp V V V (λρ h=>Yl.assign (h _ _ V)) (JL.go 5 V ?_);refine Bp (v:=.int .u64 0) V V V (λρ h=>(Yl.and (h _ _ V) (h _ _ V)).to (qS _ (Mp (v:=(v+1)) (wt:=0) (by omega) (by decide)))) (Bp V V V (λρ h=>Yl.neq (h _ _ V) (h _ _ V)) ?_);refine JL.go 10 V (Bp (v:=.int .u64 ((v+1):Nat)) V V V (λρ h=>(Yl.shr (h _ _ V) (h _ _ V) (by decide)).to (qS _ (Md (v:=(v+1)) (wt:=0) (by decide)))) ?_);refine Bp (v:=.int .i32 ((v+1):Nat)) V V V (λρ h=>(F6 H.underlying_tU64 H.underlying_t21 (h _ _ V)).to (qS _ (wrap_i32 (by omega)))) ?_
  refine JL.go 5 V (Bp (v:=.int .u64 (0:Nat)) V V V (λρ h=>(Yl.and (h _ _ V) (h _ _ V)).to (qS _ (My (v:=(v+1)) (wt:=0) (by omega) (by decide)))) ?_);refine Bp (v:=.int .u32 (0:Nat)) V V V (λρ h=>(F6 H.underlying_tU64 H.underlying_tU32 (h _ _ V)).to (qS _ (wrap_u32 (by decide)))) ?_
  refine JL.go 12 V (Bp (v:=.int .i32 1) V V V (λρ h=>(F6 H.underlying_t3 H.underlying_t21 (h _ _ V)).to (qS _ (by decide))) ?_)
  refine Bp (v:=.bool false) V V V (λρ h=>(Yl.eql (h _ _ V) (h _ _ V)).to (by simp<;>omega)) (JL.go 8 V ?_);refine Bp (v:=.bool false) V V V (λρ h=>(Yl.lss (h _ _ V) (h _ _ V)).to (by simp<;>omega)) (JL.go 7 V ?_);refine Bp (v:=.bool false) V V V (λρ h=>(Yl.neq (h _ _ V) (h _ _ V)).to (by simp)) (JL.go 17 V ?_);refine Bp (v:=.bool true) V V V (λρ h=>(Yl.gtr (h _ _ V) (h _ _ V)).to (by simp<;>omega)) (JL.go 6 V ?_);exact Ik V (JO.U3 K V (J2 H) (JO.leave V (BK.none H.f_add V) (back _ _ _ _ h)))
omit H in
theorem YP{m:Nat}:∀v wt sm r,F.act (.GM m) v wt sm=some r->r.1=(v,wt,sm)/\r.2.1=#[Fam.CC F.sA]:=by
 intro v wt sm r h;simp only[Fam.act] at h;split at h;rename_i K;obtain⟨_,rfl⟩:=K;cases h;exact⟨V,V⟩;cases h
omit H in
theorem Z4{m v wt:Nat}{r}(h:F.act (.GM m) v wt sm=some r):v<=m/\wt=0/\r.2.2=if v=0 then .ph .GU else .ph (.H2 v):=by
 simp only[Fam.act] at h;split at h;rename_i K;cases h;exact⟨K.1,K.2,V⟩;cases h
omit H in
theorem Yt:∀v wt sm r,F.act .HU v wt sm=some r->r.1=(v,wt,sm)/\r.2.1=#[Fam.CC F.sA]:=by
 intro v wt sm r h;simp only[Fam.act] at h;split at h;rename_i K;obtain⟨rfl,rfl⟩:=K;cases h;exact⟨V,V⟩;cases h
omit H in
theorem YN{v wt:Nat}{r}(h:F.act .HU v wt sm=some r):v=0/\wt=0/\r.2.2=.ph .GU:=by
 simp only[Fam.act] at h;split at h;rename_i K;cases h;exact⟨K.1,K.2,V⟩;cases h
omit H in
theorem YG{v:Nat}(K:v<2147483648):IntKind.u64.wrap (Fam.word v 0+1)=Fam.word v 1:=by
 simp only[Fam.word,Fam.KK,IntKind.wrap,IntKind.bits,IntKind.signed];simp;omega
theorem JL.wait(al:F.n<2147483648)(K:s.q=false)(am:ops[i]?=some ⟨d,.call ⟨.value (.func L.wait),#[x],ats⟩,ty,pp,af,g⟩)(hw:A3 M ops ⟨d,.call ⟨.value (.func L.wait),#[x],ats⟩,ty,pp,af,g⟩=some true)(ap:((b.kind != .early)&&BA n d)=true)
  (aq:ev M x=some (.pointer (some F.sA)))
  {Q:GP}(ai:∀g s,(Hj P).ok Q g s->F.fin g s)
  (h:∀E' f,Le s.E E'->E' F.fd=none->(∀b,E' b≠none->s.H b=none)->(∀k,k<F.n->F.msg k (f k) E')->JL (Hj P) Q b n (AE M d (.tuple #[])) ds (.inRegion ops rest::k) cs ⟨E',F.KH s.H f,false⟩):
  JL (Bd P true) (Stop P F .Et) b n M ds (.inRegion ops (i::rest)::k) cs s:=by
 refine HQ (vs:=[.pointer (some F.sA)]) am hw ap H.f_wait (nm_wait L) V (by simp[evs,aq]) (qN V) λa1 back=>JL.go 3 V (M6 (p:=.Et) (q:=.GM F.n) V K (by simp) (λ_ _ _=>V) V V V V V (by simp) (Oe H) ?_);refine JL.go 2 V (IV ?_);refine DR (L':=[(0,.pointer (some F.sA))]) ⟨V,trivial⟩ ?_;generalize F.n=m at al ⊢
 induction m using Nat.strongRecOn with
 | _ m aw=>?_
 refine JL.go 5 V (Bp V V V (λρ h=>Yl.fieldAddr H.underlying_tWg V (GW H.sizeOf_tAU) (h _ _ V)) ?_);refine JL.uLoad H (p:=.GM m) V K (by simp) V YP V V V V λv wt sm r U=>?_;obtain⟨a2,rfl,e⟩:=Z4 U;have O:v<2147483648:=by omega
 by_cases aj:v=0
 .subst aj;refine⟨.GU,e,?_⟩;refine JL.go 5 V (Bp (v:=.int .u64 (0:Nat)) V V V (λρ h=>(Yl.shr (h _ _ V) (h _ _ V) (by decide)).to (qS _ (Md (v:=0) (wt:=0) (by decide)))) ?_);refine Bp (v:=.int .i32 (0:Nat)) V V V (λρ h=>(F6 H.underlying_tU64 H.underlying_t21 (h _ _ V)).to (qS _ (wrap_i32 (by decide)))) ?_
  refine JL.go 5 V (Bp (v:=.int .u64 ((0:Nat):Int)) V V V (λρ h=>(Yl.and (h _ _ V) (h _ _ V)).to (qS _ (My (v:=0) (wt:=0) (by decide) (by decide)))) ?_);refine Bp (v:=.int .u32 ((0:Nat):Int)) V V V (λρ h=>(F6 H.underlying_tU64 H.underlying_tU32 (h _ _ V)).to (qS _ (wrap_u32 (by decide)))) ?_
  refine JL.go 6 V (Bp (v:=.bool true) V V V (λρ h=>(Yl.eql (h _ _ V) (h _ _ V)).to (by simp)) ?_);refine JL.go 6 V (M6 (p:=.GU) (q:=.I9) V K (by simp) (λ_ _ _=>V) V V V V V (by simp) (J2 H) ?_);refine JL.go 3 V (M9 (p:=.I9) (q:=.G4) (ad:=F.sA) V K (by simp) (λ_ _ _=>V) V V V V V H.underlying_tWgP H.underlying_tUP H.room_tWg V (.inl V) ?_)
  refine Vo (vs:=[.pointer (some F.sA)]) K V V V V (QN H) V V λE' Y z1 Z ac ag T a0=>ai _ _ ?_;revert T;refine(?_:JL (Hj P) Q _ _ _ _ _ _ _);refine JL.go 5 V (Bp (v:=.bool true) V V V (λρ h=>(Yl.eql (h _ _ V) (h _ _ V)).to (by simp)) ?_);refine JL.go 2 V (Bp (v:=.int .u64 0) V V V (λρ h=>(Yl.and (h _ _ V) (h _ _ V)).to (qS _ (Mp (v:=0) (wt:=0) (by decide) (by decide)))) ?_);refine Bp (v:=.bool false) V V V (λρ h=>(Yl.neq (h _ _ V) (h _ _ V)).to (by simp)) (JL.go 8 V ?_);exact JL.ret V V (BK.none H.f_wait V) (back _ _ _ _ (h E' Y z1 Z ac ag))
 .refine⟨.H2 v,by rw[e,d7 aj],?_⟩;refine JL.go 5 V (Bp (v:=.int .u64 (v:Nat)) V V V (λρ h=>(Yl.shr (h _ _ V) (h _ _ V) (by decide)).to (qS _ (Md (v:=v) (wt:=0) (by decide)))) ?_);refine Bp (v:=.int .i32 (v:Nat)) V V V (λρ h=>(F6 H.underlying_tU64 H.underlying_t21 (h _ _ V)).to (qS _ (wrap_i32 O))) ?_
  refine JL.go 5 V (Bp (v:=.int .u64 ((0:Nat):Int)) V V V (λρ h=>(Yl.and (h _ _ V) (h _ _ V)).to (qS _ (My (v:=v) (wt:=0) O (by decide)))) ?_);refine Bp (v:=.int .u32 ((0:Nat):Int)) V V V (λρ h=>(F6 H.underlying_tU64 H.underlying_tU32 (h _ _ V)).to (qS _ (wrap_u32 (by decide)))) ?_
  refine JL.go 6 V (Bp (v:=.bool false) V V V (λρ h=>(Yl.eql (h _ _ V) (h _ _ V)).to (by simp<;>omega)) ?_);refine JL.go 7 V (Bp V V V (λρ h=>Yl.fieldAddr H.underlying_tWg V (GW H.sizeOf_tAU) (h _ _ V)) ?_);refine JL.go 2 V (Bp (v:=.int .u64 (Fam.word v 1)) V V V (λρ h=>(Yl.add (h _ _ V) (h _ _ V)).to (qS _ (YG O))) ?_);refine JL.uCas H (m:=v) K V V V V V V ?_ ?_
  .refine JL.done (JL.go 6 V ?_);refine Bp (v:=.bool true) V V V (λρ h=>(Yl.eql (h _ _ V) (h _ _ V)).to (by simp)) (JL.go 6 V ?_);refine Bp V V V (λρ h=>Yl.fieldAddr H.underlying_tWg V (GW H.sizeOf_tU32) (h _ _ V)) (M9 (p:=.Jh) (q:=.IJ) (ad:=F.mA) V K (by simp) (λ_ _ _=>V) V V V V V H.underlying_tPU32 H.underlying_tUP H.room_tU32 V (.inr V) ?_)
   refine Q6 (p:=.IJ) (q:=.Gp) (mk:=.write) (ad:=F.mA) (vs:=[.pointer (some F.mA)]) V K (by simp) (λ_ _ _=>V) V V V V (by simp) (Y9 H) V V (JL.go 9 V ?_);refine Bp (v:=.int .u64 0) V V V (λρ h=>(Yl.and (h _ _ V) (h _ _ V)).to (qS _ (Mp (v:=v) (wt:=0) O (by decide)))) (Bp (v:=.bool false) V V V (λρ h=>(Yl.neq (h _ _ V) (h _ _ V)).to (by simp)) ?_);refine JL.go 10 V (Bp V V V (λρ h=>Yl.fieldAddr H.underlying_tWg V (GW H.sizeOf_tU32) (h _ _ V)) ?_);refine JL.go 1 V (Yw (vs:=[.pointer (some F.mA),.bool false]) K V V V V (XY H) V V ?_);refine JL.go 5 V (Bp V V V (λρ h=>Yl.fieldAddr H.underlying_tWg V (GW H.sizeOf_tAU) (h _ _ V)) ?_);refine JL.uLoad H (p:=.HU) V K (by simp) V Yt V V V V λv wt sm r U=>?_;obtain⟨rfl,rfl,e⟩:=YN U;refine⟨.GU,e,?_⟩;refine Bp (v:=.bool false) V V V (λρ h=>(Yl.neq (h _ _ V) (h _ _ V)).to (by simp[Fam.word])) (JL.go 6 V ?_);refine M6 (p:=.GU) (q:=.I9) V K (by simp) (λ_ _ _=>V) V V V V V (by simp) (J2 H) (JL.go 3 V ?_);refine M9 (p:=.I9) (q:=.G4) (ad:=F.sA) V K (by simp) (λ_ _ _=>V) V V V V V H.underlying_tWgP H.underlying_tUP H.room_tWg V (.inl V) ?_
   refine Vo (vs:=[.pointer (some F.sA)]) K V V V V (QN H) V V λE' Y z1 Z ac ag T a0=>ai _ _ ?_;revert T;refine(?_:JL (Hj P) Q _ _ _ _ _ _ _);exact JL.go 8 V (JL.ret V V (BK.none H.f_wait V) (back _ _ _ _ (h E' Y z1 Z ac ag)))
  .refine JL.done (JL.go 3 V ?_);refine JL.again (DR (L':=[(0,.pointer (some F.sA))]) ⟨V,trivial⟩ ?_);exact aw (v - 1) (by omega) (by omega)
theorem JO.iy(K:b.roundOf=none)(O:s.q=false)(h:JO (IY P) (JF P 0) b n M ds cs .quiet):
  JO (Bd P false) (Stop P F .IG) b n M (dcall L.done #[.pointer (some F.sA)]::ds) cs s:=by
 refine JO.enter (vs:=[.pointer (some F.sA)]) K H.f_done (nm_done L) V (qN V) λT U todo=>JL.go 2 V (Za H O V V V V V ?_);exact JL.done (JL.out V (JO.leaveD V H.f_done V (.inl V) (h T U todo)))
end
end Pal
namespace Pal
open Go Go.Conc
variable {P:Program}{J:Judge P}{Q:Gs_}{g:Goroutine}{cs:Lf_}{c:Frame}{E:LH}{S S':List Seg}
variable{f:FuncId}{vs:Lv_}{seg:Seg}{R:Value->LH->Seg->Prop}
section
variable {H:LH}
theorem OG(K:S.flatten.Perm S'.flatten)(O:Au E H S)(h:Au E H S'->J.ok Q g (Ak E H S')):J.ok Q g (Ak E H S):=by
 have U:Ak E H S=Ak E H S':=FN O K;rw[U];exact h (Nd.perm O K)
theorem Rz(K:S'.flatten=S.flatten)(O:Au E H S)(h:Au E H S'->J.ok Q g (Ak E H S')):J.ok Q g (Ak E H S):=OG (by rw[K]) O h
theorem ZI(j:Nat)(ai:AY J f vs E seg R)(K:Au E H S)(O:S[j]?=some seg)
  (aj:∀v E' seg',Le E E'->R v E' seg'->Au E' H (S.set j seg')->J.ok Q (G (c.finish v) cs) (Ak E' H (S.set j seg'))):
  J.ok Q (G (Frame.enter P f vs.toArray .normal) (c::cs)) (Ak E H S):=by
 have U:S.flatten.Perm (seg++(S.set j []).flatten):=(Cl (seg':=seg) O).1.trans f8;have Y:Nd E H (seg++(S.set j []).flatten):=Nd.perm K U;have al:Ak E H S=mk E (By (S.set j []).flatten H) seg:=by
  rw[show Ak E H S=mk E H S.flatten from rfl,FN K U];unfold mk;rw[Gu]
 have Z:=Fo.Ly (ai (By (S.set j []).flatten H) (Nd.front Y)) (by rintro v s' ⟨E',B',_,_,_,rfl⟩;rfl);rw[← al] at Z;refine Z Q c cs ?_;rintro v a5 ⟨⟨E',B',hle,am,ap,rfl⟩,w,aq⟩;have e2:mk E' (By (S.set j []).flatten H) B'=mk E' H (B'++(S.set j []).flatten):=by unfold mk;rw[Gu]
 have aw:Nd E H (S.set j []).flatten:=by
  have:=Y;rw[Nd.iff] at this ⊢;rw[ru,rS] at this;exact⟨this.1.2.1,λq a0=>this.2 q (rm _ a0)⟩
 have a1:Nd E' H (S.set j []).flatten:=aw.grow λx a2=>by
  have a3:=aq.d x a2;have a4:By B' (By (S.set j []).flatten H) x=none:=a3;exact(Ii a4).1
 have ac:Nd E' H (B'++(S.set j []).flatten):=Nd.glue ap a1;rw[e2];have ag:(B'++(S.set j []).flatten).Perm (S.set j B').flatten:=f8.trans (Cl O).2.symm;rw[FN ac ag];exact aj v E' B' hle am (Nd.perm ac ag)
end
variable {b:Frame}{L:Env}{ds:Ld_}{k:Li_}{ops:Ao_}{i:Nat}{rest:List Nat}{d:Option Tmp}{t ty e:TypeId}{p:String}{af:Ae_}
section
variable {n:Nat}{H:LH}{g:On_}
end
theorem Ys{E H:LH}{a b c:Nat}{K O U:Obj}(ac:Au E H [[(a,K)],[(b,O)],[(c,U)]]):(⟨E,KG (Ak E H [[(a,K)],[(b,O)],[(c,U)]]).H b a c,false⟩:St)=Ak E H []:=by
 have h:=Nd.iff.1 ac;have ag:H a=none:=(h.2 (a,K) (by simp)).2;have ai:H b=none:=(h.2 (b,O) (by simp)).2;have aj:H c=none:=(h.2 (c,U) (by simp)).2;unfold Ak mk;congr 1;funext x;simp only[KG,Ak,mk,q1,s7,qW,rh,rG,By];by_cases Y:x=a;subst Y;simp[ag];by_cases e2:x=b;subst e2;simp[ai];by_cases Z:x=c;subst Z;simp[aj];simp[Y,e2,Z]
theorem Hf{P:Program}{J:Judge P}{Q:Gs_}{b:Frame}{n:Nat}{L:Env}{ds:Ld_}{cs:Lf_}{E H:LH}{S:List Seg}{todo:Li_}{A B:Seg}(j K:Nat)(O:S[j]?=some A)(Z:(S.set j [])[K]?=some B)(ac:Au E H S)
  (h:Au E H (((S.set j []).set K []).set j (A++B))->JL J Q b n L ds todo cs (Ak E H (((S.set j []).set K []).set j (A++B)))):JL J Q b n L ds todo cs (Ak E H S):=by
 refine JS.perm ?_ ac h;have U:j<S.length:=(dY.1 O).1;have ag:=(Cl (seg':=A) O).1;have ai:=(Cl (seg':=B) Z).1;have aj:((S.set j []).set K [])[j]?=some []:=by
  by_cases e:K=j;subst e;rw[rc (by simpa using U)];rw[qU e,rc U]
 have Y:=(Cl (seg':=A++B) aj).2;have al:(((S.set j []).set K []).set j [])=(S.set j []).set K []:=by
  by_cases e:K=j;subst e;simp;rw[sW _ _ e];simp
 rw[al] at Y;refine ag.trans (List.Perm.trans ?_ Y.symm);refine(List.Perm.append_right A ai).trans ?_;rw[qI];exact rp _ f8
def WL{α:Type}(e:TypeId)(pp:Rp α)(E:LH)(bk c n:Nat)(f:Av_)(xs:List α):Prop:=
 OL e pp E (some ⟨bk,0,none⟩) c [(bk,.cells f e (0,0))] xs/\xs.length=n
variable{α:Type}{bk:Nat}
theorem WL.Ag{e:TypeId}{pp:Rp α}{E E':LH}{c n:Nat}{f:Av_}{xs:List α}(h:WL e pp E bk c n f xs)(hle:Le E E'):WL e pp E' bk c n f xs:=⟨h.1.Ag hle,h.2⟩
theorem WL.at{e:TypeId}{pp:Rp α}{E:LH}{c n:Nat}{f:Av_}{xs:List α}{m:Int}{x:α}(h:WL e pp E bk c n f xs)(hm:ix xs m=some x):
  ∃ws,pp.r E ws x/\(∀j w,ws[j]?=some w->f[m.toNat*pp.n+j]?=some w):=by
 let⟨ws,K,O,_,_⟩:=OL.again h.1 hm V;exact⟨ws,K,O⟩
theorem WL.put{e:TypeId}{pp:Rp α}{E:LH}{c n:Nat}{f:Av_}{xs O:List α}{m:Int}{x0 x':α}{ws':Lv_}(h:WL e pp E bk c n f xs)(U:O.length=n)(hm:ix O m=some x0)(Y:pp.r E ws' x'):
  WL e pp E bk c n (Bf f (m.toNat*pp.n) ws') (xs.set m.toNat x')/\m.toNat*pp.n+pp.n<=f.size:=by
 obtain⟨K,rfl,Z⟩:=FP hm;have ac:K<xs.length:=by rw[h.2,← U];exact(dY.1 Z).1
 have ag:ix xs (K:Int)=some xs[K]:=by simp[ix,ac]
 let⟨ws,al,am,ai,aj⟩:=OL.again h.1 ag V;exact⟨⟨aj x' ws' Y,by rw[qY];exact h.2⟩,ai⟩
theorem OL.cases{e:TypeId}{pp:Rp α}{E:LH}{a:Option Addr}{c:Nat}{xs:List α}(h:OL e pp E a c seg xs):
  (a=none/\c=0/\seg=[]/\xs=[])∨∃bk f,a=some ⟨bk,0,none⟩/\seg=[(bk,.cells f e (0,0))]/\WL e pp E bk c xs.length f xs:=by
 have Y:=h;obtain⟨wss,Z,ag,ai⟩:=h;rcases Z with⟨K,O,U,ac,aj⟩ | ⟨bk,f,K,O,U⟩;exact .inl ⟨K,U,ac,uq.1 O⟩;subst K O;exact .inr ⟨bk,f,V,V,Y,V⟩
theorem WL.of{e:TypeId}{pp:Rp α}{E:LH}{a:Option Addr}{c:Nat}{xs:List α}{m:Int}{x:α}(h:OL e pp E a c seg xs)(hm:ix xs m=some x):
  ∃bk f,(a=some ⟨bk,0,none⟩/\seg=[(bk,.cells f e (0,0))])/\WL e pp E bk c xs.length f xs:=by
 rcases OL.cases h with⟨_,_,_,rfl⟩ | ⟨bk,f,K,O,U⟩;let⟨k,_,h⟩:=FP hm;simp at h;exact⟨bk,f,⟨K,O⟩,U⟩
theorem Gj{P:Program}{s:St}{ρ:Operand->Value}{x y:Operand}{d:Option Tmp}{t ty e:TypeId}{p:String}{af:Ae_}{g:On_}{kd:IntKind}{xs:List α}{xv:α}{m:Int}{c sz n:Nat}(K:xs.length=n)(hm:ix xs m=some xv)(O:P.underlying t=some (.slice e))(U:Bz P e=some sz)(Y:ρ x=.slice (some ⟨bk,0,none⟩) n c)(Z:ρ y=.int kd m):
  Yl P ⟨d,.indexAddr t x y,ty,p,af,g⟩ ρ s (.pointer (some ⟨bk,m.toNat*sz,none⟩)):=by
 subst K;exact UG hm O U Y Z
variable{ats:Array TypeId}
theorem Vj{P:Program}{s:St}{ρ:Operand->Value}{x:Operand}{d:Option Tmp}{t ty e:TypeId}{p:String}{af:Ae_}{g:On_}{xs:List α}{a:Option Addr}{n c:Nat}(K:xs.length=n)(O:ats[0]?=some t)(U:P.underlying t=some (.slice e))(Y:ρ x=.slice a n c):
  Yl P ⟨d,.call ⟨.builtin .len,#[x],ats⟩,ty,p,af,g⟩ ρ s (.int .i64 (xs.length:Int)):=by
 subst K;exact Yl.len O U Y
variable {fuel:Nat}{D:Nat->Bool}{listed:Array Bool}{s:St}{E':LH}
variable {x y:Operand}{u:TypeId}{v:Value}{kd:IntKind}
variable{args:Array Operand}
section
variable {n m:Nat}{H:LH}
variable {g:On_}
theorem YK{R:Value->St->Prop}(U:s.q=false)(Y:Region.ready .any ops listed=[i])
  (Z:ops[i]?=some ⟨d,.call ⟨.value x,args,ats⟩,ty,p,af,g⟩) (ac:ev L x=some (.func (.func f) #[] #[])) (ag:BA n d=true) (hw:A3 L ops ⟨d,.call ⟨.value x,args,ats⟩,ty,p,af,g⟩=some true) (hb:Ez P f=true) (ai:evs L args.toList=some vs)
  (aj:Fo J f vs.toArray s R) (h:∀v K,R v K->K.q=false/\(∀x o,(BE D s).E x=some o->(BE D K).E x=some o)/\AQ J Q b n ds ops k cs m D fuel (Bs listed i) (AE L d v) K):
  AQ J Q b n ds ops k cs m D (fuel+1) listed L s:=by
 refine AQ.one U Y Z (by simp[EJ,ag]) hw λρ O=>?_;have al:args.map ρ=vs.toArray:=by
  rw[← GI O ai];apply rW;simp
 have am:ρ x=.func (.func f) #[] #[]:=O _ _ ac;simp only[execOp,resolve,bind,Sem.bind,Deferred.ofValue,am,pure,invoke];have e: #[]++args.map ρ++ #[]=vs.toArray:=by rw[al];simp
 rw[e];refine J0 hb ?_;rw[LZ];exact⟨R,aj,h⟩
theorem Ky{bks:List Nat}(ai:HW S bks)(aj:AY J f vs E [] R)(al:Region.ready .any ops listed=[i])
  (am:ops[i]?=some ⟨d,.call ⟨.value x,args,ats⟩,ty,p,af,g⟩) (K:ev L x=some (.func (.func f) #[] #[])) (ap:BA n d=true) (hw:A3 L ops ⟨d,.call ⟨.value x,args,ats⟩,ty,p,af,g⟩=some true) (hb:Ez P f=true) (aq:evs L args.toList=some vs) (Y:Au E H S)
  (aw:∀v E' seg',Le E E'->R v E' seg'->Au E' H (S++ [seg'])->AQ J Q b n ds ops k cs m (AH bks) fuel (Bs listed i) (AE L d v) (Ak E' H (S++ [seg']))):
  AQ J Q b n ds ops k cs m (AH bks) (fuel+1) listed L (Ak E H S):=by
 have a0:=Fo.Ly (aj (By S.flatten H) trivial) (by rintro v s' ⟨E',B',_,_,_,rfl⟩;rfl);refine YK V al am K ap hw hb aq a0 ?_;rintro v a8 ⟨⟨E',B',hle,a1,a2,rfl⟩,w,a3⟩;have e2:mk E' (By S.flatten H) B'=mk E' H (B'++S.flatten):=by unfold mk;rw[Gu]
 have a4:Nd E' H S.flatten:=Nd.grow Y λx K=>by
  have a5:=a3.d x K;have U:By B' (By S.flatten H) x=none:=a5;exact(Ii U).1
 have Z:Nd E' H (B'++S.flatten):=Nd.glue a2 a4;have ac:(B'++S.flatten).Perm (S++ [B']).flatten:=by rw[F2];exact f8
 have ag:Au E' H (S++ [B']):=Nd.perm Z ac;rw[e2,FN Z ac];refine⟨V,λx o K=>?_,aw v E' B' hle a1 ag⟩;by_cases hd:AH bks x=true
 .obtain⟨j,o',hj⟩:=ai.mem x (by simpa [AH] using hd);have U:(Ak E H S).get x=some o':=Ej (i:=0) Y hj V;have a6:j<S.length:=(dY.1 hj).1;have a7:(Ak E' H (S++ [B'])).get x=some o':=Ej (i:=0) ag (by rw[qO a6];exact hj) rfl;have O:(if AH bks x then(Ak E H S).get x else E x)=some o:=K
  show(if AH bks x then(Ak E' H (S++ [B'])).get x else E' x)=some o
  rw[d0 hd] at O ⊢;rw[a7,← U];exact O
 .have O:(if AH bks x then(Ak E H S).get x else E x)=some o:=K
  show(if AH bks x then(Ak E' H (S++ [B'])).get x else E' x)=some o
  rw[d7 hd] at O ⊢;exact hle _ _ O
end
section
variable {n:Nat}{H:LH}
variable {g:On_}
theorem Mc
  (O:AY J f vs E [] R) (U:ops[i]?=some ⟨d,.call ⟨.value x,args,ats⟩,ty,p,af,g⟩) (Y:ev L x=some (.func (.func f) #[] ([]:Lv_).toArray)) (hw:A3 L ops ⟨d,.call ⟨.value x,args,ats⟩,ty,p,af,g⟩=some true) (Z:((b.kind != .early)&&BA n d)=true) (hb:Ez P f=true)
  (ac:evs L args.toList=some vs) (ag:Au E H S) (ai:∀v E' seg',Le E E'->R v E' seg'->Au E' H (S++ [seg'])->JL J Q b n (AE L d v) ds (.inRegion ops rest::k) cs (Ak E' H (S++ [seg']))):
  JL J Q b n L ds (.inRegion ops (i::rest)::k) cs (Ak E H S):=by
 have aj:HI J (.func (.func f) #[] ([]:Lv_).toArray) vs E [] R:=HI.ofFn hb (by rw[qW];exact O);have al:Au E H (S++ [[]]):=by unfold Au at*;rw[F2,qW];exact ag
 have am:Ak E H S=Ak E H (S++ [[]]):=by unfold Ak;rw[F2,qW]
 rw[am];refine Mb (seg:=[]) S.length aj U hw Z Y ac al (by simp) λv E' seg' hle ap K=>?_;have aq:(S++ [([]:Seg)]).set S.length seg'=S++ [seg']:=HT _ _ _ _;rw[aq] at K ⊢;exact ai v E' seg' hle ap K
end
def MF(a b:Int):Option Int:=if b=0 then none else Az (a.tdiv b)
def Sz(l:List Nat)(i:Int):Option Nat:=if 0<=i then l[i.toNat]? else none
variable {ρ:Operand->Value}{z:Operand}{kd':IntKind}{m':Int}{a:Nat}
variable{r:Int}
section
variable {g:On_}{m:Int}{b:Nat}
theorem OX(K:ρ x=iV m)(O:ρ y=iV m')(h:MF m m'=some r):Yl P ⟨d,.binOp .quo t x y u,ty,p,af,g⟩ ρ s (iV r):=by
 unfold MF at h;split at h;cases h
 .rename_i U;obtain⟨rfl,hb⟩:=L4 h;have:=Yl.quo (P:=P) (s:=s) (d:=d) (t:=t) (u:=u) (ty:=ty) (p:=p) (af:=af) (g:=g) K O U
  rwa[Kz hb] at this
theorem jN{a:Nat}:IntKind.u8.wrap (a:Int)=((a%256:Nat):Int):=by
 simp only[IntKind.wrap,IntKind.bits,IntKind.signed];simp
theorem bY(K:P.underlying t=some (.int .u64))(hu:P.underlying u=some (.int .u8))(O:ρ x=.int .u64 (a:Int)):Yl P ⟨d,.convert t u x,ty,p,af,g⟩ ρ s (.int .u8 ((a%256:Nat):Int)):=by
 have h:=F6 (P:=P) (s:=s) (d:=d) (ty:=ty) (p:=p) (af:=af) (g:=g) K hu O
 rw[jN] at h;exact h
theorem cO(K:P.underlying t=some (.int .u8))(hu:P.underlying u=some (.int .i64))(O:ρ x=.int .u8 (a:Int))(h:Az ((a:Nat):Int)=some r):Yl P ⟨d,.convert t u x,ty,p,af,g⟩ ρ s (iV r):=by
 obtain⟨rfl,hb⟩:=L4 h;have h:=F6 (P:=P) (s:=s) (d:=d) (ty:=ty) (p:=p) (af:=af) (g:=g) K hu O
 rwa[Kz hb] at h
theorem Y0{l:List Nat}{bs:ByteArray}{r:Nat}(O:(bs.data.toList.map UInt8.toNat==l)=true)(U:P.underlying t=some .string)(Y:ρ y=.int kd m)(Z:ρ (.const (.string bs))=.string bs)(h:Sz l m=some r):Yl P ⟨d,.index t (.const (.string bs)) y,ty,p,af,g⟩ ρ s (.int .u8 (r:Int)):=by
 unfold Sz at h;split at h
 .rename_i ac;have ag:=eq_of_beq O;rw[← ag,rf] at h;obtain⟨K,hb,rfl⟩:=rg.1 h;have ai:bs[m.toNat]?=some K:=by
   have aj:bs.data[m.toNat]?=some K:=by rw[← ro];exact hb
   let⟨al,am⟩:=eF.1 aj;rw[getElem?_pos bs m.toNat al];exact qS some am
  simp[Yl,execOp,lp,pure,bind,Sem.bind,Z,Y,Instr.index,underlying,program,U,ac,ai,asIntOf]
 .cases h
end
end Pal
