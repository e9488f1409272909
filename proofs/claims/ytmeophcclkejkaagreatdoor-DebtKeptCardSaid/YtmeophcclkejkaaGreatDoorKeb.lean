/- DebtKept states that all nets together are 0: a part (2 of 9) of the proof of its row. -/
import Derived.Test.YtmeophcclkejkaaGreatDoorKea
import Derived.Conc.CrowdComm
import Derived.Conc.TokenWalk
import Derived.Conc.MarkLaws
import Derived.Conc.AtomicLaws2
import Derived.Conc.ClockLaws
import Derived.Conc.WgLib
import Derived.Conc.WgArith
import Derived.Conc.WgGenW
set_option linter.all false
set_option maxRecDepth 100000
namespace Pal
open Go Go.Conc
open Go.ConcN (upd upd_same upd_ne sumTo sumTo_upd)
abbrev GP:=Gs_
structure M4 where
 l:Bool
 k:Bool
 s:Bool
 w:Nat
instance:DecidableEq M4:=λa b=>decidable_of_iff (a.l=b.l/\a.k=b.k/\a.s=b.s/\a.w=b.w) ⟨λh=>by cases a;cases b;simp_all,λh=>by subst h;simp⟩
def M4.zero:M4:=⟨false,false,false,0⟩
def M4.num(m:M4):Int:=((m.l.toNat+2*m.k.toNat+4*m.s.toNat+8*m.w:Nat):Int)
inductive LP where
 | F1 | Hi | Ef (sv aw:Bool) (it:Nat) | Ce (sv aw:Bool) (it:Nat) (old:M4) | Ij (sv:Bool) | Co (sv:Bool) | FY | Es (sv:Bool) | Ed (ex:Bool) | len | KF | JZ | Fy
 | Gy | J1 | J0 | JW | HN | ED (old:M4) | Hl | EW (st:Bool) | Fa
inductive Ph where
 | Hf (k:Nat) | Gu | IL | Hk | GR | Hc | Fg
 | Di | FZ (m:Nat) | Hm (v:Nat) | HR | Fw | Hd | F3 | Gf | HF
 | Gc (j:Nat) | Ir (j:Nat) | HL (j:Nat) | G1 (j:Nat) | FK (j:Nat) | GV | FG (K:List Nat) (vs:Lv_)
 | HS | Ix | Is | Iv (j:Nat)
 | lk (k:Nat) (p:LP)
inductive Nx where
 | ph (p:Ph) | gone (d:Nat)
structure Fam where
 wg:Nat
 mu:Nat
 fd:Nat
 ty:TypeId
 cF:TypeId
 cC:TypeId
 n:Nat
 msg:Nat->Value->LH->Prop
 fin:GP
namespace Fam
variable (F:Fam)
def has(_:Fam)(_:Nat):Bool:=false
def KK:Int:=4294967296
def HT(st sm:Int):Obj:= .cells #[.int .u64 st,.int .u32 sm] F.ty (0,0)
def word(v wt:Nat):Int:=(v:Int)*KK+wt
def WG(w:World)(v wt sm:Nat):Prop:=w.heap[F.wg]? =some (F.HT (word v wt) sm)
def put(w:World)(v wt sm:Nat):World:={w with heap:=w.heap.setIfInBounds F.wg (F.HT (word v wt) sm)}
def sA:Addr:=⟨F.wg,0,none⟩
def mA:Addr:=⟨F.wg,1,none⟩
def HQ(st sm:Int):Obj:= .cells #[.int .i32 st,.int .u32 sm] F.cF (0,0)
def MU(w:World)(m:M4)(q:Nat):Prop:=w.heap[F.mu]? =some (F.HQ m.num q)
def FH(w:World)(m:M4)(q:Nat):World:={w with heap:=w.heap.setIfInBounds F.mu (F.HQ m.num q)}
def uA:Addr:=⟨F.mu,0,none⟩
def qA:Addr:=⟨F.mu,1,none⟩
def It(f:Nat->Value):Obj:= .cells (Array.ofFn λi:Fin F.n=>f i) F.cC (0,0)
def FD(w:World)(f:Nat->Value):Prop:=w.heap[F.fd]? =some (F.It f)
def Hj(w:World)(f:Nat->Value):World:={w with heap:=w.heap.setIfInBounds F.fd (F.It f)}
def B8(a:Addr):Event:=⟨.cell a,false,true⟩
def Ek(a:Addr):Event:=⟨.cell a,true,true⟩
def Cy(m:Mark):Event:=⟨.mark m,false,true⟩
def act:Ph->Nat->Nat->Nat->Option ((Nat×Nat×Nat)×Array Event×Nx)
 | .Gu,v,wt,sm=>some ((v,wt,sm),#[Cy (.releaseMerge F.sA)],.ph .IL)
 | .IL,v,wt,sm=>some ((v,wt,sm),#[Cy .disable],.ph .Hk)
 | .Hk,v,wt,sm=>if 1<=v/\v<2147483648/\wt<=1 then some ((v - 1,wt,sm),#[B8 F.sA,Ek F.sA],if v=1/\wt=1 then .ph .GR else .gone 1) else none
 | .GR,v,wt,sm=>if v=0/\wt=1 then some ((0,1,sm),#[B8 F.sA],.ph .Hc) else none
 | .Hc,v,wt,sm=>if v=0/\wt=1 then some ((0,0,sm),#[Ek F.sA],.ph .Fg) else none
 | .Fg,v,wt,sm=>if sm=0 then some ((v,wt,1),semEvents F.mA,.gone 1) else none
 | .Di,v,wt,sm=>some ((v,wt,sm),#[Cy .disable],.ph (.FZ F.n))
 | .FZ m,v,wt,sm=>if v<=m/\wt=0 then some ((v,0,sm),#[B8 F.sA],if v=0 then .ph .F3 else .ph (.Hm v)) else none
 | .Hm m,v,wt,sm=>if v<=m/\1<=m/\wt=0 then some (if v=m then((v,1,sm),#[B8 F.sA,Ek F.sA],.ph .Ix) else((v,0,sm),#[B8 F.sA],.ph (.FZ (m - 1)))) else none
 | .HR,v,wt,sm=>some ((v,wt,sm),#[Cy (.write F.mA)],.ph .Fw)
 | .Fw,v,wt,sm=>if sm=1 then some ((v,wt,0),semEvents F.mA,.ph .Hd) else none
 | .Hd,v,wt,sm=>if v=0/\wt=0 then some ((0,0,sm),#[B8 F.sA],.ph .F3) else none
 | .F3,v,wt,sm=>some ((v,wt,sm),#[Cy .enable],.ph .Is)
 | .HS,v,wt,sm=>some ((v,wt,sm),#[],.ph .Gu)
 | .Ix,v,wt,sm=>some ((v,wt,sm),#[],.ph .HR)
 | .Is,v,wt,sm=>some ((v,wt,sm),#[],.ph .Gf)
 | .Iv j,v,wt,sm=>some ((v,wt,sm),#[],.ph (.HL j))
 | .Gc j,v,wt,sm=>some ((v,wt,sm),#[Cy .disable],.ph (.Ir j))
 | .Ir j,v,wt,sm=>if v<2147483647/\wt=0 then some ((v+1,0,sm),#[B8 F.sA,Ek F.sA],if v=0 then .ph (.Iv j) else .ph (.G1 j)) else none
 | .HL j,v,wt,sm=>some ((v,wt,sm),#[Cy (.read F.mA)],.ph (.G1 j))
 | .G1 j,v,wt,sm=>some ((v,wt,sm),#[Cy .enable],.ph (.FK j))
 | _,_,_,_=>none
abbrev LO:=M4×Nat×Array Event×Option LP
def Fv(sv aw:Bool)(it:Nat)(old m:M4)(q:Nat):List LO:=
 (if old.l=true/\old.s=false/\it<4 then
  (if aw=false/\old.k=false/\old.w≠0 then
   [if m=old then({m with k:=true},q,#[B8 F.uA,Ek F.uA],some (.Ef sv true (it+1))) else(m,q,#[B8 F.uA],some (.Ef sv aw (it+1)))]
  else [(m,q,#[],some (.Ce sv aw (it+1) m))])
 else [])++
 (if m=old then
  (if old.l=false/\old.s=false then [({m with l:=true,k:= !aw&&m.k},q,#[B8 F.uA,Ek F.uA],some .len)]
  else [({m with k:= !aw&&m.k,s:=m.s || (sv&&m.l),w:=m.w+1},q,#[B8 F.uA,Ek F.uA],some (.Ij sv)),({m with k:= !aw&&m.k,s:=m.s || (sv&&m.l),w:=m.w+1},q,#[B8 F.uA,Ek F.uA],some (.Co sv))])
 else [(m,q,#[B8 F.uA],some (.Ef sv aw it))])
def BV:LP->M4->Nat->List LO
 | .F1,m,q=> [(m,q,#[Cy .disable],some .Hi)]
 | .Hi,m,q=>if m=M4.zero then [(⟨true,false,false,0⟩,q,#[B8 F.uA,Ek F.uA],some .len)] else [(m,q,#[B8 F.uA],some (.Ef false false 0))]
 | .Ef sv aw it,m,q=> [(m,q,#[],some (.Ce sv aw it m))]
 | .Ce sv aw it old,m,q=>F.Fv sv aw it old m q
 | .Ij sv,m,q=> [(m,q,#[],some (.Co sv))]
 | .Co sv,m,q=> [(m,q - 1,semEvents F.qA,some (if sv then .Es true else .FY))]
 | .FY,m,q=> [(m,q,#[],some (.Es false)),(m,q,#[],some (.Es true))]
 | .Es sv,m,q=>if m.s=true then [(m,q,#[],some (.Ed (!sv || m.w==1)))] else [(m,q,#[],some (.Ce sv true 0 m))]
 | .Ed ex,m,q=> [(⟨true,m.k,!ex,m.w - 1⟩,q,#[B8 F.uA,Ek F.uA],some .len)]
 | .len,m,q=> [(m,q,#[Cy .enable],some .KF)]
 | .KF,m,q=> [(m,q,#[],some .JZ)]
 | .JZ,m,q=> [(m,q,#[Cy (.acquire F.uA)],some .Fy)]
 | .Fy,_,_=> []
 | .Gy,m,q=> [(m,q,#[],some .J1)]
 | .J1,m,q=> [(m,q,#[],some .J0)]
 | .J0,m,q=> [(m,q,#[Cy (.releaseMerge F.uA)],some .JW)]
 | .JW,m,q=> [(m,q,#[Cy .disable],some .HN)]
 | .HN,m,q=> [({m with l:=false},q,#[B8 F.uA,Ek F.uA],some (if m.s=true then .EW true else if m.k=false/\m.w≠0 then .ED {m with l:=false} else .Fa))]
 | .ED old,m,q=>if m=old then [(⟨false,true,false,old.w - 1⟩,q,#[B8 F.uA,Ek F.uA],some (.EW false))] else [(m,q,#[B8 F.uA],some .Hl)]
 | .Hl,m,q=> [(m,q,#[],some (if m.l=false/\m.k=false/\m.s=false/\m.w≠0 then .ED m else .Fa))]
 | .EW _,m,q=> [(m,q+1,semEvents F.qA,some .Fa)]
 | .Fa,m,q=> [(m,q,#[Cy .enable],none)]
def Cv:Ph->Bool
 | .Gc _ | .Ir _ | .HL _ | .G1 _ | .FK _ | .GV | .FG _ _ | .Iv _=>true
 | .Di | .FZ _ | .Hm _ | .HR | .Fw | .Hd | .F3 | .Gf | .HF | .Ix | .Is=>true
 | _=>false
def CG:Ph->Bool
 | .IL | .Hk | .GR | .Hc | .Fg=>true
 | _=>false
def Jh:Ph->St->St
 | .Gu,_=> .quiet
 | _,s=>s
def start(_:Fam)(k:Nat):Ph:= .lk k .F1
def Fu(j:Nat):Ph:=if j+1=F.n then .GV else .Gc (j+1)
def Et(j:Nat):Ph:=if j+1=F.n then .Di else .Gc (j+1)
def C6(k:Nat):Option LP->Ph
 | some p=> .lk k p
 | none=> .HS
end Fam
def C4(m:M4):Prop:=m.w<134217728
def Dt:LP->M4->Nat->Prop
 | .Ce sv aw it old,m,_=>(aw=true->old.k=true)/\(sv=true->aw=true)/\it<=4/\C4 old/\C4 m/\(aw=true->m.k=true)
 | .Ef sv aw it,m,_=>(sv=true->aw=true)/\it<=4/\C4 m/\(aw=true->m.k=true)
 | .Co _,_,q=>q≠0
 | .Es _,m,_=>(m.s=true->m.l=false/\m.k=false/\m.w≠0)/\(m.s=false->m.k=true)/\C4 m
 | .Ed ex,m,_=>m.s=true/\m.l=false/\m.k=false/\1<=m.w/\(ex=false->2<=m.w)/\C4 m
 | .HN,m,_=>m.l=true/\C4 m
 | .ED old,m,_=>old.l=false/\old.k=false/\old.s=false/\old.w≠0/\C4 old/\C4 m
 | .EW _,m,q=>q<=1/\C4 m
 | _,m,_=>C4 m
def Way(P:Program)(main:Bool)(X:GP):GP:=(AU P main).ok X
theorem Jr.Ah{P:Program}{main:Bool}{Q K:GP}(h:∀g s,Q g s->K g s):∀{r:Rk} {g:Goroutine} {s:St},Jr P main Q r g s->Jr P main K r g s
 | .leaf,_,_,x=>h _ _ x
 | .node _,_,_,.inl x=> .inl (h _ _ x)
 | .node _,_,_,.inr ⟨O,x⟩=> .inr ⟨O,λw f=>let ⟨g',s',w',es,U,Y,Z⟩:=x w f;⟨g',s',w',es,U,Jr.Ah h Y,Z⟩⟩
theorem Way.Ah{P:Program}{main:Bool}{Q K:GP}(h:∀g s,Q g s->K g s){g:Goroutine}{s:St}(x:Way P main Q g s):Way P main K g s:=
 let ⟨r,O⟩:=x;⟨r,Jr.Ah (λg s ⟨s₀,a,b⟩=>⟨s₀,a,h g s₀ b⟩) O⟩
def Gv(w K w':World):Prop:=w'.heap=K.heap/\w'.tape=w.tape/\Gg w.os w'.os/\w'.output=w.output
section
variable (P:Program)(F:Fam)
def Mq(X:Ph->GP)(main:Bool):Nx->GP
 | .ph p,g,s=>Way P main (X p) g s
 | .gone d,g,_=>∃q,QuitsD P q d g
def Fam.JF(H:LH)(f:Nat->Value):LH:=λb=>if b=F.fd then some (F.It f) else H b
structure GX (X:Ph->GP) (p:Ph) (g:Goroutine) (s:St):Prop where
 run:g.status= .running
 offers:g.offers=none
 quiet:Fam.CG p=true->s= .quiet
 live:Fam.CG p=false->s.q=false
 act:∀v wt sm v' wt' sm' es K,F.act p v wt sm=some ((v',wt',sm'),es,K)->
  ∃g',(∀w,F.WG w v wt sm->stepG P (Fam.Cv p) g w= .go g' (F.put w v' wt' sm') es)/\g'.status= .running/\Mq P X (Fam.Cv p) K g' (Fam.Jh p s)
 IJ:(p= .Fg∨∃k b,p= .lk k (.EW b))->mayWake P g=true
 EZ:p= .Fw->∀w v wt,F.WG w v wt 0->stepG P true g w= .go {g with status:= .blocked} w #[]
 go:∀j,p= .FK j->∃g' child,g'.status= .running/\child.status= .running/\(∀w,stepG P true g w= .spawn g' child w #[])/\Way P false (X (F.start j)) child ⟨s.E,λ_=>none,false⟩/\Way P true (X (F.Et j)) g' s
 lk:∀k l,p= .lk k l->l≠ .Fy->∀w m q,F.MU w m q->Dt l m q->∃m' q' es x g' w',(m',q',es,x)∈F.BV l m q/\stepG P false g w= .go g' w' es/\Gv w (F.FH w m' q') w'/\g'.status= .running/\Way P false (X (Fam.C6 k x)) g' s
 Co:∀k sv,p= .lk k (.Co sv)->∀w m,F.MU w m 0->stepG P false g w= .go {g with status:= .blocked} w #[]
 store:∀k,p= .lk k .Fy->∃v,F.msg k v s.E/\∃g',g'.status= .running/\(∀w f,F.FD w f->stepG P false g w= .go g' (F.Hj w (upd f k v)) #[⟨.cell ⟨F.fd,k,none⟩,true,false⟩])/\Way P false (X (.lk k .Gy)) g' s
 fin:p= .Gf->∃g',(∀w,stepG P true g w= .go g' w #[Fam.Cy (.acquire F.sA)])/\∀E' f,Le s.E E'->E' F.fd=none->(∀b,E' b≠none->s.H b=none)->(∀k,k<F.n->F.msg k (f k) E')->F.fin g' ⟨E',F.JF s.H f,false⟩
theorem Mq.Ah{X O:Ph->GP}(h:∀p g s,X p g s->O p g s){main:Bool}{K:Nx}{g:Goroutine}{s:St}(x:Mq P X main K g s):Mq P O main K g s:=by
 cases K with
 | ph p=>exact Way.Ah (h p) x
 | gone d=>exact x
theorem GX.Ah{X ac:Ph->GP}(h:∀p g s,X p g s->ac p g s){p:Ph}{g:Goroutine}{s:St}(x:GX P F X p g s):GX P F ac p g s where
 run:=x.run
 offers:=x.offers
 quiet:=x.quiet
 live:=x.live
 act v wt sm v' wt' sm' es ag e:=let ⟨g',K,O,U⟩:=x.act v wt sm v' wt' sm' es ag e;⟨g',K,O,U.Ah P h⟩
 IJ:=x.IJ
 EZ:=x.EZ
 go j e:=let ⟨g',c,K,O,U,Y,Z⟩:=x.go j e;⟨g',c,K,O,U,Y.Ah (h _),Z.Ah (h _)⟩
 lk k l e al w m q hm am:=let ⟨m',q',es,y,g',w',K,O,U,Y,Z⟩:=x.lk k l e al w m q hm am;⟨m',q',es,y,g',w',K,O,U,Y,Z.Ah (h _)⟩
 Co:=x.Co
 store k e:=let ⟨v,K,g',O,U,Y⟩:=x.store k e;⟨v,K,g',O,U,Y.Ah (h _)⟩
 fin:=x.fin
def Stop(p:Ph)(g:Goroutine)(s:St):Prop:=∃X:Ph->GP,(∀p g s,X p g s->GX P F X p g s)/\X p g s
variable {P F}
theorem Stop.law{p:Ph}{g:Goroutine}{s:St}(h:Stop P F p g s):GX P F (Stop P F) p g s:=by
 obtain⟨X,O,K⟩:=h;exact(O p g s K).Ah P F λp g s K=>⟨X,O,K⟩
theorem GX.stop{p:Ph}{g:Goroutine}{s:St}(h:GX P F (Stop P F) p g s):Stop P F p g s:=
 ⟨λp g s=>GX P F (Stop P F) p g s,λ_ _ _ x=>x.Ah P F λ_ _ _ y=>y.law,h⟩
end
end Pal
namespace Pal
open Go Go.Conc
open Go.ConcN (upd upd_same upd_ne sumTo sumTo_upd sumTo_upd_out sumTo_congr le_sumTo sumTo_le)
def cU:Nx->Nat
 | .ph (.Hf _) | .ph .HS | .ph .Gu | .ph .IL | .ph .Hk | .ph (.lk _ _)=>1
 | _=>0
def cL:Nx->Nat
 | .ph .GR | .ph .Hc=>1
 | _=>0
def cS:Nx->Nat
 | .ph .Fg=>1
 | _=>0
def pend:Nx->Nat
 | .ph (.Iv _) | .ph (.HL _) | .ph (.G1 _) | .ph (.FK _)=>1
 | _=>0
def got:Nx->List Nat
 | .ph (.FG K _)=>K
 | _=> []
def NI:Nx->Prop
 | .gone _=>True
 | _=>False
def HE(n j:Nat)(c:Bool):Ph->Prop
 | .Gc K | .Ir K | .Iv K | .HL K | .G1 K | .FK K=>K=j/\j<n/\c=false
 | .GV=>j=n/\c=false
 | .FG _ _=>j=n/\c=true
 | _=>False
def GQ(F:Fam)(k:Nat):Nx->Prop
 | .gone _=>True
 | .ph (.Hf k')=>k'=k/\F.has k=true
 | .ph (.lk k' _)=>k'=k
 | .ph .HS | .ph .Gu | .ph .IL | .ph .Hk | .ph .GR | .ph .Hc | .ph .Fg=>True
 | _=>False
def Jb:Nx->Prop
 | .gone _=>True
 | .ph .Di | .ph (.FZ _) | .ph (.Hm _) | .ph .Ix | .ph .HR | .ph .Fw | .ph .Hd | .ph .F3 | .ph .Is | .ph .Gf | .ph .HF=>True
 | _=>False
def Dr(x:Nx)(v wt sm L S:Nat)(cl:Bool):Prop:=
 match x with
 | .ph .Di=>L=0/\S=0/\sm=0/\wt=0/\cl=false
 | .ph (.FZ m)=>L=0/\S=0/\sm=0/\wt=0/\cl=false/\v<=m
 | .ph (.Hm m)=>L=0/\S=0/\sm=0/\wt=0/\cl=false/\v<=m/\1<=m
 | .ph .Ix | .ph .HR | .ph .Fw=>L+S+sm+min v 1=1/\wt=L+min v 1/\cl=false
 | .ph .Hd | .ph .F3 | .ph .Is | .ph .Gf | .ph .HF=>L=0/\S=0/\sm=0/\wt=0/\v=0/\cl=false
 | .gone _=>L=0/\S=0/\sm=0/\wt=0/\v=0/\cl=true
 | _=>False
structure Cw (F:Fam) (N0 N j:Nat) (c:Bool) (φ:Nat->Nx) (v wt sm:Nat) (cl:Bool):Prop where
 pos:0<N0
 n1:1<=F.n
 HU:F.n<2147483647
 size:N=N0+j+c.toNat
 jn:j<=F.n
 cj:c=true->j=F.n
 main:∃p,φ 0= .ph p/\HE F.n j c p
 old:∀i,0<i->i<N0->NI (φ i)
 work:∀k,k<j->GQ F k (φ (N0+k))
 cls:c=true->Jb (φ (N0+F.n))
 cnt:v=sumTo N (λi=>cU (φ i))+pend (φ 0)
 J3:v<=j+pend (φ 0)
 mode:Dr (if c=true then φ (N0+F.n) else .ph .Di) v wt sm (sumTo N λi=>cL (φ i)) (sumTo N λi=>cS (φ i)) cl
 KG:∀k,k<j->F.has k=true->(φ (N0+k)= .ph (.Hf k)↔k ∉ got (φ 0))
 nd:(got (φ 0)).Nodup
 sub:∀k∈got (φ 0),k<j/\F.has k=true
section
variable {F:Fam}{N0 N j:Nat}{c:Bool}{φ:Nat->Nx}{v wt sm v' wt' sm':Nat}{cl cl':Bool}
theorem Cw.Eu(h:Cw F N0 N j c φ v wt sm cl){i:Nat}(hi:i<N):i=0∨(0<i/\i<N0)∨(∃k,k<j/\i=N0+k)∨(c=true/\i=N0+F.n):=by
 have:=h.size;rcases Nat.eq_zero_or_pos i with K | K
 ·exact .inl K
 rcases Nat.lt_or_ge i N0 with U | U
 ·exact .inr (.inl ⟨K,U⟩)
 rcases Nat.lt_or_ge i (N0+j) with Y | Y
 ·exact .inr (.inr (.inl ⟨i - N0,by omega,by omega⟩))
 ·cases O:c with
  | false=>rw [O] at this;simp at this;omega
  | true=>have e:=h.cj O;rw [O] at this;simp at this;exact .inr (.inr (.inr ⟨rfl,by omega⟩))
theorem Cw.P8(h:Cw F N0 N j c φ v wt sm cl):v<=F.n:=by
 have K:=h.J3;obtain⟨p,O,hm⟩:=h.main;have:=h.jn;rw [O] at K;cases p <;> simp [HE] at hm <;> simp [pend] at K <;> omega
theorem Cw.Iq(h:Cw F N0 N j c φ v wt sm cl){k:Nat}(ag:k<j){x:Nx}(al:GQ F k x)(am:∀k',φ (N0+k)≠ .ph (.Hf k'))(ap:∀k',x≠ .ph (.Hf k'))
  (a6:v'+cU (φ (N0+k))=v+cU x)
  (hm:∀L S,L+cL (φ (N0+k))=(sumTo N λi=>cL (φ i))+cL x->S+cS (φ (N0+k))=(sumTo N λi=>cS (φ i))+cS x->Dr (if c=true then φ (N0+F.n) else .ph .Di) v' wt' sm' L S cl'):
  Cw F N0 N j c (upd φ (N0+k) x) v' wt' sm' cl':=by
 have a7:=h.size;have a8:=h.jn;have a9:=h.pos;have Y:N0+k<N:=by omega
 have K:upd φ (N0+k) x 0=φ 0:=upd_ne _ _ (by omega);have aq:(if c=true then upd φ (N0+k) x (N0+F.n) else .ph .Di)=(if c=true then φ (N0+F.n) else .ph .Di):=by
  cases O:c with
  | false=>rfl
  | true=>have:=h.cj O;simp only [if_true];exact upd_ne _ _ (by omega)
 have s1:=sumTo_upd φ x cU Y;have s2:=sumTo_upd φ x cL Y;have aw:=sumTo_upd φ x cS Y;have bb:=h.cnt;have be:=h.J3;refine⟨h.pos,h.n1,h.HU,h.size,h.jn,h.cj,by rw [K];exact h.main,λi a0 a1=>by rw [upd_ne _ _ (by omega)];exact h.old i a0 a1,λk' U=>?_,λO=>?_,by rw [K];omega,?_,?_,λk' U hh=>?_,by rw [K];exact h.nd,by rw [K];exact h.sub⟩
 ·by_cases e:k'=k
  ·subst e;rw [upd_same];exact al
  ·rw [upd_ne _ _ (by omega)];exact h.work k' U
 ·have:=h.cj O;rw [upd_ne _ _ (by omega)];exact h.cls O
 ·rw [K];have:cU x<=1:=by cases x with
   | gone d=>simp [cU]
   | ph p=>cases p <;> simp [cU]
  have hw:=h.work k ag;have key:cU x<=cU (φ (N0+k))∨cU (φ (N0+k))<cU x:=by omega
  rcases key with hle | bi
  ·omega
  ·
   have:(sumTo N λa=>cU (upd φ (N0+k) x a))<=j:=by
    have hb:∀M,M<=N->(sumTo M λa=>cU (upd φ (N0+k) x a))<=min (M - N0) j:=by
     intro M
     induction M with
     | zero=>intro _;simp [sumTo]
     | succ M a2=>
      intro bo;have:=a2 (by omega);simp only [sumTo];have bv:cU (upd φ (N0+k) x M)<=1:=by
       generalize upd φ (N0+k) x M=y;cases y with
       | gone d=>simp [cU]
       | ph p=>cases p <;> simp [cU]
      have ac:(M<N0∨N0+j<=M)->cU (upd φ (N0+k) x M)=0:=by
       intro bw;rw [upd_ne _ _ (by omega)];rcases h.Eu (i:=M) (by omega) with rfl | ⟨a,b⟩ | ⟨k',a,rfl⟩ | ⟨a,rfl⟩
       ·obtain⟨p,a3,hm⟩:=h.main;rw [a3];cases p <;> simp [HE] at hm <;> rfl
       ·have:=h.old M a b;cases Z:φ M with
        | gone d=>rfl
        | ph p=>rw [Z] at this;exact this.elim
       ·omega
       ·have:=h.cls a;cases Z:φ (N0+F.n) with
        | gone d=>rfl
        | ph p=>rw [Z] at this;cases p <;> simp [Jb] at this <;> rfl
      rcases Nat.lt_or_ge M N0 with q | q
      ·rw [ac (.inl q)];omega
      ·rcases Nat.lt_or_ge M (N0+j) with q' | q'
       ·omega
       ·rw [ac (.inr q')];omega
    have:=hb N (Nat.le_refl _);omega
   omega
 ·rw [aq];exact hm _ _ s2 aw
 ·rw [K];by_cases e:k'=k
  ·subst e;rw [upd_same];have:=h.KG k' U hh;constructor
   ·intro a4;exact absurd a4 (ap k')
   ·intro a5;exact absurd (this.2 a5) (am k')
  ·rw [upd_ne _ _ (by omega)];exact h.KG k' U hh
theorem Cw.HP(h:Cw F N0 N j c φ v wt sm cl)(O:c=true){x:Nx}(Z:Jb x)
  (hm:Dr x v wt' sm' (sumTo N λi=>cL (φ i)) (sumTo N λi=>cS (φ i)) cl'):
  Cw F N0 N j c (upd φ (N0+F.n) x) v wt' sm' cl':=by
 have ac:=h.size;have aq:=h.pos;have aw:=h.cj O;have U:N0+F.n<N:=by rw [O] at ac;simp at ac;omega
 have K:upd φ (N0+F.n) x 0=φ 0:=upd_ne _ _ (by omega);have z:∀y,Jb y->cU y=0/\cL y=0/\cS y=0:=by
  intro y ag;cases y with
  | gone d=>exact⟨rfl,rfl,rfl⟩
  | ph p=>cases p <;> simp [Jb] at ag <;> exact⟨rfl,rfl,rfl⟩
 have z1:=z _ (h.cls O);have a0:=z x Z;have s1:=sumTo_upd φ x cU U;have s2:=sumTo_upd φ x cL U;have a1:=sumTo_upd φ x cS U;have a2:=h.cnt;refine⟨h.pos,h.n1,h.HU,h.size,h.jn,h.cj,by rw [K];exact h.main,λi al am=>by rw [upd_ne _ _ (by omega)];exact h.old i al am,λk' Y=>?_,λO=>?_,by rw [K];omega,by rw [K];exact h.J3,?_,λk' Y hh=>?_,by rw [K];exact h.nd,by rw [K];exact h.sub⟩
 ·rw [upd_ne _ _ (by omega)];exact h.work k' Y
 ·rw [upd_same];exact Z
 ·rw [if_pos O,upd_same];have e2:(sumTo N λi=>cL (upd φ (N0+F.n) x i))=sumTo N λi=>cL (φ i):=by omega
  have ap:(sumTo N λi=>cS (upd φ (N0+F.n) x i))=sumTo N λi=>cS (φ i):=by omega
  rw [e2,ap];exact hm
 ·rw [K,upd_ne _ _ (by omega)];exact h.KG k' Y hh
theorem Rf{n j:Nat}{c:Bool}{p:Ph}(h:HE n j c p):cU (.ph p)=0/\cL (.ph p)=0/\cS (.ph p)=0:=by
 cases p <;> simp [HE] at h <;> exact⟨rfl,rfl,rfl⟩
theorem Cw.Ln(h:Cw F N0 N j c φ v wt sm cl){p:Ph}(Y:HE F.n j c p)(K:got (.ph p)=got (φ 0))(a0:v'+pend (φ 0)=v+pend (.ph p))(Z:v'<=j+pend (.ph p))
  (hm:Dr (if c=true then φ (N0+F.n) else .ph .Di) v' wt' sm' (sumTo N λi=>cL (φ i)) (sumTo N λi=>cS (φ i)) cl'):
  Cw F N0 N j c (upd φ 0 (.ph p)) v' wt' sm' cl':=by
 have a1:=h.size;have a2:=h.pos;have O:0<N:=by omega
 obtain⟨a3,ac,ag⟩:=h.main;have z1:=Rf ag;have a4:=Rf Y;rw [← ac] at z1;have s1:=sumTo_upd φ (.ph p) cU O;have s2:=sumTo_upd φ (.ph p) cL O;have a5:=sumTo_upd φ (.ph p) cS O;have a6:=h.cnt;have al:(if c=true then upd φ 0 (.ph p) (N0+F.n) else .ph .Di)=(if c=true then φ (N0+F.n) else .ph .Di):=by rw [upd_ne _ _ (by omega)]
 refine⟨h.pos,h.n1,h.HU,h.size,h.jn,h.cj,⟨p,upd_same _ _ _,Y⟩,λi am ap=>by rw [upd_ne _ _ (by omega)];exact h.old i am ap,λk' U=>by rw [upd_ne _ _ (by omega)];exact h.work k' U,λaq=>by rw [upd_ne _ _ (by omega)];exact h.cls aq,by rw [upd_same];omega,by rw [upd_same];exact Z,?_,λk' U hh=>?_,by rw [upd_same,K];exact h.nd,by rw [upd_same,K];exact h.sub⟩
 ·rw [al];have e2:(sumTo N λi=>cL (upd φ 0 (.ph p) i))=sumTo N λi=>cL (φ i):=by omega
  have aw:(sumTo N λi=>cS (upd φ 0 (.ph p) i))=sumTo N λi=>cS (φ i):=by omega
  rw [e2,aw];exact hm
 ·rw [upd_same,K,upd_ne _ _ (by omega)];exact h.KG k' U hh
theorem Cw.act(h:Cw F N0 N j c φ v wt sm cl){i:Nat}(hi:i<N){p:Ph}(K:φ i= .ph p){es:Array Event}{a7:Nx}(O:F.act p v wt sm=some ((v',wt',sm'),es,a7)):
  Cw F N0 N j c (upd φ i a7) v' wt' sm' cl:=by
 have U:=h.mode;have a9:=h.P8;rcases h.Eu hi with rfl | ⟨a,b⟩ | ⟨k,aw,rfl⟩ | ⟨ac,rfl⟩
 ·
  obtain⟨a3,a8,a0⟩:=h.main;have:a3=p:=by rw [a8] at K;exact Nx.ph.inj K
  subst this;have be:∀q,HE F.n j c q->(∀bb vs,q≠ .FG bb vs)->c=false:=by
   intro q a4 a5;cases q <;> simp [HE] at a4 <;> first | exact a4.2.2 | exact a4.2 | exact absurd rfl (a5 _ _)
  have ap:=h.J3;cases a3 <;> simp only [HE] at a0 <;> (try exact a0.elim) <;> simp only [Fam.act] at O <;> (try (cases O;done))
  ·cases O;obtain⟨rfl,aq,rfl⟩:=a0;exact h.Ln (p:= .Ir _) ⟨V,aq,V⟩ (by rw [K];rfl) (by rw [K];rfl) (by rw [K] at ap;exact ap) (by simpa [Dr] using U)
  ·split at O
   ·rename_i ag;cases O;obtain⟨rfl,aq,rfl⟩:=a0;rw [K] at ap;simp only [pend,Nat.add_zero] at ap;simp only [Bool.false_eq_true,if_false,Dr] at U;split
    ·exact h.Ln (p:= .Iv _) ⟨V,aq,V⟩ (by rw [K];rfl) (by rw [K];simp [pend]) (by simp [pend];omega) ⟨U.1,U.2.1,U.2.2.1,V,U.2.2.2.2⟩
    ·exact h.Ln (p:= .G1 _) ⟨V,aq,V⟩ (by rw [K];rfl) (by rw [K];simp [pend]) (by simp [pend];omega) ⟨U.1,U.2.1,U.2.2.1,V,U.2.2.2.2⟩
   ·cases O
  ·cases O;obtain⟨rfl,aq,rfl⟩:=a0;exact h.Ln (p:= .G1 _) ⟨V,aq,V⟩ (by rw [K];rfl) (by rw [K];rfl) (by rw [K] at ap;exact ap) (by simpa [Dr] using U)
  ·cases O;obtain⟨rfl,aq,rfl⟩:=a0;exact h.Ln (p:= .FK _) ⟨V,aq,V⟩ (by rw [K];rfl) (by rw [K];rfl) (by rw [K] at ap;exact ap) (by simpa [Dr] using U)
  ·cases O;obtain⟨rfl,aq,rfl⟩:=a0;exact h.Ln (p:= .HL _) ⟨V,aq,V⟩ (by rw [K];rfl) (by rw [K];rfl) (by rw [K] at ap;exact ap) (by simpa [Dr] using U)
 ·have:=h.old i a b;rw [K] at this;exact this.elim
 ·
  have hw:=h.work k aw;rw [K] at hw;have bi:∀q k',q=Nx.ph p->(∀k',p≠ .Hf k')->q≠ .ph (.Hf k'):=by
   rintro q k' rfl a5 e;exact a5 k' (Nx.ph.inj e)
  cases p <;> simp only [GQ] at hw <;> (try exact hw.elim) <;> simp only [Fam.act] at O <;> (try (cases O;done))
  ·cases O;refine h.Iq aw (x:= .ph .IL) trivial (λk'=>by rw [K];simp) (by simp) (by rw [K];rfl) λL S Y Z=>?_;rw [K] at Y Z;simp only [cL,cS,Nat.add_zero] at Y Z;subst Y Z;exact U
  ·cases O;refine h.Iq aw (x:= .ph .Hk) trivial (λk'=>by rw [K];simp) (by simp) (by rw [K];rfl) λL S Y Z=>?_;rw [K] at Y Z;simp only [cL,cS,Nat.add_zero] at Y Z;subst Y Z;exact U
  ·split at O
   ·rename_i ag;cases O;have a2:∀y al am L S,y=(if c=true then φ (N0+F.n) else .ph .Di)->Dr y v wt sm al am cl->(if v=1/\wt=1 then L=al+1 else L=al)->S=am->Dr y (v - 1) wt sm L S cl:=by
     intro y al am L S bo hm Y Z;cases y with
     | gone d=>simp only [Dr] at hm ⊢;split at Y <;> omega
     | ph q=>
      cases q <;> simp only [Dr] at hm ⊢ <;> (try exact hm) <;> (try (split at Y <;> omega))
      ·split at Y
       ·exfalso;omega
       ·exact⟨by omega,by omega,by omega,by omega,hm.2.2.2.2⟩
      ·split at Y
       ·exfalso;omega
       ·exact⟨by omega,by omega,by omega,by omega,hm.2.2.2.2.1,by omega⟩
      ·split at Y
       ·exfalso;omega
       ·exact⟨by omega,by omega,by omega,by omega,hm.2.2.2.2.1,by omega,by omega⟩
      ·split at Y
       ·exact⟨by omega,by omega,hm.2.2⟩
       ·exact⟨by omega,by omega,hm.2.2⟩
      ·split at Y
       ·exact⟨by omega,by omega,hm.2.2⟩
       ·exact⟨by omega,by omega,hm.2.2⟩
      ·split at Y
       ·exact⟨by omega,by omega,hm.2.2⟩
       ·exact⟨by omega,by omega,hm.2.2⟩
    split
    ·rename_i a1;refine h.Iq aw (x:= .ph .GR) trivial (λk'=>by rw [K];simp) (by simp) (by rw [K];simp [cU];omega) λL S Y Z=>?_;rw [K] at Y Z;simp only [cL,cS,Nat.add_zero] at Y Z;exact a2 _ _ _ L S V U (by rw [if_pos a1];exact Y) Z
    ·rename_i a1;refine h.Iq aw (x:= .gone 1) trivial (λk'=>by rw [K];simp) (by simp) (by rw [K];simp [cU];omega) λL S Y Z=>?_;rw [K] at Y Z;simp only [cL,cS,Nat.add_zero] at Y Z;exact a2 _ _ _ L S V U (by rw [if_neg a1];exact Y) Z
   ·cases O
  ·split at O
   ·rename_i ag;cases O;refine h.Iq aw (x:= .ph .Hc) trivial (λk'=>by rw [K];simp) (by simp) (by rw [K];simp [cU];omega) λL S Y Z=>?_;rw [K] at Y Z;simp only [cL,cS,Nat.add_zero] at Y Z;have e:L=sumTo N λi=>cL (φ i):=by
     have bv:L+1=(sumTo N λi=>cL (φ i))+1:=Y;omega
    obtain⟨a1,a6⟩:=ag;subst e Z a1 a6;exact U
   ·cases O
  ·split at O
   ·rename_i ag;cases O;obtain⟨a1,a6⟩:=ag;subst a1 a6;refine h.Iq aw (x:= .ph .Fg) trivial (λk'=>by rw [K];simp) (by simp) (by rw [K];simp [cU]) λL S Y Z=>?_;rw [K] at Y Z;simp only [cL,cS,Nat.add_zero] at Y Z;have a2:∀y al am,Dr y 0 1 sm al am cl->L+1=al->S=am+1->Dr y 0 0 sm L S cl:=by
     intro y al am hm Y Z;cases y with
     | gone d=>simp only [Dr] at hm ⊢;omega
     | ph q=>
      cases q <;> simp only [Dr] at hm ⊢ <;> (try exact hm) <;> (try (exfalso;omega))
      ·exact⟨by omega,by omega,hm.2.2⟩
      ·exact⟨by omega,by omega,hm.2.2⟩
      ·exact⟨by omega,by omega,hm.2.2⟩
    exact a2 _ _ _ U Y Z
   ·cases O
  ·split at O
   ·rename_i ag;cases O;subst ag;refine h.Iq aw (x:= .gone 1) trivial (λk'=>by rw [K];simp) (by simp) (by rw [K];simp [cU]) λL S Y Z=>?_;rw [K] at Y Z;simp only [cL,cS,Nat.add_zero] at Y Z;have a2:∀y al am,Dr y v wt 0 al am cl->L=al->S+1=am->Dr y v wt 1 L S cl:=by
     intro y al am hm Y Z;cases y with
     | gone d=>simp only [Dr] at hm ⊢;omega
     | ph q=>
      cases q <;> simp only [Dr] at hm ⊢ <;> (try exact hm) <;> (try (exfalso;omega))
      ·exact⟨by omega,by omega,hm.2.2⟩
      ·exact⟨by omega,by omega,hm.2.2⟩
      ·exact⟨by omega,by omega,hm.2.2⟩
    exact a2 _ _ _ U Y Z
   ·cases O
  ·cases O;refine h.Iq aw (x:= .ph .Gu) trivial (λk'=>by rw [K];simp) (by simp) (by rw [K];rfl) λL S Y Z=>?_;rw [K] at Y Z;simp only [cL,cS,Nat.add_zero] at Y Z;subst Y Z;exact U
 ·
  have hw:=h.cls ac;rw [if_pos ac,K] at U;rw [K] at hw;obtain⟨a3,a8,a0⟩:=h.main;cases p <;> simp only [Jb] at hw <;> (try exact hw.elim) <;> simp only [Fam.act] at O <;> (try (cases O;done)) <;> simp only [Dr] at U
  ·cases O;exact h.HP ac (x:= .ph (.FZ F.n)) trivial ⟨U.1,U.2.1,U.2.2.1,U.2.2.2.1,U.2.2.2.2,a9⟩
  ·split at O
   ·rename_i m ag;cases O;split
    ·exact h.HP ac (x:= .ph .F3) trivial ⟨U.1,U.2.1,U.2.2.1,V,by assumption,U.2.2.2.2.1⟩
    ·exact h.HP ac (x:= .ph (.Hm _)) trivial ⟨U.1,U.2.1,U.2.2.1,V,U.2.2.2.2.1,Nat.le_refl _,by omega⟩
   ·cases O
  ·split at O
   ·rename_i m ag;split at O
    ·cases O;exact h.HP ac (x:= .ph .Ix) trivial ⟨by omega,by omega,U.2.2.2.2.1⟩
    ·cases O;exact h.HP ac (x:= .ph (.FZ _)) trivial ⟨U.1,U.2.1,U.2.2.1,V,U.2.2.2.2.1,by omega⟩
   ·cases O
  ·cases O;exact h.HP ac (x:= .ph .Fw) trivial U
  ·split at O
   ·rename_i ag;cases O;exact h.HP ac (x:= .ph .Hd) trivial ⟨by omega,by omega,V,by omega,by omega,U.2.2⟩
   ·cases O
  ·split at O
   ·rename_i ag;obtain⟨rfl,rfl⟩:=ag;cases O;exact h.HP ac (x:= .ph .F3) trivial U
   ·cases O
  ·cases O;exact h.HP ac (x:= .ph .Is) trivial U
  ·cases O;exact h.HP ac (x:= .ph .HR) trivial U
  ·cases O;exact h.HP ac (x:= .ph .Gf) trivial U
end
open Go.ConcN (fork_knows)
section
variable {F:Fam}{N0 N j:Nat}{c:Bool}{φ:Nat->Nx}{v wt sm:Nat}{cl:Bool}
theorem Cw.spawn(h:Cw F N0 N j c φ v wt sm cl)(U:φ 0= .ph (.FK j)):
  Cw F N0 (N+1) (j+1) c (upd (upd φ N (.ph (F.start j))) 0 (.ph (F.Fu j))) v wt sm cl:=by
 obtain⟨aw,a0,a1⟩:=h.main;obtain rfl:aw= .FK j:=by rw [a0] at U;exact Nx.ph.inj U
 obtain⟨_,a6,rfl⟩:=a1;have a2:=h.size;have a7:=h.pos;simp only [Bool.toNat_false,Nat.add_zero] at a2;have Y:cU (.ph (F.start j))=1/\cL (.ph (F.start j))=0/\cS (.ph (F.start j))=0:=by
  exact⟨V,V,V⟩
 have K:cU (.ph (F.Fu j))=0/\cL (.ph (F.Fu j))=0/\cS (.ph (F.Fu j))=0/\pend (.ph (F.Fu j))=0/\got (.ph (F.Fu j))= []:=by
  unfold Fam.Fu;split <;> exact⟨rfl,rfl,rfl,rfl,rfl⟩
 have Z:cU (φ 0)=0/\cL (φ 0)=0/\cS (φ 0)=0:=by rw [U];exact⟨V,V,V⟩
 let φ':Nat->Nx:=upd (upd φ N (.ph (F.start j))) 0 (.ph (F.Fu j));have O:φ' 0= .ph (F.Fu j):=upd_same _ _ _;have aq:φ' N= .ph (F.start j):=by show upd _ _ _ _=_;rw [upd_ne _ _ (by omega),upd_same]
 have ac:∀i,0<i->i≠N->φ' i=φ i:=λi ag al=>by show upd _ _ _ _=_;rw [upd_ne _ _ (by omega),upd_ne _ _ al]
 have sum:∀f:Nx->Nat,f (φ 0)=0->f (.ph (F.Fu j))=0->(sumTo (N+1) λi=>f (φ' i))=(sumTo N λi=>f (φ i))+f (.ph (F.start j)):=by
  intro f f0 f1;simp only [sumTo,aq];congr 1;have a3:0<N:=by omega
  have:=sumTo_upd (upd φ N (.ph (F.start j))) (.ph (F.Fu j)) f a3;have e2:upd φ N (.ph (F.start j)) 0=φ 0:=upd_ne _ _ (by omega);rw [e2,f0,f1] at this;have a8:=sumTo_upd_out φ (.ph (F.start j)) f (i:=N) (j:=N) (Nat.le_refl _);show sumTo N (λi=>f (upd (upd φ N (.ph (F.start j))) 0 (.ph (F.Fu j)) i))=_;omega
 have am:=h.cnt;have ap:=h.J3;rw [U] at am ap;simp only [pend] at am ap;show Cw F N0 (N+1) (j+1) false φ' v wt sm cl;have a4:got (φ 0)= []:=by rw [U];rfl
 refine⟨h.pos,h.n1,h.HU,by simp;omega,by omega,by simp,⟨F.Fu j,O,?_⟩,λi ag al=>by rw [ac i ag (by omega)];exact h.old i ag al,λk a5=>?_,by simp,?_,?_,?_,λk a5 hh=>?_,by rw [O,K.2.2.2.2];exact .nil,by rw [O,K.2.2.2.2];simp⟩
 ·unfold Fam.Fu;split
  ·exact⟨by assumption,V⟩
  ·exact⟨V,by omega,V⟩
 ·by_cases e:k=j
  ·subst e;rw [show N0+k=N by omega,aq];exact V
  ·rw [ac _ (by omega) (by omega)];exact h.work k (by omega)
 ·rw [O,K.2.2.2.1,sum cU Z.1 K.1,Y.1];exact am
 ·rw [O,K.2.2.2.1];exact ap
 ·have hm:=h.mode;simp only [Bool.false_eq_true,if_false] at hm ⊢;rw [sum cL Z.2.1 K.2.1,sum cS Z.2.2 K.2.2.1,Y.2.1,Y.2.2];exact hm
 ·rw [O,K.2.2.2.2];by_cases e:k=j
  ·exact absurd hh Bool.false_ne_true
  ·rw [ac _ (by omega) (by omega)];have:=h.KG k (by omega) hh
   rwa [a4] at this
theorem Cw.Ze(h:Cw F N0 N j c φ v wt sm cl)(O:φ 0= .ph .GV):
  Cw F N0 (N+1) j true (upd (upd φ N (.ph .Di)) 0 (.ph (.FG [] []))) v wt sm cl:=by
 obtain⟨aw,a0,a1⟩:=h.main;obtain rfl:aw= .GV:=by rw [a0] at O;exact Nx.ph.inj O
 obtain⟨aq,rfl⟩:=a1;have a2:=h.size;have a5:=h.pos;simp only [Bool.toNat_false,Nat.add_zero] at a2;have U:cU (φ 0)=0/\cL (φ 0)=0/\cS (φ 0)=0:=by rw [O];exact⟨V,V,V⟩
 let φ':Nat->Nx:=upd (upd φ N (.ph .Di)) 0 (.ph (.FG [] []));have K:φ' 0= .ph (.FG [] []):=upd_same _ _ _;have Y:φ' N= .ph .Di:=by show upd _ _ _ _=_;rw [upd_ne _ _ (by omega),upd_same]
 have Z:∀i,0<i->i≠N->φ' i=φ i:=λi ac ag=>by show upd _ _ _ _=_;rw [upd_ne _ _ (by omega),upd_ne _ _ ag]
 have sum:∀f:Nx->Nat,f (φ 0)=0->f (.ph (.FG [] []))=0->f (.ph .Di)=0->(sumTo (N+1) λi=>f (φ' i))=(sumTo N λi=>f (φ i)):=by
  intro f f0 f1 f2;simp only [sumTo,Y,f2];have a3:0<N:=by omega
  have:=sumTo_upd (upd φ N (.ph .Di)) (.ph (.FG [] [])) f a3;have e2:upd φ N (.ph .Di) 0=φ 0:=upd_ne _ _ (by omega);rw [e2,f0,f1] at this;have a6:=sumTo_upd_out φ (.ph .Di) f (i:=N) (j:=N) (Nat.le_refl _);show sumTo N (λi=>f (upd (upd φ N (.ph .Di)) 0 (.ph (.FG [] [])) i))+0=_;omega
 have al:=h.cnt;have am:=h.J3;rw [O] at al am;simp only [pend] at al am;show Cw F N0 (N+1) j true φ' v wt sm cl;have a4:got (φ 0)= []:=by rw [O];rfl
 refine⟨h.pos,h.n1,h.HU,by simp;omega,h.jn,λ_=>aq,⟨.FG [] [],K,aq,V⟩,λi ac ag=>by rw [Z i ac (by omega)];exact h.old i ac ag,λk ap=>?_,λ_=>by rw [show N0+F.n=N by omega,Y];trivial,?_,?_,?_,λk ap hh=>?_,by rw [K];exact .nil,by rw [K];simp [got]⟩
 ·rw [Z _ (by omega) (by omega)];exact h.work k ap
 ·rw [K,sum cU U.1 rfl rfl];exact al
 ·rw [K];exact am
 ·have hm:=h.mode;simp only [Bool.false_eq_true,if_false,if_true] at hm ⊢;rw [show N0+F.n=N by omega,Y,sum cL U.2.1 rfl rfl,sum cS U.2.2 rfl rfl];exact hm
 ·rw [K];rw [Z _ (by omega) (by omega)];have:=h.KG k ap hh
  rwa [a4] at this
theorem Cw.leave(h:Cw F N0 N j c φ v wt sm cl){i d d':Nat}(hi:i<N)(K:φ i= .gone d):Cw F N0 N j c (upd φ i (.gone d')) v wt sm cl:=by
 rcases h.Eu hi with rfl | ⟨a,b⟩ | ⟨k,U,rfl⟩ | ⟨Y,rfl⟩
 ·obtain⟨p,Z,_⟩:=h.main;rw [K] at Z;cases Z
 ·have am:=hi;have z:∀f:Nx->Nat,f (.gone d)=0->f (.gone d')=0->(sumTo N λa=>f (upd φ i (.gone d') a))=sumTo N λa=>f (φ a):=by
   intro f f0 f1;have:=sumTo_upd φ (.gone d') f am;rw [K] at this;omega
  have a0:=h.size;have O:upd φ i (.gone d') 0=φ 0:=upd_ne _ _ (by omega);refine⟨h.pos,h.n1,h.HU,h.size,h.jn,h.cj,by rw [O];exact h.main,λac ap aq=>?_,λk U=>by rw [upd_ne _ _ (by omega)];exact h.work k U,λY=>by rw [upd_ne _ _ (by omega)];exact h.cls Y,by rw [O,z cU rfl rfl];exact h.cnt,by rw [O];exact h.J3,?_,λk U hh=>by rw [O,upd_ne _ _ (by omega)];exact h.KG k U hh,by rw [O];exact h.nd,by rw [O];exact h.sub⟩
  ·by_cases e:ac=i
   ·subst e;rw [upd_same];trivial
   ·rw [upd_ne _ _ e];exact h.old ac ap aq
  ·rw [z cL rfl rfl,z cS rfl rfl,upd_ne _ _ (by omega)];exact h.mode
 ·refine h.Iq U (x:= .gone d') trivial (by rw [K];simp) (by simp) (by rw [K];rfl) λL S ag al=>?_;rw [K] at ag al;have aw:L=sumTo N λi=>cL (φ i):=ag;have e2:S=sumTo N λi=>cS (φ i):=al;subst aw e2;exact h.mode
 ·have hm:=h.mode;rw [if_pos Y,K] at hm;exact h.HP Y (x:= .gone d') trivial hm
theorem Cw.Yt(h:Cw F N0 N j c φ v wt sm cl)(O:c=true)(U:φ (N0+F.n)= .ph .Hd∨φ (N0+F.n)= .ph .F3∨φ (N0+F.n)= .ph .Gf∨φ (N0+F.n)= .ph .HF∨NI (φ (N0+F.n))):∀k,k<j->NI (φ (N0+k)):=by
 intro k Y;have hm:=h.mode;rw [if_pos O] at hm;have Z:=h.size;have ac:=h.cnt;have ag:cU (φ (N0+k))<=sumTo N λi=>cU (φ i):=le_sumTo (f:=λi=>cU (φ i)) (show N0+k<N by omega);have al:cL (φ (N0+k))<=sumTo N λi=>cL (φ i):=le_sumTo (f:=λi=>cL (φ i)) (show N0+k<N by omega);have am:cS (φ (N0+k))<=sumTo N λi=>cS (φ i):=le_sumTo (f:=λi=>cS (φ i)) (show N0+k<N by omega);have ap:v=0/\(sumTo N λi=>cL (φ i))=0/\(sumTo N λi=>cS (φ i))=0:=by
  rcases U with e | e | e | e | e
  ·rw [e] at hm;exact⟨hm.2.2.2.2.1,hm.1,hm.2.1⟩
  ·rw [e] at hm;exact⟨hm.2.2.2.2.1,hm.1,hm.2.1⟩
  ·rw [e] at hm;exact⟨hm.2.2.2.2.1,hm.1,hm.2.1⟩
  ·rw [e] at hm;exact⟨hm.2.2.2.2.1,hm.1,hm.2.1⟩
  ·cases K:φ (N0+F.n) with
   | gone d=>rw [K] at hm;exact⟨hm.2.2.2.2.1,hm.1,hm.2.1⟩
   | ph p=>rw [K] at e;exact e.elim
 have hw:=h.work k Y;cases K:φ (N0+k) with
 | gone d=>trivial
 | ph p=>
  have aq:1<=cU (φ (N0+k))+cL (φ (N0+k))+cS (φ (N0+k)):=by
   rw [K] at hw ⊢;cases p <;> simp only [GQ] at hw <;> simp [cU,cL,cS]
  exfalso;omega
end
open Go.ConcN (RelBy)
def dl:LP->Nat
 | .Hi | .Ef _ _ _ | .Ce _ _ _ _ | .Ij _ | .Co _ | .FY | .Es _ | .Ed _ | .len=>1
 | .HN | .ED _ | .Hl | .EW _ | .Fa=>1
 | _=>0
def FL:Nx->Nat
 | .gone d=>d
 | .ph .Hk | .ph .GR | .ph .Hc | .ph .Fg=>1
 | .ph (.FZ _) | .ph (.Hm _) | .ph .Ix | .ph .HR | .ph .Fw | .ph .Hd | .ph .F3=>1
 | .ph (.Ir _) | .ph (.Iv _) | .ph (.HL _) | .ph (.G1 _)=>1
 | .ph (.lk _ p)=>dl p
 | _=>0
def late:Nx->Prop
 | .ph (.Hf _) | .ph .HS | .ph .Gu | .ph (.lk _ _)=>False
 | _=>True
def KE(t:Trace)(E:LH)(ρ:Nat):Prop:=∀b,E b≠none->∀x a,touchAt t x=some a->CH a.loc=some b->a.write=true->Before t x ρ
structure EX (F:Fam) (N0 t0 N j:Nat) (φ:Nat->Nx) (S:Nat->St) (t:Trace):Prop where
 deaf:∀i,i<N->Deaf t i=FL (φ i)
 above:∀i,N<=i->Deaf t i=0
 plain:∀x a b,touchAt t x=some a->CH a.loc=some b->(b=F.wg∨b=F.mu)->a.kind= .plain->∀i,i<N->(i=0∨N0<=i)->Knows t i x
 said:∀x a b,touchAt t x=some a->CH a.loc=some b->(b=F.wg∨b=F.mu)->a.kind= .said->Knows t 0 x
 Gj:∀x a,touchAt t x=some a->CH a.loc=some F.fd->(∀i,i<N->(i=0∨N0<=i)->Knows t i x)∨∃k,k<j/\t.g? x=some (N0+k)/\t.counts x/\a.loc= .cell ⟨F.fd,k,none⟩
 over:∀x g,t.g? x=some g->g≠0->t.counts x->(∃y,t.g? y=some 0/\HappensBefore t x y)∨(N0<=g/\g<N)
 norel:∀x,t0<=x->t.act? x≠some (.mark (.release F.sA))
 Mf:t0<=t.size
 rel:∀k,k<j->late (φ (N0+k))->∃ρ,t0<=ρ/\RelBy F.sA t (N0+k) ρ/\KE t (S (N0+k)).E ρ
section
variable {F:Fam}{N0 t0 N j:Nat}{φ:Nat->Nx}{S:Nat->St}{t u:Trace}
def EvS(F:Fam)(N0 j i:Nat)(e:Event):Prop:=
 (∀a,(MemAct.ofEvent e).touch? =some a->∃b,CH a.loc=some b/\(((b=F.wg∨b=F.mu)/\a.kind≠ .plain/\(a.kind= .said->i=0))∨(b=F.fd/\∃k,k<j/\i=N0+k/\a.loc= .cell ⟨F.fd,k,none⟩/\a.kind= .plain)))/\e.loc≠ .mark (.release F.sA)
theorem EX.noRace(h:EX F N0 t0 N j φ S t)(am:∀said,¬Race said t){i:Nat}(hi:i<N)(Z:i=0∨N0<=i){fn:FuncId}{pos:String}{es:Array Event}
  (ap:∀e∈es,EvS F N0 j i e):∀said,¬Race said (t++MemOp.ofEvents i fn pos es):=by
 intro said;refine noRace_append (g:=i) (am said) (λop O=>by obtain⟨e,_,rfl⟩:=mem_ofEvents O;rfl) λx a U op O d hd aq=>?_;obtain⟨e,he,rfl⟩:=mem_ofEvents O;obtain⟨b,hb,K⟩:=(ap e he).1 d hd;obtain⟨ac,hm,a6,aw⟩:=aq;have Y:CH a.loc=some b:=by rw [ac];exact hb
 rcases K with⟨K,ag,a0⟩ | ⟨rfl,k,ag,a1,a2,_⟩
 ·rcases aw with q | q | ⟨_,q,q'⟩
  ·exact h.plain x a b U Y K q i hi Z
  ·exact absurd q ag
  ·have:=h.said x a b U Y K q
   rwa [← a0 q'] at this
 ·rcases h.Gj x a U Y with q | ⟨k',_,a3,_,al⟩
  ·exact q i hi Z
  ·rw [ac,a2] at al;have:k=k':=by simpa using al
   subst this;obtain⟨z,a4,a5⟩:=Option.map_eq_some_iff.1 a3;have:=knows_own a4;rw [a5,← a1] at this;exact this
theorem OV(h:∀x g,t.g? x=some g->g≠0->t.counts x->(∃y,t.g? y=some 0/\HappensBefore t x y)∨(N0<=g/\g<N))(hu:∀op∈u,op.g=0∨(N0<=op.g/\op.g<N)∨op.act.touch? =none):
  ∀x g,(t++u).g? x=some g->g≠0->(t++u).counts x->(∃y,(t++u).g? y=some 0/\HappensBefore (t++u) x y)∨(N0<=g/\g<N):=by
 intro x g O U Y;rcases Nat.lt_or_ge x t.size with q | q
 ·rcases h x g (by rw [← g?_old (u:=u) q];exact O) U ((counts_old q).1 Y) with⟨y,K,hb⟩ | hh
  ·have al:y<t.size:=by
    unfold Trace.g? at K;obtain⟨z,am,_⟩:=Option.map_eq_some_iff.1 K;exact lt_size_of_getElem? am
   exact .inl ⟨y,by rw [g?_old al];exact K,hb_app u hb⟩
  ·exact .inr hh
 ·obtain⟨a,ap,_⟩:=Y;obtain⟨op,Z,ac⟩:=touch_of ap;have ag:op.g=g:=by simpa [Trace.g?,Z] using O
  rcases getElem?_append_cases Z with⟨aw,_⟩ | ⟨_,aq⟩
  ·omega
  ·rcases hu op aq with z | z | z
   ·exact absurd (ag▸z) U
   ·exact .inr (ag▸z)
   ·rw [z] at ac;cases ac
theorem OO(h:∀x,t0<=x->t.act? x≠some (.mark (.release F.sA)))(hu:∀op∈u,op.act≠ .mark (.release F.sA)):∀x,t0<=x->(t++u).act? x≠some (.mark (.release F.sA)):=by
 intro x O e;obtain⟨op,U,K⟩:=Option.map_eq_some_iff.1 e;rcases getElem?_append_cases U with⟨_,Y⟩ | ⟨_,Z⟩
 ·exact h x O (by rw [act?_of Y,K])
 ·exact hu op Z K
theorem Uz{g:Nat}(hu:∀op∈u,op.g=g->op.act.touch? =none):∀x,t.size<=x->(t++u).g? x=some g->¬(t++u).counts x:=by
 intro x ag U Y;obtain⟨a,Z,_⟩:=Y;obtain⟨op,K,O⟩:=touch_of Z;rcases getElem?_append_cases K with⟨al,_⟩ | ⟨_,ac⟩
 ·omega
 ·rw [hu op ac (by simpa [Trace.g?,K] using U)] at O;cases O
theorem KE.app{E:LH}{ρ:Nat}(h:KE t E ρ)(hu:∀op∈u,∀a b,op.act.touch? =some a->CH a.loc=some b->a.write=true->E b=none):KE (t++u) E ρ:=by
 intro b hb x a U K hw;obtain⟨op,Y,O⟩:=touch_of U;rcases getElem?_append_cases Y with⟨ag,Z⟩ | ⟨_,ac⟩
 ·exact(h b hb x a (by rw [touchAt_of Z];exact O) K hw).app u
 ·exact absurd (hu op ac a b O K hw) hb
theorem EX.app(h:EX F N0 t0 N j φ S t){i:Nat}(hi:i<N){x:Nx}{s':St}{fn:FuncId}{pos:String}{es:Array Event}
  (hd:deafBehind (FL (φ i)) es=FL x)
  (aq:∀e∈es,(∀a b,(MemAct.ofEvent e).touch? =some a->CH a.loc=some b->(b=F.wg∨b=F.mu)->a.kind≠ .plain/\(a.kind= .said->i=0))/\
   (∀a,(MemAct.ofEvent e).touch? =some a->CH a.loc=some F.fd->∃k,k<j/\i=N0+k/\a.loc= .cell ⟨F.fd,k,none⟩/\a.kind= .plain)/\e.loc≠ .mark (.release F.sA))
  (bb:(i=0∨N0<=i)∨∀e∈es,(MemAct.ofEvent e).touch? =none)
  (be:∀k,k<j->late (φ (N0+k))->∀e∈es,∀a b,(MemAct.ofEvent e).touch? =some a->CH a.loc=some b->a.write=true->(S (N0+k)).E b=none)
  (a0:∀k,k<j->i=N0+k->late x->(late (φ i)/\s'.E=(S i).E/\∀ρ,RelBy F.sA t i ρ->RelBy F.sA (t++MemOp.ofEvents i fn pos es) i ρ)∨∃ρ,t0<=ρ/\RelBy F.sA (t++MemOp.ofEvents i fn pos es) i ρ/\KE (t++MemOp.ofEvents i fn pos es) s'.E ρ):
  EX F N0 t0 N j (upd φ i x) (upd S i s') (t++MemOp.ofEvents i fn pos es):=by
 generalize hu:MemOp.ofEvents i fn pos es=u at*;have ag:∀op∈u,op.g=i:=λop O=>by rw [← hu] at O;obtain⟨e,_,rfl⟩:=mem_ofEvents O;rfl
 have aw:∀op∈u,∃e∈es,op.act=MemAct.ofEvent e:=λop O=>by rw [← hu] at O;obtain⟨e,he,rfl⟩:=mem_ofEvents O;exact⟨e,he,V⟩
 have hold:∀{y a},touchAt (t++u) y=some a->(touchAt t y=some a/\y<t.size)∨(Knows (t++u) i y/\(t++u).g? y=some i/\∃e∈es,(MemAct.ofEvent e).touch? =some a):=by
  intro y a bi;obtain⟨op,O,a4⟩:=touch_of bi;rcases getElem?_append_cases O with⟨a0,bo⟩ | ⟨_,a1⟩
  ·left;exact⟨by rw [touchAt_of bo];exact a4,a0⟩
  ·right;obtain⟨e,he,Z⟩:=aw op a1;exact⟨by have:=knows_own O;rwa [ag op a1] at this,by simp [Trace.g?,O,ag op a1],e,he,by rw [← Z];exact a4⟩
 have a5:∀k,k<j->late (φ (N0+k))->∀ρ,KE t (S (N0+k)).E ρ->KE (t++u) (S (N0+k)).E ρ:=λk K U ρ bv=>bv.app λop bw a b a6 hb hw=>by
  obtain⟨e,he,Z⟩:=aw op bw;rw [Z] at a6;exact be k K U e he a b a6 hb hw
 refine⟨λY ac=>?_,λY ac=>?_,λy a b al hb am K Y ac a2=>?_,λy a b al hb am K=>?_,λy a al hb=>?_,OV h.over λop O=>?_,OO h.norel λop O e=>?_,by simp;have:=h.Mf;omega,λk K U=>?_⟩
 ·by_cases e:Y=i
  ·subst e;rw [upd_same,← hu,Deaf_own,h.deaf Y hi,hd]
  ·rw [upd_ne _ _ e,Deaf_other t (Ne.symm e) u ag];exact h.deaf Y ac
 ·rw [Deaf_other t (by omega) u ag];exact h.above Y ac
 ·rcases hold al with⟨q,_⟩ | ⟨_,_,e,he,ap⟩
  ·exact(h.plain y a b q hb am K Y ac a2).app _
  ·exact absurd K ((aq e he).1 a b ap hb am).1
 ·rcases hold al with⟨q,_⟩ | ⟨a7,_,e,he,ap⟩
  ·exact(h.said y a b q hb am K).app _
  ·rw [← ((aq e he).1 a b ap hb am).2 K];exact a7
 ·rcases hold al with⟨q,a8⟩ | ⟨a7,a3,e,he,ap⟩
  ·rcases h.Gj y a q hb with z | ⟨k,K,a3,b0,U⟩
   ·exact .inl λY ac a2=>(z Y ac a2).app _
   ·exact .inr ⟨k,K,by rw [g?_old a8];exact a3,(counts_old a8).2 b0,U⟩
  ·obtain⟨k,K,b1,U,b2⟩:=(aq e he).2.1 a ap hb;exact .inr ⟨k,K,by rw [a3,b1],⟨a,al,by rw [U];rfl,.inl (by rw [b2];simp)⟩,U⟩
 ·rw [ag op O];rcases bb with(q | q) | q
  ·exact .inl q
  ·exact .inr (.inl ⟨q,hi⟩)
  ·obtain⟨e,he,Z⟩:=aw op O;rw [Z];exact .inr (.inr (q e he))
 ·obtain⟨ev,b3,Z⟩:=aw op O;rw [Z] at e;exact(aq ev b3).2.2 (by
   obtain⟨loc,wr,b4⟩:=ev
   cases loc with
   | mark m=>simp only [MemAct.ofEvent,MemAct.mark.injEq] at e;rw [e]
   | obj r=>cases wr <;> cases b4 <;> simp [MemAct.ofEvent] at e
   | _=>simp [MemAct.ofEvent] at e)
 ·by_cases e:i=N0+k
  ·subst e;rw [upd_same] at U;rw [upd_same];rcases a0 k K rfl U with⟨a9,b5,b6⟩ | hh
   ·obtain⟨ρ,a,b,c⟩:=h.rel k K a9;exact⟨ρ,a,b6 ρ b,by rw [b5];exact a5 k K a9 ρ c⟩
   ·exact hh
  ·rw [upd_ne _ _ (Ne.symm e)] at U;rw [upd_ne _ _ (Ne.symm e)];obtain⟨ρ,a,b,c⟩:=h.rel k K U;exact⟨ρ,a,b.appOther ag e,a5 k K U ρ c⟩
theorem EX.C8(h:EX F N0 t0 N j φ S t)(hu:∀op∈u,op.act.touch? =none/\∀m,op.act≠ .mark m):EX F N0 t0 N j φ S (t++u):=by
 have ap:∀g,Deaf (t++u) g=Deaf t g:=by
  intro g;obtain⟨l⟩:=u;rw [Deaf_append];have key:∀(l:List MemOp) (d:Nat),(∀op∈l,∀m,op.act≠ .mark m)->l.foldl (deafStep g) d=d:=by
   intro l
   induction l with
   | nil=>intro d _;rfl
   | cons z l a0=>
    intro d U;have a1:=U z (by simp);have e2:deafStep g d z=d:=by
     unfold deafStep;split <;> first | (rename_i e;exact absurd e (a1 _)) | rfl
    rw [List.foldl_cons,e2];exact a0 d λop K=>U op (by simp [K])
  exact key l _ λop K=>(hu op (by simpa using K)).2
 have hold:∀{y a},touchAt (t++u) y=some a->touchAt t y=some a/\y<t.size:=by
  intro y a Z;obtain⟨op,K,ac⟩:=touch_of Z;rcases getElem?_append_cases K with⟨a2,a3⟩ | ⟨_,a4⟩
  ·exact⟨by rw [touchAt_of a3];exact ac,a2⟩
  ·rw [(hu op a4).1] at ac;cases ac
 have a5:∀g x,t.size<=x->(t++u).g? x=some g->¬(t++u).counts x:=λg=>Uz λop K _=>(hu op K).1;refine⟨λi hi=>by rw [ap];exact h.deaf i hi,λi hi=>by rw [ap];exact h.above i hi,λy a b Y hb ag O i hi al=>(h.plain y a b (hold Y).1 hb ag O i hi al).app _,λy a b Y hb ag O=>(h.said y a b (hold Y).1 hb ag O).app _,λy a Y hb=>?_,
  OV h.over λop K=> .inr (.inr (hu op K).1),OO h.norel λop K=>(hu op K).2 _,by simp;have:=h.Mf;omega,λk O U=>let ⟨ρ,a,b,c⟩:=h.rel k O U;⟨ρ,a,b.app λx Z am=>a5 _ x Z am,c.app λop K a b aq=>by rw [(hu op K).1] at aq;cases aq⟩⟩
 obtain⟨q,aw⟩:=hold Y;rcases h.Gj y a q hb with z | ⟨k,O,am,a6,U⟩
 ·exact .inl λa7 a8 al=>(z a7 a8 al).app _
 ·exact .inr ⟨k,O,by rw [g?_old aw];exact am,(counts_old aw).2 a6,U⟩
theorem EX.spawn(h:EX F N0 t0 N j φ S t){φ':Nat->Nx}{S':Nat->St}(ac:0<N)(bo:N=N0+j)(hd:∀i,i<N->FL (φ' i)=FL (φ i))(a5:FL (φ' N)=0)(a6:FL (φ 0)=0)
  (a7:∀k,k<j+1->late (φ' (N0+k))->k<j/\late (φ (N0+k))/\(S' (N0+k)).E=(S (N0+k)).E)
  {x y:MemOp} (Z:x.g=0/\x.act= .go N) (aq:y.g=N/\y.act= .start):EX F N0 t0 (N+1) (j+1) φ' S' (t++ #[x,y]):=by
 have hu:∀op∈(#[x,y]:Array MemOp),op.act.touch? =none/\∀m,op.act≠ .mark m:=by
  intro op aw;simp only [List.mem_toArray,List.mem_cons,List.not_mem_nil,or_false] at aw;rcases aw with rfl | rfl
  ·rw [Z.2];exact⟨V,by simp⟩
  ·rw [aq.2];exact⟨V,by simp⟩
 have K:=h.C8 hu;have a0:∀z,Knows t 0 z->Knows (t++ #[x,y]) N z:=λz O=>fork_knows Z aq (by rw [h.deaf 0 ac];exact a6) (h.above N (Nat.le_refl _)) O;have hold:∀{z a},touchAt (t++ #[x,y]) z=some a->touchAt t z=some a:=by
  intro z a O;obtain⟨op,ag,U⟩:=touch_of O;rcases getElem?_append_cases ag with⟨a1,a8⟩ | ⟨_,al⟩
  ·rw [touchAt_of a8];exact U
  ·rw [(hu op al).1] at U;cases U
 refine⟨λi hi=>?_,λi hi=>K.above i (by omega),λz a b O hb a2 Y i hi am=>?_,K.said,λz a O hb=>?_,λz g ap a9 bb=>?_,K.norel,K.Mf,λk Y Z=>?_⟩
 ·rcases Nat.lt_or_ge i N with q | q
  ·rw [hd i q];exact K.deaf i q
  ·obtain rfl:i=N:=by omega
   rw [a5];exact K.above i (Nat.le_refl _)
 ·rcases Nat.lt_or_ge i N with q | q
  ·exact K.plain z a b O hb a2 Y i q am
  ·obtain rfl:i=N:=by omega
   exact a0 z (h.plain z a b (hold O) hb a2 Y 0 ac (.inl V))
 ·have a3:z<t.size:=by
   obtain⟨op,ag,U⟩:=touch_of O;rcases getElem?_append_cases ag with⟨a1,_⟩ | ⟨_,al⟩
   ·exact a1
   ·rw [(hu op al).1] at U;cases U
  rcases h.Gj z a (hold O) hb with a4 | ⟨k,Y,ap,be,bi⟩
  ·refine .inl λi hi am=>?_;rcases Nat.lt_or_ge i N with q | q
   ·exact(a4 i q am).app _
   ·obtain rfl:i=N:=by omega
    exact a0 z (a4 0 ac (.inl V))
  ·exact .inr ⟨k,by omega,by rw [g?_old a3];exact ap,(counts_old a3).2 be,bi⟩
 ·rcases K.over z g ap a9 bb with q | q
  ·exact .inl q
  ·exact .inr ⟨q.1,by omega⟩
 ·obtain⟨a,b,c⟩:=a7 k Y Z;rw [c];exact K.rel k a b
end
end Pal
namespace Pal
open Go Go.Conc
open Go.ConcN (upd upd_same upd_ne sumTo sumTo_upd sumTo_upd_out sumTo_congr le_sumTo sumTo_le)
def pH:LP->Nat
 | .len | .KF | .JZ | .Fy | .Gy | .J1 | .J0 | .JW | .HN=>1
 | _=>0
def pN:LP->Nat
 | .EW false=>1
 | _=>0
def pZ:LP->Nat
 | .EW true=>1
 | _=>0
def pV:LP->Nat
 | .FY | .Es _=>1
 | _=>0
def pT:LP->Nat
 | .Ef _ true _ | .Ce _ true _ _=>1
 | _=>0
def pQ:LP->Nat
 | .Ij _ | .Co _=>1
 | _=>0
def pD:LP->Nat
 | .Ed _=>1
 | _=>0
def pX:LP->Nat
 | .ED _ | .Hl=>1
 | _=>0
def oC(f:LP->Nat):Option LP->Nat
 | some p=>f p
 | none=>0
def LN(m:M4)(q h rn rs v t s d x:Nat):Prop:=
 h=m.l.toNat/\
 (m.s=false->rs=0/\d=0/\m.k.toNat=rn+q+v+t/\s=m.w+rn+q/\(m.l=false->m.k=false->1<=m.w->1<=x))/\
 (m.s=true->m.k=false/\rn=0/\t=0/\m.l.toNat+rs+q+v+d=1/\m.w=s+v+d/\1<=m.w)
def Lc:LP->M4->Prop
 | .Ce sv aw it old,_=>(aw=true->old.k=true)/\(sv=true->aw=true)/\it<=4/\C4 old
 | .Ef sv aw it,_=>(sv=true->aw=true)/\it<=4
 | .Ed ex,m=>ex=false->2<=m.w
 | .ED old,_=>old.l=false/\old.k=false/\old.s=false/\old.w≠0/\C4 old
 | _,_=>True
section
variable {F:Fam}{p:LP}{m m':M4}{q q' h rn rs v t s d x:Nat}{es:Array Event}{o:Option LP}
theorem Zl(ap:LN m q (pH p+h) (pN p+rn) (pZ p+rs) (pV p+v) (pT p+t) (pQ p+s) (pD p+d) (pX p+x))(K:Lc p m)(Y:C4 m)(aq:∀sv,p= .Co sv->q≠0):Dt p m q:=by
 obtain⟨l,k,st,w⟩:=m;obtain⟨Z,O,U⟩:=ap;cases p <;> simp only [Dt,Lc] at K ⊢ <;> (try exact Y)
 ·exact⟨K.1,K.2,Y,λe=>by
   subst e
   simp only [pH,pN,pZ,pV,pT,pQ,pD,pX] at Z O U
   cases st
   ·have:=(O V).2.2.1
    cases k
    ·simp at this;omega
    ·rfl
   ·have:=(U V).2.2.1;omega⟩
 ·exact⟨K.1,K.2.1,K.2.2.1,K.2.2.2,Y,λe=>by
   subst e
   simp only [pH,pN,pZ,pV,pT,pQ,pD,pX] at Z O U
   cases st
   ·have:=(O V).2.2.1
    cases k
    ·simp at this;omega
    ·rfl
   ·have:=(U V).2.2.1;omega⟩
 ·exact aq _ V
 ·simp only [pH,pN,pZ,pV,pT,pQ,pD,pX] at Z O U;refine⟨λe=>?_,λe=>?_,Y⟩
  ·subst e;obtain⟨a1,al,ag,ac,aw,am⟩:=U V;cases l
   ·exact⟨V,a1,by omega⟩
   ·simp at ac;omega
  ·subst e;obtain⟨a1,al,ag,ac⟩:=O V;cases k
   ·simp at ag;omega
   ·rfl
 ·simp only [pH,pN,pZ,pV,pT,pQ,pD,pX] at Z O U;cases st
  ·have:=(O V).2.1;omega
  ·obtain⟨a1,al,ag,ac,aw,am⟩:=U V;cases l
   ·exact⟨V,V,a1,am,K,Y⟩
   ·simp at ac;omega
 ·simp only [pH,pN,pZ,pV,pT,pQ,pD,pX] at Z;cases l
  ·simp at Z
  ·exact⟨V,Y⟩
 ·exact⟨K.1,K.2.1,K.2.2.1,K.2.2.2.1,K.2.2.2.2,Y⟩
 ·refine⟨?_,Y⟩;have a0:k.toNat<=1:=Bool.toNat_le k;cases st
  ·have:=(O V).2.2.1;simp only at this;omega
  ·have:=(U V).2.2.2.1;simp only at this;omega
set_option maxHeartbeats 1000000 in
theorem LN.step(K:(m',q',es,o)∈F.BV p m q)(U:Dt p m q)(O:LN m q (pH p+h) (pN p+rn) (pZ p+rs) (pV p+v) (pT p+t) (pQ p+s) (pD p+d) (pX p+x)):
  LN m' q' (oC pH o+h) (oC pN o+rn) (oC pZ o+rs) (oC pV o+v) (oC pT o+t) (oC pQ o+s) (oC pD o+d) (oC pX o+x):=by
 obtain⟨l,k,st,w⟩:=m;cases p <;> simp only [Fam.BV,List.mem_singleton,Prod.mk.injEq,List.not_mem_nil] at K
 case F1=>obtain⟨rfl,rfl,-,rfl⟩:=K;exact O
 case Hi=>
  split at K
  ·rename_i e;simp only [M4.zero,M4.mk.injEq] at e;obtain⟨rfl,rfl,rfl,rfl⟩:=e;simp only [List.mem_singleton,Prod.mk.injEq] at K;obtain⟨rfl,rfl,-,rfl⟩:=K;simp [LN,pH,pN,pZ,pV,pT,pQ,pD,pX,oC] at O ⊢;omega
  ·simp only [List.mem_singleton,Prod.mk.injEq] at K;obtain⟨rfl,rfl,-,rfl⟩:=K;exact O
 case Ef sv aw it=>obtain⟨rfl,rfl,-,rfl⟩:=K;cases aw <;> exact O
 case Ce sv aw it old=>
  simp only [Fam.Fv,List.mem_append] at K;simp only [Dt] at U;obtain⟨k1,Y,Z,ac,am,-⟩:=U;rcases K with K | K
  ·split at K
   ·rename_i c;split at K
    ·rename_i c2;simp only [List.mem_singleton] at K;obtain⟨rfl,c3,c4⟩:=c2;split at K
     ·rename_i e;subst e;simp only [Prod.mk.injEq] at K;obtain⟨rfl,rfl,-,rfl⟩:=K;simp only at c c3 c4;obtain⟨rfl,rfl,-⟩:=c;subst c3;simp [LN,pH,pN,pZ,pV,pT,pQ,pD,pX,oC] at O ⊢;omega
     ·simp only [Prod.mk.injEq] at K;obtain⟨rfl,rfl,-,rfl⟩:=K;exact O
    ·simp only [List.mem_singleton,Prod.mk.injEq] at K;obtain⟨rfl,rfl,-,rfl⟩:=K;cases aw <;> exact O
   ·simp at K
  ·split at K
   ·rename_i e;subst e;split at K
    ·rename_i c;simp only [List.mem_singleton,Prod.mk.injEq] at K;obtain⟨rfl,rfl,-,rfl⟩:=K;simp only at c;obtain⟨rfl,rfl⟩:=c;cases aw <;> cases k <;> simp [LN,pH,pN,pZ,pV,pT,pQ,pD,pX,oC] at O k1 ⊢ <;> omega
    ·rename_i c;have key:∀o',(o'=some (LP.Ij sv)∨o'=some (LP.Co sv))->LN ⟨l,!aw&&k,st || (sv&&l),w+1⟩ q (oC pH o'+h) (oC pN o'+rn) (oC pZ o'+rs) (oC pV o'+v) (oC pT o'+t) (oC pQ o'+s) (oC pD o'+d) (oC pX o'+x):=by
      intro o' ap;have ag:oC pH o'=0/\oC pN o'=0/\oC pZ o'=0/\oC pV o'=0/\oC pT o'=0/\oC pQ o'=1/\oC pD o'=0/\oC pX o'=0:=by
       rcases ap with rfl | rfl <;> exact⟨rfl,rfl,rfl,rfl,rfl,rfl,rfl,rfl⟩
      obtain⟨ag,e2,aq,a0,a1,a2,a3,a4⟩:=ag;rw [ag,e2,aq,a0,a1,a2,a3,a4];cases l <;> cases st <;> cases k <;> cases aw <;> cases sv <;> simp [LN,pH,pN,pZ,pV,pT,pQ,pD,pX] at O k1 Y c ⊢ <;> omega
     simp only [List.mem_cons,List.not_mem_nil,or_false,Prod.mk.injEq] at K;rcases K with⟨rfl,rfl,-,rfl⟩ | ⟨rfl,rfl,-,rfl⟩
     ·exact key _ (.inl V)
     ·exact key _ (.inr V)
   ·simp only [List.mem_singleton,Prod.mk.injEq] at K;obtain⟨rfl,rfl,-,rfl⟩:=K;cases aw <;> exact O
 case Ij sv=>obtain⟨rfl,rfl,-,rfl⟩:=K;exact O
 case Co sv=>
  obtain⟨rfl,rfl,-,rfl⟩:=K;simp only [Dt] at U;cases st <;> cases k <;> cases l <;> cases sv <;> simp [LN,pH,pN,pZ,pV,pT,pQ,pD,pX,oC] at O ⊢ <;> omega
 case FY=>
  simp only [List.mem_cons,List.not_mem_nil,or_false,Prod.mk.injEq] at K;rcases K with⟨rfl,rfl,-,rfl⟩ | ⟨rfl,rfl,-,rfl⟩ <;> exact O
 case Es sv=>
  simp only [Dt] at U;split at K
  ·rename_i c;simp only [List.mem_singleton,Prod.mk.injEq] at K;obtain⟨rfl,rfl,-,rfl⟩:=K;have c:st=true:=c;subst c;cases k <;> cases l <;> simp [LN,pH,pN,pZ,pV,pT,pQ,pD,pX,oC] at O ⊢ <;> omega
  ·rename_i c;simp only [List.mem_singleton,Prod.mk.injEq] at K;obtain⟨rfl,rfl,-,rfl⟩:=K;cases st
   ·cases k <;> cases l <;> simp [LN,pH,pN,pZ,pV,pT,pQ,pD,pX,oC] at O ⊢ <;> omega
   ·exact absurd V c
 case Ed ex=>
  obtain⟨rfl,rfl,-,rfl⟩:=K;simp only [Dt] at U;obtain⟨rfl,rfl,rfl,ac,am,-⟩:=U;cases ex <;> simp [LN,pH,pN,pZ,pV,pT,pQ,pD,pX,oC] at O am ⊢ <;> omega
 case len=>obtain⟨rfl,rfl,-,rfl⟩:=K;exact O
 case KF=>obtain⟨rfl,rfl,-,rfl⟩:=K;exact O
 case JZ=>obtain⟨rfl,rfl,-,rfl⟩:=K;exact O
 case Gy=>obtain⟨rfl,rfl,-,rfl⟩:=K;exact O
 case J1=>obtain⟨rfl,rfl,-,rfl⟩:=K;exact O
 case J0=>obtain⟨rfl,rfl,-,rfl⟩:=K;exact O
 case JW=>obtain⟨rfl,rfl,-,rfl⟩:=K;exact O
 case HN=>
  obtain⟨rfl,rfl,-,rfl⟩:=K;simp only [Dt] at U;obtain⟨rfl,-⟩:=U;rcases Nat.eq_zero_or_pos w with rfl | hw
  ·cases st <;> cases k <;> simp [LN,pH,pN,pZ,pV,pT,pQ,pD,pX,oC] at O ⊢ <;> omega
  ·have al:¬w=0:=by omega
   cases st <;> cases k <;> simp [LN,pH,pN,pZ,pV,pT,pQ,pD,pX,oC,al] at O ⊢ <;> omega
 case ED old=>
  simp only [Dt] at U;obtain⟨k1,Y,Z,ac,-⟩:=U;split at K
  ·rename_i e;subst e;simp only at k1 Y Z ac;subst k1 Y Z;simp only [List.mem_singleton,Prod.mk.injEq] at K;obtain⟨rfl,rfl,-,rfl⟩:=K;simp [LN,pH,pN,pZ,pV,pT,pQ,pD,pX,oC] at O ⊢;omega
  ·simp only [List.mem_singleton,Prod.mk.injEq] at K;obtain⟨rfl,rfl,-,rfl⟩:=K;exact O
 case Hl=>
  obtain⟨rfl,rfl,-,rfl⟩:=K;rcases Nat.eq_zero_or_pos w with rfl | hw
  ·cases st <;> cases k <;> cases l <;> simp [LN,pH,pN,pZ,pV,pT,pQ,pD,pX,oC] at O ⊢ <;> omega
  ·have al:¬w=0:=by omega
   cases st <;> cases k <;> cases l <;> simp [LN,pH,pN,pZ,pV,pT,pQ,pD,pX,oC,al] at O ⊢ <;> omega
 case EW b=>
  obtain⟨rfl,rfl,-,rfl⟩:=K;cases b <;> cases st <;> cases k <;> cases l <;> simp [LN,pH,pN,pZ,pV,pT,pQ,pD,pX,oC] at O ⊢ <;> omega
 case Fa=>obtain⟨rfl,rfl,-,rfl⟩:=K;exact O
theorem LN.awake(O:LN m q (pH p+h) (pN p+rn) (pZ p+rs) (pV p+v) (pT p+t) (pQ p+s) (pD p+d) (pX p+x))(ag:pT p=1):m.k=true:=by
 obtain⟨l,k,st,w⟩:=m;obtain⟨al,U,Y⟩:=O;cases st
 ·obtain⟨a1,Z,K,ac⟩:=U V;cases k
  ·simp at K;omega
  ·rfl
 ·obtain⟨a1,Z,K,ac⟩:=Y V;omega
theorem LN.cv(K:(m',q',es,o)∈F.BV p m q)(O:Dt p m q)(Z:Lc p m)(U:C4 m)(al:LN m q (pH p+h) (pN p+rn) (pZ p+rs) (pV p+v) (pT p+t) (pQ p+s) (pD p+d) (pX p+x)):∀ac,o=some ac->Lc ac m':=by
 have ag:=λam=>al.awake am;cases p <;> simp only [Fam.BV,List.mem_singleton,Prod.mk.injEq,List.not_mem_nil] at K
 case Hi=>
  split at K <;> simp only [List.mem_singleton,Prod.mk.injEq] at K <;> obtain⟨rfl,rfl,-,rfl⟩:=K <;> rintro _ ⟨⟩ <;> simp [Lc]
 case Ef sv aw it=>
  obtain⟨rfl,rfl,-,rfl⟩:=K;rintro _ ⟨⟩;exact⟨λe=>by subst e;exact ag rfl,Z.1,Z.2,U⟩
 case Ce sv aw it old=>
  simp only [Fam.Fv,List.mem_append] at K;simp only [Dt] at O;obtain⟨k1,Y,ap,aq,a0,-⟩:=O;rcases K with K | K
  ·split at K
   ·rename_i c;split at K
    ·simp only [List.mem_singleton] at K;split at K <;> simp only [Prod.mk.injEq] at K <;> obtain⟨rfl,rfl,-,rfl⟩:=K <;> rintro _ ⟨⟩
     ·exact⟨λ_=>V,by omega⟩
     ·exact⟨Y,by omega⟩
    ·simp only [List.mem_singleton,Prod.mk.injEq] at K;obtain⟨rfl,rfl,-,rfl⟩:=K;rintro _ ⟨⟩;exact⟨λe=>by subst e;exact ag rfl,Y,by omega,U⟩
   ·simp at K
  ·split at K
   ·split at K
    ·simp only [List.mem_singleton,Prod.mk.injEq] at K;obtain⟨rfl,rfl,-,rfl⟩:=K;rintro _ ⟨⟩;trivial
    ·simp only [List.mem_cons,List.not_mem_nil,or_false,Prod.mk.injEq] at K;rcases K with⟨rfl,rfl,-,rfl⟩ | ⟨rfl,rfl,-,rfl⟩ <;> rintro _ ⟨⟩ <;> trivial
   ·simp only [List.mem_singleton,Prod.mk.injEq] at K;obtain⟨rfl,rfl,-,rfl⟩:=K;rintro _ ⟨⟩;exact⟨Y,ap⟩
 case Co sv=>
  obtain⟨rfl,rfl,-,rfl⟩:=K;rintro _ h;cases sv <;> cases h <;> trivial
 case FY=>
  simp only [List.mem_cons,List.not_mem_nil,or_false,Prod.mk.injEq] at K;rcases K with⟨rfl,rfl,-,rfl⟩ | ⟨rfl,rfl,-,rfl⟩ <;> rintro _ ⟨⟩ <;> trivial
 case Es sv=>
  simp only [Dt] at O;split at K
  ·rename_i c;simp only [List.mem_singleton,Prod.mk.injEq] at K;obtain⟨rfl,rfl,-,rfl⟩:=K;rintro _ ⟨⟩;intro e;have:=(O.1 c).2.2;simp at e;omega
  ·rename_i c;simp only [List.mem_singleton,Prod.mk.injEq] at K;obtain⟨rfl,rfl,-,rfl⟩:=K;rintro _ ⟨⟩;exact⟨λ_=>O.2.1 (by simpa using c),λ_=>V,by omega,U⟩
 case HN=>
  obtain⟨rfl,rfl,-,rfl⟩:=K;rintro _ h;split at h
  ·cases h;trivial
  ·rename_i c;split at h
   ·rename_i c2;cases h;exact⟨V,c2.1,by simpa using c,c2.2,U⟩
   ·cases h;trivial
 case ED old=>
  split at K <;> simp only [List.mem_singleton,Prod.mk.injEq] at K <;> obtain⟨rfl,rfl,-,rfl⟩:=K <;> rintro _ ⟨⟩ <;> trivial
 case Hl=>
  obtain⟨rfl,rfl,-,rfl⟩:=K;rintro _ h;split at h
  ·rename_i c;cases h;exact⟨c.1,c.2.1,c.2.2.1,c.2.2.2,U⟩
  ·cases h;trivial
 all_goals
  obtain⟨rfl,rfl,-,rfl⟩:=K;rintro _ ⟨⟩
 all_goals trivial
theorem LN.keepW(K:(m',q',es,o)∈F.BV p m q)(O:Dt p m q)(U:LN m q (pH p+h) (pN p+rn) (pZ p+rs) (pV p+v) (pT p+t) (pQ p+s) (pD p+d) (pX p+x))(hd:1<=d):m.w<=m'.w:=by
 obtain⟨l,k,st,w⟩:=m;obtain⟨al,Y,Z⟩:=U;have ac:st=true:=by
  cases st
  ·have:=(Y V).2.1;omega
  ·rfl
 subst ac;obtain⟨a1,am,ap,ag,aq,a0⟩:=Z V;cases p <;> simp only [Fam.BV,List.mem_singleton,Prod.mk.injEq,List.not_mem_nil] at K
 case Hi=>split at K <;> simp only [List.mem_singleton,Prod.mk.injEq] at K <;> obtain⟨rfl,rfl,-,rfl⟩:=K <;> simp_all [M4.zero]
 case Ce sv aw it old=>
  simp only [Fam.Fv,List.mem_append] at K;rcases K with K | K
  ·split at K
   ·split at K
    ·simp only [List.mem_singleton] at K;split at K <;> simp only [Prod.mk.injEq] at K <;> obtain⟨rfl,rfl,-,rfl⟩:=K <;> exact Nat.le_refl _
    ·simp only [List.mem_singleton,Prod.mk.injEq] at K;obtain⟨rfl,rfl,-,rfl⟩:=K;exact Nat.le_refl _
   ·simp at K
  ·split at K
   ·split at K
    ·simp only [List.mem_singleton,Prod.mk.injEq] at K;obtain⟨rfl,rfl,-,rfl⟩:=K;exact Nat.le_refl _
    ·simp only [List.mem_cons,List.not_mem_nil,or_false,Prod.mk.injEq] at K;rcases K with⟨rfl,rfl,-,rfl⟩ | ⟨rfl,rfl,-,rfl⟩ <;> simp
   ·simp only [List.mem_singleton,Prod.mk.injEq] at K;obtain⟨rfl,rfl,-,rfl⟩:=K;exact Nat.le_refl _
 case FY=>
  simp only [List.mem_cons,List.not_mem_nil,or_false,Prod.mk.injEq] at K;rcases K with⟨rfl,rfl,-,rfl⟩ | ⟨rfl,rfl,-,rfl⟩ <;> exact Nat.le_refl _
 case Es sv=>split at K <;> simp only [List.mem_singleton,Prod.mk.injEq] at K <;> obtain⟨rfl,rfl,-,rfl⟩:=K <;> exact Nat.le_refl _
 case Ed ex=>simp only [pD] at ag;omega
 case ED old=>
  simp only [Dt] at O;split at K
  ·rename_i e;subst e;exact absurd O.2.2.1 (by simp)
  ·simp only [List.mem_singleton,Prod.mk.injEq] at K;obtain⟨rfl,rfl,-,rfl⟩:=K;exact Nat.le_refl _
 all_goals
  obtain⟨rfl,rfl,-,rfl⟩:=K;exact Nat.le_refl _
end
def C5(f:LP->Nat):Nx->Nat
 | .ph (.lk _ p)=>f p
 | _=>0
def N4:Nx->M4->Prop
 | .ph (.lk _ p),m=>Lc p m
 | _,_=>True
def Sg(f:LP->Nat)(N:Nat)(φ:Nat->Nx):Nat:=sumTo N λi=>C5 f (φ i)
structure LI (N:Nat) (φ:Nat->Nx) (m:M4) (q:Nat):Prop where
 ln:LN m q (Sg pH N φ) (Sg pN N φ) (Sg pZ N φ) (Sg pV N φ) (Sg pT N φ) (Sg pQ N φ) (Sg pD N φ) (Sg pX N φ)
 loc:∀i,i<N->N4 (φ i) m
section
variable {F:Fam}{N i k:Nat}{φ:Nat->Nx}{p:LP}{m m':M4}{q q':Nat}{es:Array Event}{o:Option LP}{y:Nx}
theorem Pr(f:LP->Nat)(hi:i<N):Sg f N (upd φ i y)+C5 f (φ i)=Sg f N φ+C5 f y:=sumTo_upd φ y (C5 f) hi
theorem FF(f:LP->Nat)(hi:i<N)(K:φ i= .ph (.lk k p)):∃r,Sg f N φ=f p+r/\∀o,Sg f N (upd φ i (.ph (Fam.C6 k o)))=oC f o+r:=by
 have O:C5 f (φ i)<=Sg f N φ:=le_sumTo (f:=λi=>C5 f (φ i)) hi;have e:C5 f (φ i)=f p:=by rw [K];rfl
 refine⟨Sg f N φ - f p,by omega,λo=>?_⟩;have U:=Pr (φ:=φ) (y:= .ph (Fam.C6 k o)) f hi;have Y:C5 f (.ph (Fam.C6 k o))=oC f o:=by cases o <;> rfl
 omega
theorem Ng(f:LP->Nat)(hi:i<N)(K:C5 f (φ i)=C5 f y):Sg f N (upd φ i y)=Sg f N φ:=by
 have:=Pr (φ:=φ) (y:=y) f hi;omega
theorem LI.other(h:LI N φ m q)(hi:i<N)(U:∀k p,φ i≠ .ph (.lk k p))(K:∀k p,y≠ .ph (.lk k p)):LI N (upd φ i y) m q:=by
 have z:∀(f:LP->Nat) x,(∀k p,x≠Nx.ph (.lk k p))->C5 f x=0:=by
  intro f x Y;cases x with
  | gone d=>rfl
  | ph p=>cases p <;> first | rfl | exact absurd rfl (Y _ _)
 have e:∀f,Sg f N (upd φ i y)=Sg f N φ:=λf=>Ng f hi (by rw [z f _ U,z f _ K]);refine⟨by simp only [e];exact h.ln,λa Z=>?_⟩;by_cases O:a=i
 ·subst O;rw [upd_same];cases y with
  | gone d=>trivial
  | ph p=>cases p <;> first | trivial | exact absurd rfl (K _ _)
 ·rw [upd_ne _ _ O];exact h.loc a Z
theorem LI.ok(h:LI N φ m q)(hi:i<N)(K:φ i= .ph (.lk k p))(Y:C4 m)(Z:∀sv,p= .Co sv->q≠0):Dt p m q:=by
 obtain⟨a,ac,-⟩:=FF pH hi K;obtain⟨b,ag,-⟩:=FF pN hi K;obtain⟨c,al,-⟩:=FF pZ hi K;obtain⟨d,am,-⟩:=FF pV hi K;obtain⟨e,ap,-⟩:=FF pT hi K;obtain⟨f,aq,-⟩:=FF pQ hi K;obtain⟨g,aw,-⟩:=FF pD hi K;obtain⟨j,a0,-⟩:=FF pX hi K;have O:=h.ln;rw [ac,ag,al,am,ap,aq,aw,a0] at O;have U:=h.loc i hi;rw [K] at U;exact Zl O U Y Z
theorem LI.step(h:LI N φ m q)(hi:i<N)(K:φ i= .ph (.lk k p))(aq:C4 m)(U:Dt p m q)(Y:(m',q',es,o)∈F.BV p m q):LI N (upd φ i (.ph (Fam.C6 k o))) m' q':=by
 obtain⟨a,aw,a0⟩:=FF pH hi K;obtain⟨b,a1,a2⟩:=FF pN hi K;obtain⟨c,a3,a4⟩:=FF pZ hi K;obtain⟨d,a5,a6⟩:=FF pV hi K;obtain⟨e,a7,a8⟩:=FF pT hi K;obtain⟨f,a9,bb⟩:=FF pQ hi K;obtain⟨g,be,bi⟩:=FF pD hi K;obtain⟨j,bo,bv⟩:=FF pX hi K;have O:=h.ln;rw [aw,a1,a3,a5,a7,a9,be,bo] at O;have ag:=h.loc i hi;rw [K] at ag;refine⟨by rw [a0,a2,a4,a6,a8,bb,bi,bv];exact O.step Y U,λy al=>?_⟩;by_cases Z:y=i
 ·subst Z;rw [upd_same];cases o with
  | none=>trivial
  | some bw=>exact O.cv Y U ag aq bw rfl
 ·rw [upd_ne _ _ Z];have ac:=h.loc y al;cases am:φ y with
  | gone d=>trivial
  | ph p0=>
   cases p0 with
   | lk b0 p0=>
    rw [am] at ac;cases p0 <;> try exact ac
    rename_i ex;intro b1;have hd:1<=g:=by
     have b2:=Pr (N:=N) (φ:=φ) (i:=i) (y:= .gone 0) pD hi;have ap:C5 pD (upd φ i (.gone 0) y)<=Sg pD N (upd φ i (.gone 0)):=le_sumTo (f:=λa=>C5 pD (upd φ i (.gone 0) a)) al;rw [upd_ne _ _ Z,am] at ap;have b3:C5 pD (φ i)=pD p:=by rw [K];rfl
     have e2:C5 pD (.gone 0)=0:=V;have b4:C5 pD (.ph (.lk b0 (.Ed ex)))=1:=V;omega
    have:=O.keepW Y U hd;have ap:2<=m.w:=ac b1;omega
   | _=>trivial
end
def Hq:LP->Nat
 | .len=>22 | .KF=>21 | .JZ=>20 | .Fy=>19 | .Gy=>18 | .J1=>17 | .J0=>16 | .JW=>15 | .HN=>14
 | .ED _=>13 | .Hl=>13 | .EW _=>12 | .Fa=>11
 | _=>23
def kw:LP->Nat
 | .F1 | .Hi=>2
 | .Ef _ aw _=>if aw then 1 else 2
 | .Ce _ aw _ _=>if aw then 1 else 2
 | .FY | .Es _ | .Ed _=>1
 | _=>0
def lc(m:M4):LP->Nat
 | .F1=>27 | .Hi=>26 | .Ef _ _ it=>2*(5 - it)+1
 | .Ce _ _ it old=>2*(5 - it)+if m=old then 0 else 2
 | .Ij _=>24 | .Co _=>23 | .FY=>22 | .Es _=>21
 | .ED old=>if m=old then 1 else 3
 | .Hl=>2
 | _=>0
def wO:Option LP->Nat
 | some p=>Hq p
 | none=>9
def wt(n:Nat):Nx->Nat
 | .gone _=>0
 | .ph p=>match p with
  | .Hf _=>10 | .HS=>9 | .Gu=>8 | .IL=>7 | .Hk=>6 | .GR=>5 | .Hc=>4 | .Fg=>3
  | .Di=>3*n+25 | .FZ m=>3*m+20 | .Hm m=>3*m+19 | .Ix=>14 | .HR=>13 | .Fw=>12 | .Hd=>11 | .F3=>10 | .Is=>9 | .Gf=>8 | .HF=>7
  | .Gc j=>5*n+90+50*(n - j) | .Ir j=>5*n+89+50*(n - j) | .Iv j=>5*n+88+50*(n - j) | .HL j=>5*n+87+50*(n - j) | .G1 j=>5*n+86+50*(n - j) | .FK j=>5*n+85+50*(n - j)
  | .GV=>5*n+60 | .FG _ _=>2
  | .lk _ p=>Hq p
theorem YZ{F:Fam}{p:Ph}{v w sm v' w' sm':Nat}{es:Array Event}{K:Nx}(h:F.act p v w sm=some ((v',w',sm'),es,K)):wt F.n K<wt F.n (.ph p):=by
  cases p <;> simp only [Fam.act] at h <;> (try (cases h;done))
  case Hk=>
    split at h
    ·cases h;split <;> simp [wt]
    ·cases h
  case FZ=>
    split at h
    ·cases h;split <;> simp [wt] <;> omega
    ·cases h
  case Hm=>
    split at h
    ·split at h <;> cases h <;> simp [wt] <;> omega
    ·cases h
  case Ir=>
    split at h
    ·cases h;split <;> simp [wt]
    ·cases h
  all_goals first
    | (cases h;simp [wt];done)
    | (split at h
       ·cases h;simp [wt]
       ·cases h)
section
variable {F:Fam}{p:LP}{m m':M4}{q q':Nat}{es:Array Event}{o:Option LP}
theorem XZ(K:(m',q',es,o)∈F.BV p m q)(O:Dt p m q):wO o<Hq p∨(wO o=Hq p/\(oC kw o+q'<kw p+q∨(oC kw o+q'=kw p+q/\m'=m/\oC (lc m) o<lc m p))):=by
 cases p <;> simp only [Fam.BV,List.mem_singleton,Prod.mk.injEq,List.not_mem_nil] at K
 case Hi=>
  split at K <;> simp only [List.mem_singleton,Prod.mk.injEq] at K <;> obtain⟨rfl,rfl,-,rfl⟩:=K
  ·exact .inl (by simp [wO,Hq])
  ·exact .inr ⟨V,.inr ⟨V,V,by simp [oC,lc]⟩⟩
 case Ef sv aw it=>
  obtain⟨rfl,rfl,-,rfl⟩:=K;exact .inr ⟨V,.inr ⟨V,V,by simp [oC,lc]⟩⟩
 case Ce sv aw it old=>
  simp only [Fam.Fv,List.mem_append] at K;simp only [Dt] at O;obtain⟨k1,U,Y,Z,ac,-⟩:=O;rcases K with K | K
  ·split at K
   ·rename_i c;split at K
    ·rename_i c2;simp only [List.mem_singleton] at K;obtain⟨rfl,c3,c4⟩:=c2;split at K <;> simp only [Prod.mk.injEq] at K <;> obtain⟨rfl,rfl,-,rfl⟩:=K
     ·exact .inr ⟨V,.inl (by simp [oC,kw])⟩
     ·rename_i e;refine .inr ⟨V,.inr ⟨V,V,?_⟩⟩;simp only [oC,lc,if_neg e];omega
    ·simp only [List.mem_singleton,Prod.mk.injEq] at K;obtain⟨rfl,rfl,-,rfl⟩:=K;refine .inr ⟨V,.inr ⟨V,V,?_⟩⟩;simp only [oC,lc,if_true];omega
   ·simp at K
  ·split at K
   ·rename_i e;split at K
    ·simp only [List.mem_singleton,Prod.mk.injEq] at K;obtain⟨rfl,rfl,-,rfl⟩:=K;exact .inl (by simp [wO,Hq])
    ·simp only [List.mem_cons,List.not_mem_nil,or_false,Prod.mk.injEq] at K;rcases K with⟨rfl,rfl,-,rfl⟩ | ⟨rfl,rfl,-,rfl⟩ <;> exact .inr ⟨rfl,.inl (by cases aw <;> simp [oC,kw])⟩
   ·rename_i e;simp only [List.mem_singleton,Prod.mk.injEq] at K;obtain⟨rfl,rfl,-,rfl⟩:=K;refine .inr ⟨V,.inr ⟨V,V,?_⟩⟩;simp only [oC,lc,if_neg e];omega
 case Co sv=>
  obtain⟨rfl,rfl,-,rfl⟩:=K;simp only [Dt] at O;cases sv
  ·refine .inr ⟨V,.inr ⟨?_,V,by simp [oC,lc]⟩⟩;simp only [oC,kw,Bool.false_eq_true,if_false];omega
  ·refine .inr ⟨V,.inr ⟨?_,V,by simp [oC,lc]⟩⟩;simp only [oC,kw,if_true];omega
 case FY=>
  simp only [List.mem_cons,List.not_mem_nil,or_false,Prod.mk.injEq] at K;rcases K with⟨rfl,rfl,-,rfl⟩ | ⟨rfl,rfl,-,rfl⟩ <;> exact .inr ⟨rfl,.inr ⟨rfl,rfl,by simp [oC,lc]⟩⟩
 case Es sv=>
  split at K <;> simp only [List.mem_singleton,Prod.mk.injEq] at K <;> obtain⟨rfl,rfl,-,rfl⟩:=K <;> exact .inr ⟨rfl,.inr ⟨rfl,rfl,by simp [oC,lc]⟩⟩
 case HN=>
  obtain⟨rfl,rfl,-,rfl⟩:=K;refine .inl ?_;split
  ·simp [wO,Hq]
  ·split <;> simp [wO,Hq]
 case ED old=>
  split at K <;> simp only [List.mem_singleton,Prod.mk.injEq] at K <;> obtain⟨rfl,rfl,-,rfl⟩:=K
  ·exact .inl (by simp [wO,Hq])
  ·rename_i e;refine .inr ⟨V,.inr ⟨V,V,?_⟩⟩;simp only [oC,lc,if_neg e];omega
 case Hl=>
  obtain⟨rfl,rfl,-,rfl⟩:=K;split
  ·exact .inr ⟨V,.inr ⟨V,V,by simp [oC,lc]⟩⟩
  ·exact .inl (by simp [wO,Hq])
 case Ij sv=>obtain⟨rfl,rfl,-,rfl⟩:=K;exact .inr ⟨V,.inr ⟨V,V,by simp [oC,lc]⟩⟩
 case F1=>obtain⟨rfl,rfl,-,rfl⟩:=K;exact .inr ⟨V,.inr ⟨V,V,by simp [oC,lc]⟩⟩
 all_goals
  obtain⟨rfl,rfl,-,rfl⟩:=K;exact .inl (by simp [wO,Hq])
end
def Dn(N:Nat)(r' r:Nat->Rk):Prop:=∃i,i<N/\Rk.sub (r' i) (r i)/\∀j,j≠i->r' j=r j
theorem Dn.wf:∀N,WellFounded (Dn N)
 | 0=>⟨λ_=>⟨_,λ_ ⟨_,h,_⟩=>by omega⟩⟩
 | N+1=>⟨by
  have key:∀x:Rk,∀r:Nat->Rk,r N=x->Acc (Dn (N+1)) r:=by
   intro x
   induction x using Rk.wf.induction with
   | _ x Y=>
    intro r
    induction r using (Dn.wf N).induction with
    | _ r Z=>
     intro e
     refine⟨_,λr' ⟨i,hi,K,O⟩=>?_⟩
     by_cases U:i=N
     ·subst U;exact Y (r' i) (by rw [← e];exact K) r' V
     ·exact Z r' ⟨i,by omega,K,O⟩ (by rw [O N (Ne.symm U),e])
  exact λr=>key _ r V⟩
def chain:Nat->Rk
 | 0=> .leaf
 | n+1=> .node λ_=>chain n
theorem VW(n:Nat)(w:World):Rk.sub (chain n) (chain (n+1)):=⟨_,w,V,V⟩
structure Mu where
 a:Nat
 k:Nat
 l:Nat
 N:Nat
 r:Nat->Rk
 b:Nat
def Mu.lt(x y:Mu):Prop:=x.a<y.a∨(x.a=y.a/\(x.k<y.k∨(x.k=y.k/\(x.l<y.l∨(x.l=y.l/\x.N=y.N/\(Dn y.N x.r y.r∨(x.r=y.r/\x.b<y.b)))))))
theorem Mu.wf:WellFounded Mu.lt:=⟨by
 have key:∀(a k l N:Nat) (r:Nat->Rk) (b:Nat),Acc Mu.lt ⟨a,k,l,N,r,b⟩:=by
  intro a
  induction a using Nat.strongRecOn with
  | _ a ag=>
   intro k
   induction k using Nat.strongRecOn with
   | _ k al=>
    intro l
    induction l using Nat.strongRecOn with
    | _ l am=>
     intro N r
     induction r using (Dn.wf N).induction with
     | _ r ap=>
      intro b
      induction b using Nat.strongRecOn with
      | _ b aq=>
       refine⟨_,λ⟨aw,k',l',N',r',b'⟩ h=>?_⟩
       rcases h with h | ⟨K,h | ⟨O,h | ⟨U,Y,h | ⟨Z,ac⟩⟩⟩⟩
       ·exact ag aw h k' l' N' r' b'
       ·simp only at K h;subst K;exact al k' h l' N' r' b'
       ·simp only at K O h;subst K O;exact am l' h N' r' b'
       ·simp only at K O U Y h;subst K O U Y;exact ap r' h b'
       ·simp only at K O U Y Z ac;subst K O U Y Z;exact aq b' ac
 exact λ⟨a,k,l,N,r,b⟩=>key a k l N r b⟩
def bit(b:Bool):Nat:=if b then 1 else 0
def mu(F:Fam)(N:Nat)(φ:Nat->Nx)(m:M4)(q:Nat)(r:Nat->Rk)(bt:Nat->Bool):Mu:=⟨sumTo N λi=>wt F.n (φ i),Sg kw N φ+q,Sg (lc m) N φ,N,r,sumTo N λi=>bit (bt i)⟩
section
variable {F:Fam}{N N' i k:Nat}{φ φ':Nat->Nx}{p:LP}{m m':M4}{q q':Nat}{es:Array Event}{o:Option LP}{r r':Nat->Rk}{b b':Nat->Bool}{x:Nx}{ρ:Rk}
theorem bS(h:(sumTo N' λi=>wt F.n (φ' i))<sumTo N λi=>wt F.n (φ i)):Mu.lt (mu F N' φ' m' q' r' b') (mu F N φ m q r b):= .inl h
theorem TP(hi:i<N)(h:wt F.n x<wt F.n (φ i)):Mu.lt (mu F N (upd φ i x) m' q' r' b') (mu F N φ m q r b):=by
 have:=sumTo_upd φ x (wt F.n) hi;exact .inl (by show(sumTo N λa=>wt F.n (upd φ i x a))<sumTo N λa=>wt F.n (φ a);omega)
theorem T1(hi:i<N)(K:∀f,C5 f x=C5 f (φ i))(hw:wt F.n x=wt F.n (φ i))(h:Rk.sub ρ (r i)):Mu.lt (mu F N (upd φ i x) m q (upd r i ρ) b') (mu F N φ m q r b):=by
 have:=sumTo_upd φ x (wt F.n) hi;refine .inr ⟨by show(sumTo N λa=>wt F.n (upd φ i x a))=sumTo N λa=>wt F.n (φ a);omega,.inr ⟨by show Sg kw N (upd φ i x)+q=_;rw [Ng kw hi (K kw).symm];rfl,.inr ⟨Ng (lc m) hi (K _).symm,V,.inl ⟨i,hi,?_,λa O=>upd_ne _ _ O⟩⟩⟩⟩;show Rk.sub (upd r i ρ i) _;rw [upd_same];exact h
theorem bj(hi:i<N)(K:φ i= .ph (.lk k p))(Y:(m',q',es,o)∈F.BV p m q)(Z:Dt p m q):Mu.lt (mu F N (upd φ i (.ph (Fam.C6 k o))) m' q' r' b') (mu F N φ m q r b):=by
 have hw:=sumTo_upd φ (.ph (Fam.C6 k o)) (wt F.n) hi;have ac:wt F.n (φ i)=Hq p:=by rw [K];rfl
 have e2:wt F.n (.ph (Fam.C6 k o))=wO o:=by cases o <;> rfl
 rw [ac,e2] at hw;obtain⟨a,O,U⟩:=FF (k:=k) kw hi K;obtain⟨c,ag,al⟩:=FF (k:=k) (lc m) hi K;rcases XZ Y Z with h | ⟨ap,h | ⟨aq,am,aw⟩⟩
 ·exact .inl (by show(sumTo N λa=>wt F.n (upd φ i _ a))<sumTo N λa=>wt F.n (φ a);omega)
 ·exact .inr ⟨by show(sumTo N λa=>wt F.n (upd φ i _ a))=sumTo N λa=>wt F.n (φ a);omega,.inl (by show Sg kw N (upd φ i _)+q'<Sg kw N φ+q;rw [O,U];omega)⟩
 ·subst am;exact .inr ⟨by show(sumTo N λa=>wt F.n (upd φ i _ a))=sumTo N λa=>wt F.n (φ a);omega,.inr ⟨by show Sg kw N (upd φ i _)+q'=Sg kw N φ+q;rw [O,U];omega,.inl (by show Sg (lc m') N (upd φ i _)<Sg (lc m') N φ;rw [ag,al];omega)⟩⟩
end
open Go.ConcN (RelBy fork_knows)
section
variable {F:Fam}{N0 t0 N j:Nat}{φ:Nat->Nx}{S:Nat->St}{t u:Trace}{v wt sm v' wt' sm':Nat}
theorem M1{α:Type}(f:Nat->α)(i:Nat):upd f i (f i)=f:=by
 funext a;unfold upd;split
 ·rename_i e;rw [e]
 ·rfl
def Fx(F:Fam)(K:Prop)(e:Event):Prop:=
 (∀a,(MemAct.ofEvent e).touch? =some a->(∃b,CH a.loc=some b/\(b=F.wg∨b=F.mu))/\a.kind≠ .plain/\(a.kind= .said->K))/\e.loc≠ .mark (.release F.sA)
theorem Fx.toS{K:Prop}{e:Event}{i:Nat}(h:Fx F K e)(O:K->i=0):EvS F N0 j i e:=
 ⟨λa U=>let ⟨⟨b,Y,Z⟩,ac,ag⟩:=h.1 a U;⟨b,Y,.inl ⟨Z,ac,λq=>O (ag q)⟩⟩,h.2⟩
theorem Fx.keep{O:Prop}{e:Event}{i:Nat}(h:Fx F O e)(Y:O->i=0)(Z:F.fd≠F.wg)(ac:F.fd≠F.mu):(∀a b,(MemAct.ofEvent e).touch? =some a->CH a.loc=some b->(b=F.wg∨b=F.mu)->a.kind≠ .plain/\(a.kind= .said->i=0))/\
   (∀a,(MemAct.ofEvent e).touch? =some a->CH a.loc=some F.fd->∃k,k<j/\i=N0+k/\a.loc= .cell ⟨F.fd,k,none⟩/\a.kind= .plain)/\e.loc≠ .mark (.release F.sA):=
 ⟨λa b K _ _=>⟨(h.1 a K).2.1,λq=>Y ((h.1 a K).2.2 q)⟩,λa K hb=>by
  obtain⟨⟨b,U,ag⟩,-⟩:=h.1 a K
  rw [hb] at U
  obtain rfl:=Option.some.inj U
  rcases ag with e | e
  ·exact absurd e Z
  ·exact absurd e ac,h.2⟩
theorem Q0{m:Mark}(K:∀a,m≠ .read a)(O:∀a,m≠ .write a):(MemAct.ofEvent (Fam.Cy m)).touch? =none:=by
 cases m <;> first | rfl | exact absurd rfl (K _) | exact absurd rfl (O _)
theorem Y0(p:Ph){es:Array Event}{aq:Nx}(K:F.act p v wt sm=some ((v',wt',sm'),es,aq)):
  (∀e∈es,Fx F (p= .HR∨∃j,p= .HL j) e)/\deafBehind (FL (.ph p)) es=FL aq/\(∀e∈es,∀B,F.wg<B->(MemAct.ofEvent e).low B):=by
 have a3:∀b w,(MemAct.ofEvent ⟨.cell F.sA,w,b⟩).touch? =some ⟨.cell F.sA,w,if b then .atomic else .plain⟩:=by intro b w;cases b <;> cases w <;> rfl
 have ac:∀(a:Addr) w (T:Prop),a.block=F.wg->Fx F T ⟨.cell a,w,true⟩:=by
  intro a w T hb;refine⟨λx U=>?_,by simp⟩;have:x=⟨.cell a,w,.atomic⟩:=by cases w <;> (simp [MemAct.ofEvent,MemAct.touch?] at U;exact U.symm)
  subst this;exact⟨⟨F.wg,by simp [CH,hb],.inl V⟩,by simp,by simp⟩
 have ag:∀(a:Addr) w B,a.block=F.wg->F.wg<B->(MemAct.ofEvent ⟨.cell a,w,true⟩).low B:=by
  intro a w B hb O;cases w <;> simp [MemAct.ofEvent,MemAct.low,Loc.low,hb,O]
 have G0:∀(m:Mark) (T:Prop),(∀a,m≠ .read a)->(∀a,m≠ .write a)->(∀a,m≠ .release a)->Fx F T (Fam.Cy m):=by
  intro m T a0 a1 a2;exact⟨λx U=>(by rw [Q0 a0 a1] at U;cases U),λe=>a2 _ (Loc.mark.inj e)⟩
 have al:F.mA.block=F.wg:=V;have Z:F.sA.block=F.wg:=V;have EZ:∀(T:Prop),∀e∈semEvents F.mA,Fx F T e:=by
  intro T e he;simp only [semEvents,List.mem_toArray,List.mem_cons,List.not_mem_nil,or_false] at he;rcases he with rfl | rfl | rfl | rfl
  ·exact G0 .disable T (by simp) (by simp) (by simp)
  ·exact ac _ _ _ al
  ·exact ac _ _ _ al
  ·exact G0 .enable T (by simp) (by simp) (by simp)
 have aw:∀e∈semEvents F.mA,∀B,F.wg<B->(MemAct.ofEvent e).low B:=by
  intro e he B O;simp only [semEvents,List.mem_toArray,List.mem_cons,List.not_mem_nil,or_false] at he;rcases he with rfl | rfl | rfl | rfl
  ·trivial
  ·exact ag _ _ _ al O
  ·exact ag _ _ _ al O
  ·trivial
 have am:∀(T:Prop),∀e∈(#[Fam.B8 F.sA,Fam.Ek F.sA]:Array Event),Fx F T e:=by
  intro T e he;simp only [List.mem_toArray,List.mem_cons,List.not_mem_nil,or_false] at he;rcases he with rfl | rfl <;> exact ac _ _ _ Z
 have ap:∀e∈(#[Fam.B8 F.sA,Fam.Ek F.sA]:Array Event),∀B,F.wg<B->(MemAct.ofEvent e).low B:=by
  intro e he B O;simp only [List.mem_toArray,List.mem_cons,List.not_mem_nil,or_false] at he;rcases he with rfl | rfl <;> exact ag _ _ _ Z O
 have one:∀{e:Event} {T:Prop},Fx F T e->∀x∈(#[e]:Array Event),Fx F T x:=by
  intro e T h x U;simp at U;subst U;exact h
 have Y:∀{e:Event},(∀B,F.wg<B->(MemAct.ofEvent e).low B)->∀x∈(#[e]:Array Event),∀B,F.wg<B->(MemAct.ofEvent x).low B:=by
  intro e h x U;simp at U;subst U;exact h
 cases p <;> simp only [Fam.act] at K <;> (try (cases K;done))
 ·cases K;exact⟨one (G0 _ _ (by simp) (by simp) (by simp)),V,Y λB O=>O⟩
 ·cases K;exact⟨one (G0 _ _ (by simp) (by simp) (by simp)),V,Y λB O=>trivial⟩
 ·split at K
  ·cases K;exact⟨am _,by split <;> rfl,ap⟩
  ·cases K
 ·split at K
  ·cases K;exact⟨one (ac _ _ _ Z),V,Y λB O=>ag _ _ _ Z O⟩
  ·cases K
 ·split at K
  ·cases K;exact⟨one (ac _ _ _ Z),V,Y λB O=>ag _ _ _ Z O⟩
  ·cases K
 ·split at K
  ·cases K;exact⟨EZ _,V,aw⟩
  ·cases K
 ·cases K;exact⟨one (G0 _ _ (by simp) (by simp) (by simp)),V,Y λB O=>trivial⟩
 ·split at K
  ·cases K;exact⟨one (ac _ _ _ Z),by split <;> rfl,Y λB O=>ag _ _ _ Z O⟩
  ·cases K
 ·split at K
  ·split at K
   ·cases K;exact⟨am _,V,ap⟩
   ·cases K;exact⟨one (ac _ _ _ Z),V,Y λB O=>ag _ _ _ Z O⟩
  ·cases K
 ·cases K;refine⟨one ⟨λx U=>?_,by simp [Fam.Cy]⟩,V,Y λB O=>O⟩;simp [Fam.Cy,MemAct.ofEvent,MemAct.touch?] at U;subst U;exact⟨⟨F.wg,V,.inl V⟩,by simp,λ_=> .inl V⟩
 ·split at K
  ·cases K;exact⟨EZ _,V,aw⟩
  ·cases K
 ·split at K
  ·cases K;exact⟨one (ac _ _ _ Z),V,Y λB O=>ag _ _ _ Z O⟩
  ·cases K
 ·cases K;exact⟨one (G0 _ _ (by simp) (by simp) (by simp)),V,Y λB O=>trivial⟩
 ·cases K;exact⟨one (G0 _ _ (by simp) (by simp) (by simp)),V,Y λB O=>trivial⟩
 ·split at K
  ·cases K;exact⟨am _,by split <;> rfl,ap⟩
  ·cases K
 ·cases K;refine⟨one ⟨λx U=>?_,by simp [Fam.Cy]⟩,V,Y λB O=>O⟩;simp [Fam.Cy,MemAct.ofEvent,MemAct.touch?] at U;subst U;exact⟨⟨F.wg,V,.inl V⟩,by simp,λ_=> .inr ⟨_,V⟩⟩
 ·cases K;exact⟨one (G0 _ _ (by simp) (by simp) (by simp)),V,Y λB O=>trivial⟩
 all_goals
  cases K;exact⟨by simp,V,by simp⟩
theorem XH(p:Ph){es:Array Event}{U:Nx}(K:F.act p v wt sm=some ((v',wt',sm'),es,U)){k:Nat}(hw:GQ F k (.ph p))(O:late (.ph p)):
  ∀m e,es[m]? =some e->(MemAct.ofEvent e).touch? =none∨((∃ad wr,e=⟨.cell ad,wr,true⟩)/\0<deafBehind (FL (.ph p)) (es.extract 0 m)):=by
 have two:∀m e,(#[Fam.B8 F.sA,Fam.Ek F.sA]:Array Event)[m]? =some e->(∃ad wr,e=⟨.cell ad,wr,true⟩)/\0<deafBehind 1 ((#[Fam.B8 F.sA,Fam.Ek F.sA]:Array Event).extract 0 m):=by
  intro m e h
  match m with
  | 0=>simp at h;subst h;exact⟨⟨_,_,rfl⟩,by simp [deafBehind]⟩
  | 1=>simp at h;subst h;exact⟨⟨_,_,rfl⟩,by simp [deafBehind,Fam.B8]⟩
  | m+2=>simp at h
 cases p <;> simp only [GQ] at hw <;> (try exact hw.elim) <;> simp only [late] at O <;> (try exact O.elim) <;> simp only [Fam.act] at K <;> (try (cases K;done))
 ·cases K;intro m e h
  match m with
  | 0=>simp at h;subst h;exact .inl rfl
  | m+1=>simp at h
 ·split at K
  ·cases K;exact λm e h=> .inr (two m e h)
  ·cases K
 ·split at K
  ·cases K;intro m e h
   match m with
   | 0=>simp at h;subst h;exact .inr ⟨⟨_,_,rfl⟩,by simp [deafBehind,FL]⟩
   | m+1=>simp at h
  ·cases K
 ·split at K
  ·cases K;intro m e h
   match m with
   | 0=>simp at h;subst h;exact .inr ⟨⟨_,_,rfl⟩,by simp [deafBehind,FL]⟩
   | m+1=>simp at h
  ·cases K
 ·split at K
  ·cases K;intro m e h
   match m with
   | 0=>simp [semEvents] at h;subst h;exact .inl rfl
   | 1=>simp [semEvents] at h;subst h;exact .inr ⟨⟨_,_,rfl⟩,by simp [deafBehind,FL,semEvents]⟩
   | 2=>simp [semEvents] at h;subst h;exact .inr ⟨⟨_,_,rfl⟩,by simp [deafBehind,FL,semEvents]⟩
   | 3=>simp [semEvents] at h;subst h;exact .inl rfl
   | m+4=>simp [semEvents] at h
  ·cases K
theorem XO{p:LP}{m m':M4}{q q':Nat}{es:Array Event}{o:Option LP}(K:(m',q',es,o)∈F.BV p m q):
  (∀e∈es,Fx F False e)/\deafBehind (dl p) es=oC dl o/\(∀e∈es,∀B,F.mu<B->(MemAct.ofEvent e).low B):=by
 have ac:∀(a:Addr) w,a.block=F.mu->Fx F False ⟨.cell a,w,true⟩:=by
  intro a w hb;refine⟨λx Z=>?_,by simp⟩;have:x=⟨.cell a,w,.atomic⟩:=by cases w <;> (simp [MemAct.ofEvent,MemAct.touch?] at Z;exact Z.symm)
  subst this;exact⟨⟨F.mu,by simp [CH,hb],.inr V⟩,by simp,by simp⟩
 have ag:∀(a:Addr) w B,a.block=F.mu->F.mu<B->(MemAct.ofEvent ⟨.cell a,w,true⟩).low B:=by
  intro a w B hb O;cases w <;> simp [MemAct.ofEvent,MemAct.low,Loc.low,hb,O]
 have G0:∀(m:Mark),(∀a,m≠ .read a)->(∀a,m≠ .write a)->(∀a,m≠ .release a)->Fx F False (Fam.Cy m):=by
  intro m al am ap;exact⟨λx Z=>(by rw [Q0 al am] at Z;cases Z),λe=>ap _ (Loc.mark.inj e)⟩
 have nil:∀d,(∀e∈(#[]:Array Event),Fx F False e)/\deafBehind d #[]=d/\(∀e∈(#[]:Array Event),∀B,F.mu<B->(MemAct.ofEvent e).low B):=λd=>⟨by simp,rfl,by simp⟩;have rd:∀d,(∀e∈(#[Fam.B8 F.uA]:Array Event),Fx F False e)/\deafBehind d #[Fam.B8 F.uA]=d/\(∀e∈(#[Fam.B8 F.uA]:Array Event),∀B,F.mu<B->(MemAct.ofEvent e).low B):=λd=>
  ⟨λe he=>by simp at he;subst he;exact ac _ _ rfl,rfl,λe he B O=>by simp at he;subst he;exact ag _ _ _ rfl O⟩
 have U:∀d,(∀e∈(#[Fam.B8 F.uA,Fam.Ek F.uA]:Array Event),Fx F False e)/\deafBehind d #[Fam.B8 F.uA,Fam.Ek F.uA]=d/\(∀e∈(#[Fam.B8 F.uA,Fam.Ek F.uA]:Array Event),∀B,F.mu<B->(MemAct.ofEvent e).low B):=λd=>
  ⟨λe he=>by
   simp only [List.mem_toArray,List.mem_cons,List.not_mem_nil,or_false] at he
   rcases he with rfl | rfl <;> exact ac _ _ rfl,rfl,λe he B O=>by
   simp only [List.mem_toArray,List.mem_cons,List.not_mem_nil,or_false] at he
   rcases he with rfl | rfl <;> exact ag _ _ _ rfl O⟩
 have EZ:(∀e∈semEvents F.qA,Fx F False e)/\deafBehind 1 (semEvents F.qA)=1/\(∀e∈semEvents F.qA,∀B,F.mu<B->(MemAct.ofEvent e).low B):=by
  refine⟨λe he=>?_,V,λe he B O=>?_⟩
  ·simp only [semEvents,List.mem_toArray,List.mem_cons,List.not_mem_nil,or_false] at he;rcases he with rfl | rfl | rfl | rfl
   ·exact G0 .disable (by simp) (by simp) (by simp)
   ·exact ac _ _ V
   ·exact ac _ _ V
   ·exact G0 .enable (by simp) (by simp) (by simp)
  ·simp only [semEvents,List.mem_toArray,List.mem_cons,List.not_mem_nil,or_false] at he;rcases he with rfl | rfl | rfl | rfl
   ·trivial
   ·exact ag _ _ _ V O
   ·exact ag _ _ _ V O
   ·trivial
 have Y:∀(m:Mark) (d d':Nat),(∀a,m≠ .read a)->(∀a,m≠ .write a)->(∀a,m≠ .release a)->deafBehind d #[Fam.Cy m]=d'->(∀B,F.mu<B->(MemAct.ofEvent (Fam.Cy m)).low B)->
   (∀e∈(#[Fam.Cy m]:Array Event),Fx F False e)/\deafBehind d #[Fam.Cy m]=d'/\(∀e∈(#[Fam.Cy m]:Array Event),∀B,F.mu<B->(MemAct.ofEvent e).low B):=λm d d' al am ap aq a0=>
  ⟨λe he=>by simp at he;subst he;exact G0 m al am ap,aq,λe he B O=>by simp at he;subst he;exact a0 B O⟩
 cases p <;> simp only [Fam.BV,List.mem_singleton,Prod.mk.injEq,List.not_mem_nil] at K
 case F1=>obtain⟨rfl,rfl,rfl,rfl⟩:=K;exact Y .disable 0 1 (by simp) (by simp) (by simp) V λB O=>trivial
 case Hi=>
  split at K <;> simp only [List.mem_singleton,Prod.mk.injEq] at K <;> obtain⟨rfl,rfl,rfl,rfl⟩:=K
  ·exact U 1
  ·exact rd 1
 case Ce sv aw it old=>
  simp only [Fam.Fv,List.mem_append] at K;rcases K with K | K
  ·split at K
   ·split at K
    ·simp only [List.mem_singleton] at K;split at K <;> simp only [Prod.mk.injEq] at K <;> obtain⟨rfl,rfl,rfl,rfl⟩:=K
     ·exact U 1
     ·exact rd 1
    ·simp only [List.mem_singleton,Prod.mk.injEq] at K;obtain⟨rfl,rfl,rfl,rfl⟩:=K;exact nil 1
   ·simp at K
  ·split at K
   ·split at K
    ·simp only [List.mem_singleton,Prod.mk.injEq] at K;obtain⟨rfl,rfl,rfl,rfl⟩:=K;exact U 1
    ·simp only [List.mem_cons,List.not_mem_nil,or_false,Prod.mk.injEq] at K;rcases K with⟨rfl,rfl,rfl,rfl⟩ | ⟨rfl,rfl,rfl,rfl⟩ <;> exact U 1
   ·simp only [List.mem_singleton,Prod.mk.injEq] at K;obtain⟨rfl,rfl,rfl,rfl⟩:=K;exact rd 1
 case Co sv=>obtain⟨rfl,rfl,rfl,rfl⟩:=K;cases sv <;> exact EZ
 case FY=>
  simp only [List.mem_cons,List.not_mem_nil,or_false,Prod.mk.injEq] at K;rcases K with⟨rfl,rfl,rfl,rfl⟩ | ⟨rfl,rfl,rfl,rfl⟩ <;> exact nil 1
 case Es sv=>split at K <;> simp only [List.mem_singleton,Prod.mk.injEq] at K <;> obtain⟨rfl,rfl,rfl,rfl⟩:=K <;> exact nil 1
 case HN=>
  obtain⟨rfl,rfl,rfl,rfl⟩:=K;split
  ·exact U 1
  ·split <;> exact U 1
 case ED old=>
  split at K <;> simp only [List.mem_singleton,Prod.mk.injEq] at K <;> obtain⟨rfl,rfl,rfl,rfl⟩:=K
  ·exact U 1
  ·exact rd 1
 case Hl=>obtain⟨rfl,rfl,rfl,rfl⟩:=K;split <;> exact nil 1
 case EW b=>obtain⟨rfl,rfl,rfl,rfl⟩:=K;exact EZ
 case len=>obtain⟨rfl,rfl,rfl,rfl⟩:=K;exact Y .enable 1 0 (by simp) (by simp) (by simp) V λB O=>trivial
 case Fa=>obtain⟨rfl,rfl,rfl,rfl⟩:=K;exact Y .enable 1 0 (by simp) (by simp) (by simp) V λB O=>trivial
 case JW=>obtain⟨rfl,rfl,rfl,rfl⟩:=K;exact Y .disable 0 1 (by simp) (by simp) (by simp) V λB O=>trivial
 case JZ=>obtain⟨rfl,rfl,rfl,rfl⟩:=K;exact Y (.acquire F.uA) 0 0 (by simp) (by simp) (by simp) V λB O=>O
 case J0=>obtain⟨rfl,rfl,rfl,rfl⟩:=K;exact Y (.releaseMerge F.uA) 0 0 (by simp) (by simp) (by simp) V λB O=>O
 all_goals
  obtain⟨rfl,rfl,rfl,rfl⟩:=K
 all_goals first | exact nil 0 | exact nil 1 | exact U 1
end
def Cp(c:Bool)(N:Nat)(φ:Nat->Nx):Nat->Nx:=λi=>if c=true/\i=N then φ 0 else if c=true/\i=0 then .ph (.FG [] []) else φ i
theorem Jd{N:Nat}{φ:Nat->Nx}:Cp false N φ=φ:=by funext i;simp [Cp]
theorem IH{c:Bool}{N:Nat}{φ:Nat->Nx}{i:Nat}(K:i≠0)(O:i≠N):Cp c N φ i=φ i:=by simp [Cp,K,O]
theorem JM{N:Nat}{φ:Nat->Nx}:Cp true N φ N=φ 0:=by simp [Cp]
theorem Nc{c:Bool}{N:Nat}{φ:Nat->Nx}{i:Nat}{x:Nx}(K:i≠0)(O:i≠N):upd (Cp c N φ) i x=Cp c N (upd φ i x):=by
 funext a;unfold Cp;by_cases e:a=i
 ·subst e;rw [upd_same,if_neg (by simp [O]),if_neg (by simp [K]),upd_same]
 ·rw [upd_ne _ _ e];rw [upd_ne φ x (Ne.symm K),upd_ne _ _ e]
theorem WV{N:Nat}{φ:Nat->Nx}{x:Nx}(O:N≠0):upd (Cp true N φ) N x=Cp true N (upd φ 0 x):=by
 funext a;unfold Cp;by_cases e:a=N
 ·subst e;simp [upd_same]
 ·rw [upd_ne _ _ e];by_cases K:a=0
  ·subst K;simp [e]
  ·rw [upd_ne φ x K];simp [e,K]
def HG:Nx->Bool
 | .gone _=>true
 | .ph p=>Fam.CG p
def loc(x:Nx)(s:St):St:=if HG x=true then .quiet else s
def Gw:LP->Prop
 | .Gy | .J1 | .J0 | .JW | .HN | .ED _ | .Hl | .EW _ | .Fa=>True
 | _=>False
def stored:Nx->Prop
 | .gone _=>True
 | .ph (.lk _ p)=>Gw p
 | .ph .HS | .ph .Gu | .ph .IL | .ph .Hk | .ph .GR | .ph .Hc | .ph .Fg=>True
 | _=>False
def PC(p:Ph):Prop:=p= .Fw∨∃k sv,p= .lk k (.Co sv)
inductive Gz (P:Program) (F:Fam) (main:Bool):Nx->Rk->Bool->Gs_
 | walk {p:Ph} {r:Rk} {g:Goroutine} {s:St}:main=Fam.Cv p->(Fam.CG p=true->s= .quiet)->Jr P main (JQ (Stop P F p)) r g s->Gz P F main (.ph p) r true g s
 | blk {p:Ph} {r:Rk} {g:Goroutine} {s:St}:PC p->main=Fam.Cv p->Stop P F p g s->Gz P F main (.ph p) r false {g with status:= .blocked} s
 | gone {q d:Nat} {g:Goroutine}:main=false->QuitsD P q d g->Gz P F main (.gone d) (chain q) true g .quiet
section
variable {P:Program}{F:Fam}{main:Bool}
theorem Jr.running{p:Ph}{r:Rk}{g:Goroutine}{s:St}(h:Jr P main (JQ (Stop P F p)) r g s):g.status= .running:=by
 cases r with
 | leaf=>obtain⟨s₀,_,K⟩:=h;exact K.law.run
 | node f=>
  rcases h with⟨s₀,_,K⟩ | ⟨O,_⟩
  ·exact K.law.run
  ·exact O
theorem Jr.at_{Q:GP}{r:Rk}{g:Goroutine}{s:St}(h:Q g s):Jr P main Q r g s:=by
 cases r with
 | leaf=>exact h
 | node f=>exact .inl h
theorem Gz.awake{x:Nx}{r:Rk}{b:Bool}{g:Goroutine}{s:St}(h:Gz P F main x r b g s):Go.Conc.awake g:=by
 cases h with
 | walk _ _ K=>exact awake_of (.inl K.running)
 | blk _ _ _=>exact awake_of (.inr (.inl rfl))
 | gone _ O=>exact awake_of (O.status.elim .inl λx=> .inr (.inr x))
theorem UI{g:Goroutine}(h:g.status= .running):{({g with status:= .blocked}:Goroutine) with status:= .running}=g:=by
 obtain⟨a,b,c,d,e⟩:=g;simp only at h;subst h;rfl
theorem Qu{p:Ph}(h:PC p):Fam.CG p=false:=by
 rcases h with rfl | ⟨k,sv,rfl⟩ <;> rfl
theorem Gz.woken{x:Nx}{r:Rk}{b:Bool}{o:Goroutine}{s:St}(h:Gz P F main x r b o s){g g':Goroutine}{w':World}:
  ∃b',Gz P F main x r b' (Go.Conc.woken P g g' w' o) s/\(b=true->b'=true)/\(mayWake P g=true->g'.status= .running->b'=true):=by
 have am:∀(o:Goroutine),Go.Conc.woken P g g' w' o=o.again w'∨Go.Conc.woken P g g' w' o=o:=by
  intro o;unfold Go.Conc.woken;split
  ·exact .inl V
  ·exact .inr V
 cases h with
 | walk K ap Y=>exact⟨true,by rw [woken_run Y.running];exact .walk K ap Y,λ_=>rfl,λ_ _=>rfl⟩
 | @blk p _ go _ Z K O=>
  have ac:({go with status:= .blocked}:Goroutine).again w'=go:=by
   have:=O.law.offers;have aq:({go with status:= .blocked}:Goroutine).again w'={({go with status:= .blocked}:Goroutine) with status:= .running}:=by simp [Goroutine.again,this]
   rw [aq];exact UI O.law.run
  have ag:Gz P F main (.ph p) r true go s:= .walk K (λq=>by rw [Qu Z] at q;cases q) (Jr.at_ ⟨s,.refl _,O⟩);by_cases U:mayWake P g=true/\g'.status= .running
  ·have e:Go.Conc.woken P g g' w' ({go with status:= .blocked}:Goroutine)=({go with status:= .blocked}:Goroutine).again w':=by
    unfold Go.Conc.woken;rw [if_pos (by simp [U.1,U.2])]
   exact⟨true,by rw [e,ac];exact ag,λ_=>V,λ_ _=>V⟩
  ·rcases am ({go with status:= .blocked}:Goroutine) with e | e
   ·exact⟨true,by rw [e,ac];exact ag,λ_=>V,λa b=>absurd ⟨a,b⟩ U⟩
   ·exact⟨false,by rw [e];exact .blk Z K O,λe=>e,λa b=>absurd ⟨a,b⟩ U⟩
 | gone K al=>exact⟨true,by rw [woken_quitsD al];exact .gone K al,λ_=>rfl,λ_ _=>rfl⟩
end
structure Base where
 N0:Nat
 t0:Nat
 E0:LH
 w0:World
structure Inv (P:Program) (F:Fam) (B:Base) (gs:Array Goroutine) (w:World) (t:Trace) (φ:Nat->Nx) (r:Nat->Rk) (bt:Nat->Bool) (S:Nat->St) (Sh:Nat->Prop) (j:Nat) (c:Bool) (v wt sm:Nat) (m:M4) (q:Nat) (f:Nat->Value):Prop where
 Cx:Cw F B.N0 (gs.size+c.toNat) j c (Cp c gs.size φ) v wt sm false
 lock:LI gs.size φ m q
 EF:EX F B.N0 B.t0 gs.size j φ S t
 KD:∀i g,gs[i]? =some g->Gz P F (i==0) (φ i) (r i) (bt i) g (loc (φ i) (S i))
 B7:BS t w gs.size S Sh
 HV:Sh F.wg
 Iy:Sh F.mu
 IN:Sh F.fd
 Mo:F.mu≠F.wg
 J2:F.fd≠F.wg
 J4:F.fd≠F.mu
 HU:F.n<134217728
 mn:φ 0≠ .ph .GV/\φ 0≠ .ph .HF
 wg:F.WG w v wt sm
 Ji:F.MU w m q
 Gj:F.FD w f
 blk:∀i,i<gs.size->bt i=false->(i=0/\φ 0= .ph .Fw/\sm=0)∨((∃k sv,φ i= .ph (.lk k (.Co sv)))/\q=0)
 Iw:∀k,k<j->stored (φ (B.N0+k))->F.msg k (f k) (S (B.N0+k)).E
 le:Le B.E0 (S 0).E
 tape:w.tape=B.w0.tape
 os:Gg B.w0.os w.os
 output:w.output=B.w0.output
section
variable {P:Program}{F:Fam}{B:Base}{gs:Array Goroutine}{w w':World}{t:Trace}{φ:Nat->Nx}{r:Nat->Rk}{bt:Nat->Bool}{S:Nat->St}{Sh:Nat->Prop}{j:Nat}{c:Bool}{v wt' sm v₁ wt₁ sm₁:Nat}{m m₁:M4}{q q₁:Nat}{f f₁:Nat->Value}
theorem Inv.at_(h:Inv P F B gs w t φ r bt S Sh j c v wt' sm m q f)(d:Nat):Inv P F B gs (w.at d) t φ r bt S Sh j c v wt' sm m q f:=
 have K:BS t (w.at d) gs.size S Sh:=by
  have:=h.B7.mute (u:= #[]) (w':=w.at d) (g:=0) (by simp) (by simp) (by simp) rfl;simpa using this
 {h with B7:=K}
theorem Inv.size(h:Inv P F B gs w t φ r bt S Sh j c v wt' sm m q f):gs.size=B.N0+j:=by have:=h.Cx.size;omega
theorem Inv.Eu(h:Inv P F B gs w t φ r bt S Sh j c v wt' sm m q f){i:Nat}(hi:i<gs.size):i=0∨(i≠0/\∃d,φ i= .gone d/\i<B.N0)∨∃k,k<j/\i=B.N0+k/\i≠0/\GQ F k (φ i):=by
 have Y:=h.size;have Z:=h.Cx.pos;rcases Nat.eq_zero_or_pos i with K | K
 ·exact .inl K
 rcases Nat.lt_or_ge i B.N0 with O | O
 ·have:=h.Cx.old i K O;rw [IH (by omega) (by omega)] at this;cases U:φ i with
  | gone d=>exact .inr (.inl ⟨by omega,d,rfl,O⟩)
  | ph p=>rw [U] at this;exact this.elim
 ·have:=h.Cx.work (i - B.N0) (by omega);rw [show B.N0+(i - B.N0)=i by omega,IH (by omega) (by omega)] at this;exact .inr (.inr ⟨i - B.N0,by omega,by omega,by omega,this⟩)
theorem Inv.main(h:Inv P F B gs w t φ r bt S Sh j c v wt' sm m q f):∃p,φ 0= .ph p/\Fam.Cv p=true/\((c=false/\HE F.n j c p)∨(c=true/\Jb (.ph p))):=by
 have Z:=h.size;cases K:c with
 | false=>
  have:=h.Cx.main;rw [K,Jd] at this;obtain⟨p,Y,O⟩:=this;exact⟨p,Y,by cases p <;> simp [HE] at O <;> rfl,.inl ⟨V,O⟩⟩
 | true=>
  have:=h.Cx.cls K;have ac:=h.Cx.cj K;rw [K,show B.N0+F.n=gs.size by omega,JM] at this;cases U:φ 0 with
  | gone d=>
   have:=h.Cx.mode;rw [if_pos K,K,show B.N0+F.n=gs.size by omega,JM,U] at this;simp [Dr] at this
  | ph p=>rw [U] at this;exact⟨p,rfl,by cases p <;> simp [Jb] at this <;> rfl,.inr ⟨rfl,this⟩⟩
theorem JH(a b:LP->Nat)(N:Nat)(φ:Nat->Nx):Sg (λp=>a p+b p) N φ=Sg a N φ+Sg b N φ:=by
 unfold Sg
 induction N with
 | zero=>rfl
 | succ N K=>
  simp only [sumTo,K];have:C5 (λp=>a p+b p) (φ N)=C5 a (φ N)+C5 b (φ N):=by
   cases φ N with
   | gone d=>rfl
   | ph p=>cases p <;> rfl
  omega
theorem OB{a b:Nat->Nat}:∀{N M:Nat},N<=M->(∀i,i<N->a i<=b i)->sumTo N a<=sumTo M b
 | 0,_,_,_=>by simp [sumTo]
 | N+1,0,h,_=>by omega
 | N+1,M+1,h,K=>by
  rcases Nat.lt_or_ge N M with q | q
  ·have O:sumTo (N+1) a<=sumTo M b:=OB (by omega) K
   simp only [sumTo] at O ⊢;omega
  ·obtain rfl:N=M:=by omega
   have O:sumTo N a<=sumTo N b:=OB (Nat.le_refl _) λi hi=>K i (by omega);have U:=K N (by omega);simp only [sumTo];omega
theorem Inv.small(h:Inv P F B gs w t φ r bt S Sh j c v wt' sm m q f):C4 m:=by
 have Y:=h.size;have hb:Sg (λp=>(pQ p+pV p)+pD p) gs.size φ<=sumTo (gs.size+c.toNat) λi=>cU (Cp c gs.size φ i):=by
  refine OB (by omega) λi hi=>?_;rcases Nat.eq_zero_or_pos i with rfl | Z
  ·obtain⟨p,O,hm,_⟩:=h.main;rw [O];cases p <;> first | (simp [C5];done) | (simp [Fam.Cv] at hm)
  ·rw [IH (by omega) (by omega)];cases φ i with
   | gone d=>simp [C5]
   | ph p=>
    cases p <;> simp only [C5] <;> (try omega)
    rename_i k l;cases l <;> simp [pQ,pV,pD,cU]
 rw [JH,JH] at hb;have ac:=h.Cx.cnt;have ag:=h.Cx.P8;obtain⟨l1,l2,U⟩:=h.lock.ln;have al:=h.HU;show m.w<134217728;cases K:m.s with
 | false=>have:=(l2 K).2.2.2.1;omega
 | true=>have:=(U K).2.2.2.2.1;omega
theorem Inv.go(h:Inv P F B gs w t φ r bt S Sh j c v wt' sm m q f){i:Nat}{g g':Goroutine}{es:Array Event}{x:Nx}{ρ:Rk}{s':St}(hi:gs[i]? =some g)
  (aq:Cw F B.N0 (gs.size+c.toNat) j c (Cp c gs.size (upd φ i x)) v₁ wt₁ sm₁ false) (aw:LI gs.size (upd φ i x) m₁ q₁)
  (a0:EX F B.N0 B.t0 gs.size j (upd φ i x) (upd S i s') (t++MemOp.ofEvents i g.frame.fn g.frame.place es))
  (a1:Gz P F (i==0) x ρ true g' (loc x s'))
  (hC:BS (t++MemOp.ofEvents i g.frame.fn g.frame.place es) w' gs.size (upd S i s') Sh)
  (a2:F.WG w' v₁ wt₁ sm₁) (a3:F.MU w' m₁ q₁) (a4:F.FD w' f₁)
  (a5:sm₁≠0->sm=0->mayWake P g=true/\g'.status= .running) (a6:q₁≠0->q=0->mayWake P g=true/\g'.status= .running)
  (a7:∀k,k<j->stored (upd φ i x (B.N0+k))->F.msg k (f₁ k) (upd S i s' (B.N0+k)).E)
  (a8:i=0->x≠ .ph .GV/\x≠ .ph .HF) (a9:i=0->Le (S 0).E s'.E) (bb:w'.tape=w.tape) (be:Gg w.os w'.os) (bi:w'.output=w.output):
  ∃O,Inv P F B ((gs.map (woken P g g' w')).setIfInBounds i g') w' (t++MemOp.ofEvents i g.frame.fn g.frame.place es) (upd φ i x) (upd r i ρ) O (upd S i s') Sh j c v₁ wt₁ sm₁ m₁ q₁ f₁:=by
 have bo:i<gs.size:=(Array.getElem?_eq_some_iff.1 hi).1;have U:((gs.map (woken P g g' w')).setIfInBounds i g').size=gs.size:=by simp
 have am:∀a,∃b',(a=i->b'=true)/\(a≠i->∀o,gs[a]? =some o->Gz P F (a==0) (φ a) (r a) b' (woken P g g' w' o) (loc (φ a) (S a))/\(bt a=true->b'=true)/\(mayWake P g=true->g'.status= .running->b'=true)):=by
  intro a;by_cases e:a=i
  ·exact⟨true,λ_=>V,λq=>absurd e q⟩
  ·cases K:gs[a]? with
   | none=>exact⟨true,λ_=>rfl,λ_ o q=>by cases q⟩
   | some o=>
    obtain⟨b',bv,Y,Z⟩:=(h.KD a o K).woken (g:=g) (g':=g') (w':=w');exact⟨b',λq=>absurd q e,λ_ o' q=>by cases q;exact⟨bv,Y,Z⟩⟩
 let O:Nat->Bool:=λa=>Classical.choose (am a);have hb:∀a,(a=i->O a=true)/\(a≠i->∀o,gs[a]? =some o->Gz P F (a==0) (φ a) (r a) (O a) (woken P g g' w' o) (loc (φ a) (S a))/\(bt a=true->O a=true)/\(mayWake P g=true->g'.status= .running->O a=true)):=λa=>Classical.choose_spec (am a);refine⟨O,by rw [U];exact aq,by rw [U];exact aw,by rw [U];exact a0,λa o K=>?_,by rw [U];exact hC,h.HV,h.Iy,h.IN,h.Mo,h.J2,h.J4,h.HU,(by
  by_cases e:i=0
  ·subst e;rw [upd_same];exact a8 V
  ·rw [upd_ne _ _ (Ne.symm e)];exact h.mn),a2,a3,a4,λa ag al=>?_,a7,λb o K=>?_,bb.trans h.tape,h.os.trans be,bi.trans h.output⟩
 ·by_cases e:a=i
  ·subst e;rw [Array.getElem?_setIfInBounds_self_of_lt (by simpa using bo)] at K;obtain rfl:=Option.some.inj K;rw [upd_same,upd_same,upd_same,(hb a).1 rfl];exact a1
  ·rw [Array.getElem?_setIfInBounds_ne (Ne.symm e),Array.getElem?_map] at K;obtain⟨o',bw,rfl⟩:=Option.map_eq_some_iff.1 K;rw [upd_ne _ _ e,upd_ne _ _ e,upd_ne _ _ e];exact((hb a).2 e o' bw).1
 ·rw [U] at ag;have e:a≠i:=λe=>by have:=(hb a).1 e;rw [al] at this;cases this
  obtain⟨_,k1,b0⟩:=(hb a).2 e _ (Array.getElem?_eq_getElem ag);have ap:¬(mayWake P g=true/\g'.status= .running):=λ⟨x,y⟩=>by have:=b0 x y;rw [al] at this;cases this
  have b1:bt a=false:=by
   cases ac:bt a with
   | false=>rfl
   | true=>have:=k1 ac;rw [al] at this;cases this
  rcases h.blk a ag b1 with⟨rfl,Y,Z⟩ | ⟨⟨k,sv,Y⟩,Z⟩
  ·refine .inl ⟨V,by rw [upd_ne _ _ e];exact Y,?_⟩;exact Classical.not_not.1 λac=>ap (a5 ac Z)
  ·refine .inr ⟨⟨k,sv,by rw [upd_ne _ _ e];exact Y⟩,?_⟩;exact Classical.not_not.1 λac=>ap (a6 ac Z)
 ·by_cases e:i=0
  ·subst e;rw [upd_same];exact a9 V b o (h.le b o K)
  ·rw [upd_ne _ _ (Ne.symm e)];exact h.le b o K
end
def P5(P:Program)(F:Fam)(B:Base)(gs:Array Goroutine)(w:World)(t:Trace):Prop:=
 ∃q Sh g s,Hp P gs w t q Sh g s/\F.fin g s/\Le B.E0 s.E/\w.tape=B.w0.tape/\Gg B.w0.os w.os/\w.output=B.w0.output
def Ii(P:Program)(F:Fam)(B:Base)(gs:Array Goroutine)(w:World)(sl:Option (Nat×Nat))(t:Trace)(i:Nat)(K:Mu):Prop:=
 ∃gs' w' O u,runT P (crowd gs w sl) i=(.next (crowd gs' w' O),u)/\
  ((∃φ r bt S Sh j c v wt' sm m q f,Inv P F B gs' w' (t++u) φ r bt S Sh j c v wt' sm m q f/\Mu.lt (mu F gs'.size φ m q r bt) K)∨P5 P F B gs' w' (t++u))
theorem LI.same{N:Nat}{φ:Nat->Nx}{m:M4}{q i:Nat}{y:Nx}(h:LI N φ m q)(hi:i<N)(O:∀f,C5 f (φ i)=C5 f y∨(f≠pH/\f≠pN/\f≠pZ/\f≠pV/\f≠pT/\f≠pQ/\f≠pD/\f≠pX))(U:N4 y m):LI N (upd φ i y) m q:=by
 have e:∀f,(f=pH∨f=pN∨f=pZ∨f=pV∨f=pT∨f=pQ∨f=pD∨f=pX)->Sg f N (upd φ i y)=Sg f N φ:=λf Y=>Ng f hi (by
  rcases O f with q | ⟨a,b,c,d,e,f,g,h⟩
  ·exact q
  ·rcases Y with q | q | q | q | q | q | q | q <;> contradiction)
 refine⟨by rw [e pH (by simp),e pN (by simp),e pZ (by simp),e pV (by simp),e pT (by simp),e pQ (by simp),e pD (by simp),e pX (by simp)];exact h.ln,λa Z=>?_⟩;by_cases K:a=i
 ·subst K;rw [upd_same];exact U
 ·rw [upd_ne _ _ K];exact h.loc a Z
section
variable {P:Program}{F:Fam}{B:Base}{gs:Array Goroutine}{w w':World}{sl:Option (Nat×Nat)}{t:Trace}{φ:Nat->Nx}{r:Nat->Rk}{bt:Nat->Bool}{S:Nat->St}{Sh:Nat->Prop}{j:Nat}{c:Bool}{v wt' sm v₁ wt₁ sm₁:Nat}{m m₁:M4}{q q₁:Nat}{f f₁:Nat->Value}
theorem Inv.go'(h:Inv P F B gs w t φ r bt S Sh j c v wt' sm m q f){i:Nat}{g g':Goroutine}{es:Array Event}{x:Nx}{ρ:Rk}{s':St}(hi:gs[i]? =some g)(O:stepG P (i==0) g w= .go g' w' es)
  (U:Cw F B.N0 (gs.size+c.toNat) j c (Cp c gs.size (upd φ i x)) v₁ wt₁ sm₁ false) (Y:LI gs.size (upd φ i x) m₁ q₁)
  (Z:EX F B.N0 B.t0 gs.size j (upd φ i x) (upd S i s') (t++MemOp.ofEvents i g.frame.fn g.frame.place es))
  (ac:Gz P F (i==0) x ρ true g' (loc x s'))
  (hC:BS (t++MemOp.ofEvents i g.frame.fn g.frame.place es) w' gs.size (upd S i s') Sh)
  (ag:F.WG w' v₁ wt₁ sm₁) (al:F.MU w' m₁ q₁) (am:F.FD w' f₁)
  (ap:sm₁≠0->sm=0->mayWake P g=true/\g'.status= .running) (aq:q₁≠0->q=0->mayWake P g=true/\g'.status= .running)
  (aw:∀k,k<j->stored (upd φ i x (B.N0+k))->F.msg k (f₁ k) (upd S i s' (B.N0+k)).E)
  (a0:i=0->x≠ .ph .GV/\x≠ .ph .HF) (a1:i=0->Le (S 0).E s'.E) (a2:w'.tape=w.tape) (a3:Gg w.os w'.os) (a4:w'.output=w.output)
  (hm:∀K,Mu.lt (mu F gs.size (upd φ i x) m₁ q₁ (upd r i ρ) K) (mu F gs.size φ m q r bt)):Ii P F B gs w sl t i (mu F gs.size φ m q r bt):=by
 obtain⟨K,a5⟩:=h.go hi U Y Z ac hC ag al am ap aq aw a0 a1 a2 a3 a4;refine⟨_,_,_,_,runT_crowd_go hi O,.inl ⟨_,_,_,_,_,_,_,_,_,_,_,_,_,a5,?_⟩⟩;have a6:((gs.map (woken P g g' w')).setIfInBounds i g').size=gs.size:=by simp
 rw [a6];exact hm K
theorem QF{k:Nat}{p:Ph}(hw:GQ F k (.ph p))(K:late (.ph p)):Fam.CG p=true:=by
 cases p <;> simp only [GQ] at hw <;> (try exact hw.elim) <;> first | rfl | exact K.elim
theorem MK(a:Nat)(fn:FuncId)(pos:String):MemOp.ofEvents a fn pos #[]= #[]:=by rw [ofEvents_eq];simp
theorem Inv.own(h:Inv P F B gs w t φ r bt S Sh j c v wt' sm m q f)(bo:∀k v E E',Le E E'->F.msg k v E->F.msg k v E'){i:Nat}{g g':Goroutine}{es:Array Event}{p:Ph}{ρ:Rk}{s':St}(hi:gs[i]? =some g)(K:φ i= .ph p)(a3:(i==0)=Fam.Cv p)
  (a4:stepG P (i==0) g w= .go g' w' es) (a5:Jr P (i==0) (JQ (Stop P F p)) ρ g' s') (bv:Fits s' w') (O:Fr (loc (.ph p) (S i)) w s' w') (Y:∀e∈es,Ev (loc (.ph p) (S i)) w w' e) (bw:loc (.ph p) (S i)= .quiet->s'= .quiet/\w'=w/\es= #[]) (b0:Rk.sub ρ (r i)):
  Ii P F B gs w sl t i (mu F gs.size φ m q r bt):=by
 have U:i<gs.size:=(Array.getElem?_eq_some_iff.1 hi).1;have Z:upd φ i (.ph p)=φ:=by rw [← K];exact M1 _ _
 have a6:∀a7,Mu.lt (mu F gs.size (upd φ i (.ph p)) m q (upd r i ρ) a7) (mu F gs.size φ m q r bt):=λa7=>T1 U (λ_=>by rw [K]) (by rw [K]) b0;cases ac:Fam.CG p with
 | true=>
  have ag:loc (.ph p) (S i)= .quiet:=by simp [loc,HG,ac]
  obtain⟨rfl,rfl,rfl⟩:=bw ag;have aw:upd S i (S i)=S:=M1 _ _;refine h.go' hi a4 (x:= .ph p) (ρ:=ρ) (s':=S i) (by rw [Z];exact h.Cx) (by rw [Z];exact h.lock) ?_ (by rw [ag];exact .walk a3 (λ_=>rfl) a5) ?_ h.wg h.Ji h.Gj (λa b=>absurd b a) (λa b=>absurd b a) (by rw [Z,aw];exact h.Iw) (λe=>by subst e;rw [← K];exact h.mn) (λe=>by subst e;exact .refl _) V (.refl _) V a6
  ·rw [Z,aw,MK];simpa using h.EF
  ·rw [aw,MK];simpa using h.B7
 | false=>
  have ag:loc (.ph p) (S i)=S i:=by simp [loc,HG,ac]
  rw [ag] at O Y;have b1:loc (.ph p) s'=s':=by simp [loc,HG,ac]
  have a0:∀b₀,Sh b₀->∀b wr,GN (S i) w w' b wr->b≠b₀:=by
   intro b₀ am b wr b2;have a8:=h.B7.sh i U b₀ am;have ce:=h.B7.Gd b₀ am;rintro rfl;rcases b2.2 with q | q | ⟨q,_⟩
   ·exact q a8.1
   ·omega
   ·exact q a8.2
  have a1:∀b₀,Sh b₀->w'.heap[b₀]? =w.heap[b₀]? :=λb₀ am=>O.keep b₀ (h.B7.Gd b₀ am) (h.B7.sh i U b₀ am).1;have a9:∀k,k<j->i=B.N0+k->¬late (φ i):=by
   intro k al e bb;rcases h.Eu U with ci | ⟨_,d,hd,_⟩ | ⟨k',_,_,_,hw⟩
   ·have:=h.Cx.pos;omega
   ·rw [K] at hd;cases hd
   ·rw [K] at hw bb;rw [QF hw bb] at ac;cases ac
  have b3:∀e∈es,e.loc≠ .mark .disable/\e.loc≠ .mark .enable:=by
   intro e he;have:=Y e he;refine⟨λaq=>?_,λaq=>?_⟩ <;> unfold Ev at this <;> rw [aq] at this <;> exact this
  refine h.go' (f₁:=f) hi a4 (x:= .ph p) (ρ:=ρ) (s':=s') (by rw [Z];exact h.Cx) (by rw [Z];exact h.lock) ?_ (by rw [b1];exact .walk a3 (λe=>by rw [ac] at e;cases e) a5) (h.B7.own U bv O Y) ?_ ?_ ?_ (λa b=>absurd b a) (λa b=>absurd b a) ?_ (λe=>by subst e;rw [← K];exact h.mn) (λe=>by subst e;exact λb o a2=>O.ext b o a2) O.tape (.of O.os) O.output a6
  ·refine h.EF.app U (by rw [K];exact deafBehind_still b3 _) (λe he=>⟨λa b ap hb b4=>absurd b4 ?_,λa ap hb=>absurd V (a0 F.fd h.IN F.fd a.write (K0 (Y e he) ap hb)),?_⟩) ?_ (λk al b5 e he a b ap hb hw=>?_) (λk al e ag=>absurd (K▸ag) (a9 k al e))
   ·have:=K0 (Y e he) ap hb;rintro(q | q)
    ·exact a0 F.wg h.HV b _ this q
    ·exact a0 F.mu h.Iy b _ this q
   ·intro aq;have:=Y e he;unfold Ev at this;rw [aq] at this;exact this
   ·rcases h.Eu U with e | ⟨_,d,hd,_⟩ | ⟨k,_,e,_,_⟩
    ·exact .inl (.inl e)
    ·rw [K] at hd;cases hd
    ·exact .inl (.inr (by omega))
   ·have b6:=K0 (Y e he) ap hb;have ca:B.N0+k≠i:=λe=>a9 k al e.symm (e▸b5);have be:B.N0+k<gs.size:=by have:=h.size;omega
    rcases b6.2 with y | y | ⟨_,y⟩
    ·exact(h.B7.hh i (B.N0+k) U be (Ne.symm ca) b y).2
    ·cases cc:(S (B.N0+k)).E b with
     | none=>rfl
     | some o=>have:=(h.B7.fits _ be).e b o cc;simp [Array.getElem?_eq_none y] at this
    ·rw [y] at hw;cases hw
  ·show w'.heap[F.wg]? =_;rw [a1 _ h.HV];exact h.wg
  ·show w'.heap[F.mu]? =_;rw [a1 _ h.Iy];exact h.Ji
  ·show w'.heap[F.fd]? =_;rw [a1 _ h.IN];exact h.Gj
  ·intro k al bi;rw [Z] at bi;have:=h.Iw k al bi;by_cases e:B.N0+k=i
   ·rw [e,upd_same];rw [e] at this;exact bo _ _ _ _ (λb o a2=>O.ext b o a2) this
   ·rw [upd_ne _ _ e];exact this
theorem Inv.slip(h:Inv P F B gs w t φ r bt S Sh j c v wt' sm m q f){i:Nat}{g:Goroutine}(hi:gs[i]? =some g)(Z:g.status= .running){d U:Nat}(O:φ i= .gone d)(a2:r i=chain U)(ag:(i==0)=false)(ap:QuitsD P U d g):
  Ii P F B gs w sl t i (mu F gs.size φ m q r bt):=by
 have al:i<gs.size:=(Array.getElem?_eq_some_iff.1 hi).1;have ac:i≠0:=by simpa using ag
 cases U with
 | zero=>rw [ap.1] at Z;cases Z
 | succ U=>
  rcases ap with⟨a3,_⟩ | ⟨_,g',es,hm,a4,a5⟩
  ·rw [a3] at Z;cases Z
  have a6:∀op∈MemOp.ofEvents i g.frame.fn g.frame.place es,op.act.touch? =none:=λop Y=>by obtain⟨e,he,rfl⟩:=mem_ofEvents Y;exact touch_mute (hm e he)
  have a7:∀e∈es,e.loc≠ .mark (.release F.sA):=by
   intro e he aq;have:=hm e he;obtain⟨loc,wr,bb⟩:=e;simp only at aq;subst aq;simp [Event.mute] at this
  have aw:upd S i (S i)=S:=M1 _ _;have a0:=h.Cx.leave (i:=i) (d:=d) (d':=deafBehind d es) (by omega) (by rw [IH ac (by omega)];exact O);rw [Nc ac (by omega)] at a0;refine h.go' hi (by rw [ag];exact a4 w) (x:= .gone (deafBehind d es)) (ρ:=chain U) (s':=S i) a0 (h.lock.other al (λk p e=>by rw [O] at e;cases e) (λk p e=>by cases e)) ?_ (.gone ag a5) ?_ h.wg h.Ji h.Gj (λa b=>absurd b a) (λa b=>absurd b a) ?_ (λe=>absurd e ac) (λe=>absurd e ac) V (.refl _) V λbe=>T1 al (λ_=>by rw [O];rfl) (by rw [O];rfl) (by rw [a2];exact VW U w)
  ·refine h.EF.app al (by rw [O];rfl) (λe he=>⟨λa b K=>(by rw [touch_mute (hm e he)] at K;cases K),λa K=>(by rw [touch_mute (hm e he)] at K;cases K),a7 e he⟩) (.inr λe he=>touch_mute (hm e he)) (λk am a8 e he a b K=>(by rw [touch_mute (hm e he)] at K;cases K)) (λk am e a8=> .inl ⟨by rw [O];trivial,V,λρ a9=>?_⟩);exact a9.appOwn _ _ es λm e he=> .inl (touch_mute (hm e (Array.mem_of_getElem? he)))
  ·rw [aw];exact h.B7.mute (g:=i) (λop Y=>by obtain⟨e,_,rfl⟩:=mem_ofEvents Y;rfl) a6 (λop Y=>by obtain⟨e,he,rfl⟩:=mem_ofEvents Y;exact low_mute (hm e he) _) V
  ·rw [aw];intro k am a1;refine h.Iw k am ?_;by_cases e:B.N0+k=i
   ·rw [e,O];trivial
   ·rw [upd_ne _ _ e] at a1;exact a1
theorem ZS{p:Ph}{es:Array Event}{K:Nx}(O:F.act p v wt' sm=some ((v₁,wt₁,sm₁),es,K)):
  (∀q,K= .ph q->Fam.Cv q=Fam.Cv p/\(Fam.CG q=true->p= .Gu∨Fam.CG p=true)/\(Fam.CG q=false->Fam.CG p=false/\p≠ .Gu)/\∀k l,q≠ .lk k l)/\(sm₁≠0->sm=0->p= .Fg)/\(∀d,K= .gone d->Fam.Cv p=false/\Fam.CG p=true)/\
  (∀k l,p≠ .lk k l)/\(Fam.Cv p=false->stored K)/\(Fam.Cv p=false->late K->late (.ph p)∨p= .Gu)/\(Fam.Cv p=false->stored (.ph p))/\K≠ .ph .GV/\K≠ .ph .HF:=by
 cases p <;> simp only [Fam.act] at O <;> (try (cases O;done))
 all_goals (try (split at O)) <;> (try (cases O;done)) <;> (try (split at O))
 all_goals cases O
 all_goals first
  | (simp [Fam.Cv,Fam.CG,stored,late];done)
  | (split <;> simp [Fam.Cv,Fam.CG,stored,late];done)
  | (simp [Fam.Cv,Fam.CG,stored,late];omega)
theorem Cw.enabled{N0 N:Nat}{cl:Bool}(h:Cw F N0 N j c φ v wt' sm cl){i:Nat}(hi:i<N){p:Ph}(K:φ i= .ph p)(a2:∀k,p≠ .Hf k)(a3:∀k,p≠ .FK k)(a4:p≠ .GV)(a5:∀a6 vs,p≠ .FG a6 vs)(a7:p≠ .HF)(a8:p= .Fw->sm=1)(a9:p≠ .Gf)(bb:∀k l,p≠ .lk k l):
  ∃v' w' sm' es be,F.act p v wt' sm=some ((v',w',sm'),es,be):=by
 have hm:=h.mode;have bw:=h.P8;have b0:=h.HU;have O:=h.cnt;have ac:cU (φ i)<=sumTo N λa=>cU (φ a):=le_sumTo (f:=λa=>cU (φ a)) hi;have ag:cL (φ i)<=sumTo N λa=>cL (φ a):=le_sumTo (f:=λa=>cL (φ a)) hi;have aq:cS (φ i)<=sumTo N λa=>cS (φ a):=le_sumTo (f:=λa=>cS (φ a)) hi;rw [K] at ac ag aq;have bi:wt'<=1:=by
  generalize (if c=true then φ (N0+F.n) else Nx.ph .Di)=y at hm
  cases y with
  | gone d=>simp only [Dr] at hm;omega
  | ph q=>cases q <;> simp only [Dr] at hm <;> (try exact hm.elim) <;> omega
 have al:1<=(sumTo N λa=>cL (φ a))+(sumTo N λa=>cS (φ a))->v=0/\sm=0/\wt'=sumTo N λa=>cL (φ a):=by
  intro hh;generalize (if c=true then φ (N0+F.n) else Nx.ph .Di)=y at hm
  cases y with
  | gone d=>simp only [Dr] at hm;omega
  | ph q=>cases q <;> simp only [Dr] at hm <;> (try exact hm.elim) <;> omega
 have am:∀x,φ i= .ph x->Jb (.ph x)->c=true/\(if c=true then φ (N0+F.n) else Nx.ph .Di)= .ph x:=by
  intro x Y aw;rcases h.Eu hi with rfl | ⟨a,b⟩ | ⟨k,ap,rfl⟩ | ⟨O,rfl⟩
  ·obtain⟨q,U,Z⟩:=h.main;rw [Y] at U;cases U;cases x <;> simp [HE] at Z <;> exact aw.elim
  ·have:=h.old i a b;rw [Y] at this;exact this.elim
  ·have:=h.work k ap;rw [Y] at this;cases x <;> simp [GQ] at this <;> exact aw.elim
  ·exact⟨O,by rw [if_pos O];exact Y⟩
 cases p <;> simp only [Fam.act]
 ·exact absurd V (a2 _)
 ·exact⟨_,_,_,_,_,V⟩
 ·exact⟨_,_,_,_,_,V⟩
 ·simp only [cU] at ac;have:1<=v:=by
   have b1:1<=sumTo N λa=>cU (φ a):=ac;omega
  rw [if_pos ⟨this,by omega,bi⟩];exact⟨_,_,_,_,_,V⟩
 ·have bo:1<=sumTo N λa=>cL (φ a):=ag;have:=al (by omega);rw [if_pos ⟨this.1,by omega⟩];exact⟨_,_,_,_,_,V⟩
 ·have bo:1<=sumTo N λa=>cL (φ a):=ag;have:=al (by omega);rw [if_pos ⟨this.1,by omega⟩];exact⟨_,_,_,_,_,V⟩
 ·have b2:1<=sumTo N λa=>cS (φ a):=aq;have:=al (by omega);rw [if_pos this.2.1];exact⟨_,_,_,_,_,V⟩
 ·exact⟨_,_,_,_,_,V⟩
 ·obtain⟨a0,e⟩:=am _ K trivial;rw [e] at hm;rw [if_pos ⟨hm.2.2.2.2.2,hm.2.2.2.1⟩];exact⟨_,_,_,_,_,V⟩
 ·obtain⟨a0,e⟩:=am _ K trivial;rw [e] at hm;rw [if_pos ⟨hm.2.2.2.2.2.1,hm.2.2.2.2.2.2,hm.2.2.2.1⟩];split <;> exact⟨_,_,_,_,_,rfl⟩
 ·exact⟨_,_,_,_,_,V⟩
 ·rw [if_pos (a8 rfl)];exact⟨_,_,_,_,_,V⟩
 ·obtain⟨a0,e⟩:=am _ K trivial;rw [e] at hm;rw [if_pos ⟨hm.2.2.2.2.1,hm.2.2.2.1⟩];exact⟨_,_,_,_,_,V⟩
 ·exact⟨_,_,_,_,_,V⟩
 ·exact absurd V a9
 ·exact absurd V a7
 ·exact⟨_,_,_,_,_,V⟩
 ·have bv:c=false/\v<=j/\j<F.n:=by
   rcases h.Eu hi with rfl | ⟨a,b⟩ | ⟨k,ap,rfl⟩ | ⟨O,rfl⟩
   ·obtain⟨q,U,Z⟩:=h.main;rw [K] at U;cases U;have a1:=h.J3;rw [K] at a1;exact⟨Z.2.2,by simpa [pend] using a1,Z.2.1⟩
   ·have:=h.old i a b;rw [K] at this;exact this.elim
   ·have:=h.work k ap;rw [K] at this;exact this.elim
   ·have:=h.cls O;rw [K] at this;exact this.elim
  rw [bv.1] at hm;simp only [Bool.false_eq_true,if_false,Dr] at hm;rw [if_pos ⟨by omega,hm.2.2.2.1⟩];exact⟨_,_,_,_,_,V⟩
 ·exact⟨_,_,_,_,_,V⟩
 ·exact⟨_,_,_,_,_,V⟩
 ·exact absurd V (a3 _)
 ·exact absurd V a4
 ·exact absurd V (a5 _ _)
 all_goals first | exact⟨_,_,_,_,_,rfl⟩ | exact absurd rfl (bb _ _)
end
section
variable {P:Program}{F:Fam}{B:Base}{gs:Array Goroutine}{w w':World}{sl:Option (Nat×Nat)}{t:Trace}{φ:Nat->Nx}{r:Nat->Rk}{bt:Nat->Bool}{S:Nat->St}{Sh:Nat->Prop}{j:Nat}{c:Bool}{v wt' sm v₁ wt₁ sm₁:Nat}{m m₁:M4}{q q₁:Nat}{f f₁:Nat->Value}
theorem WH(w:World)(v wt sm:Nat):(F.put w v wt sm).heap.size=w.heap.size:=by simp [Fam.put]
theorem PD(w:World)(v wt sm:Nat){b:Nat}(h:b≠F.wg):(F.put w v wt sm).heap[b]? =w.heap[b]? :=by simp [Fam.put,Array.getElem?_setIfInBounds_ne (Ne.symm h)]
theorem ZA(w:World)(v wt sm:Nat)(h:F.wg<w.heap.size):F.WG (F.put w v wt sm) v wt sm:=by simp [Fam.WG,Fam.put,h]
theorem Wc(w:World)(m:M4)(q:Nat):(F.FH w m q).heap.size=w.heap.size:=by simp [Fam.FH]
theorem O9(w:World)(m:M4)(q:Nat){b:Nat}(h:b≠F.mu):(F.FH w m q).heap[b]? =w.heap[b]? :=by simp [Fam.FH,Array.getElem?_setIfInBounds_ne (Ne.symm h)]
theorem XQ(w:World)(m:M4)(q:Nat)(h:F.mu<w.heap.size):F.MU (F.FH w m q) m q:=by simp [Fam.MU,Fam.FH,h]
theorem V6(w:World)(f:Nat->Value):(F.Hj w f).heap.size=w.heap.size:=by simp [Fam.Hj]
theorem OZ(w:World)(f:Nat->Value){b:Nat}(h:b≠F.fd):(F.Hj w f).heap[b]? =w.heap[b]? :=by simp [Fam.Hj,Array.getElem?_setIfInBounds_ne (Ne.symm h)]
theorem XT(w:World)(f:Nat->Value)(h:F.fd<w.heap.size):F.FD (F.Hj w f) f:=by simp [Fam.FD,Fam.Hj,h]
theorem Y6{p:Ph}{s:St}(h:p≠ .Gu):Fam.Jh p s=s:=by cases p <;> first | rfl | exact absurd rfl h
theorem BS.heap{t:Trace}{w w':World}{N:Nat}{S:Nat->St}{Sh:Nat->Prop}(h:BS t w N S Sh)(hw:w'.heap=w.heap):BS t w' N S Sh:=by
 have:=h.mute (u:= #[]) (w':=w') (g:=0) (by simp) (by simp) (by simp) hw;simpa using this
theorem Inv.act(h:Inv P F B gs w t φ r bt S Sh j c v wt' sm m q f)(ca:∀k v E E',Le E E'->F.msg k v E->F.msg k v E'){i:Nat}{g:Goroutine}(hi:gs[i]? =some g){p:Ph}(K:φ i= .ph p)(ac:(i==0)=Fam.Cv p){s₀:St}(cc:Cc (loc (.ph p) (S i)) s₀)(aq:Stop P F p g s₀)
  {es:Array Event} {Z:Nx} (O:F.act p v wt' sm=some ((v₁,wt₁,sm₁),es,Z)):Ii P F B gs w sl t i (mu F gs.size φ m q r bt):=by
 have U:i<gs.size:=(Array.getElem?_eq_some_iff.1 hi).1;obtain⟨g',ce,ci,a7⟩:=aq.law.act _ _ _ _ _ _ _ _ O;obtain⟨n1,n2,co,cp,n5,ct,cw,cy⟩:=ZS O;obtain⟨am,e2,cJ⟩:=Y0 p O;have a8:=h.B7.Gd F.wg h.HV;have c6:=h.size;have c7:=h.Cx.pos;have a9:i≠0->Fam.Cv p=false:=λe=>by rw [← ac];simp [e]
 have bb:(p= .HR∨∃j,p= .HL j)->i=0:=by
  intro Y;have:Fam.Cv p=true:=by rcases Y with rfl | ⟨j,rfl⟩ <;> rfl
  rw [this] at ac;simpa using ac
 have be:i=0∨B.N0<=i:=by
  rcases h.Eu U with e | ⟨_,d,hd,_⟩ | ⟨k,_,e,_,_⟩
  ·exact .inl e
  ·rw [K] at hd;cases hd
  ·exact .inr (by omega)
 let s':St:=if Fam.CG p=true then S i else s₀
 have aw:Fam.CG p=true->s'=S i:=λe=>by simp [s',e]
 have ag:Fam.CG p=false->s'=s₀:=λe=>by simp [s',e]
 have bi:Fam.CG p=false->Cc (S i) s₀:=λe=>by simpa [loc,HG,e] using cc
 have hle:Le (S i).E s'.E:=by
  cases e:Fam.CG p with
  | true=>rw [aw e];exact .refl _
  | false=>rw [ag e];exact λb o a0=>(bi e).ext b o a0
 have bo:BS t w gs.size (upd S i s') Sh:=by
  cases e:Fam.CG p with
  | true=>rw [aw e,M1];exact h.B7
  | false=>rw [ag e];exact h.B7.ghost U (bi e)
 have cK:BS (t++MemOp.ofEvents i g.frame.fn g.frame.place es) (F.put w v₁ wt₁ sm₁) gs.size (upd S i s') Sh:=by
  refine bo.ext (h.EF.noRace h.B7.clean U be λe he=>(am e he).toS bb) (λop a2 a a3 b hb=>?_) (λop a2=>?_) (WH ..) (λb hb=>PD _ _ _ _ λe=>hb (e▸h.HV))
  ·obtain⟨e,he,rfl⟩:=mem_ofEvents a2;obtain⟨⟨b',al,a4⟩,_⟩:=(am e he).1 a a3;rw [hb] at al;cases al;rcases a4 with rfl | rfl
   ·exact h.HV
   ·exact h.Iy
  ·obtain⟨e,he,rfl⟩:=mem_ofEvents a2;exact cJ e he _ a8
 have cM:stepG P (i==0) g w= .go g' (F.put w v₁ wt₁ sm₁) es:=by rw [ac];exact ce w h.wg
 have cO:Cw F B.N0 (gs.size+c.toNat) j c (Cp c gs.size (upd φ i Z)) v₁ wt₁ sm₁ false:=by
  by_cases e:i=0
  ·subst e;cases c with
   | false=>
    have:=h.Cx.act (i:=0) (by omega) (by rw [Jd];exact K) O;rw [Jd] at this;rw [Jd];exact this
   | true=>
    have:=h.Cx.act (i:=gs.size) (by simp) (by rw [JM];exact K) O
    rwa [WV (by omega)] at this
  ·have:=h.Cx.act (i:=i) (by omega) (by rw [IH e (by omega)];exact K) O
   rwa [Nc e (by omega)] at this
 have cP:EX F B.N0 B.t0 gs.size j (upd φ i Z) (upd S i s') (t++MemOp.ofEvents i g.frame.fn g.frame.place es):=by
  refine h.EF.app U (by rw [K];exact e2) (λe he=>(am e he).keep bb h.J2 h.J4) (.inl be) (λk ap bv e he a b a3 hb hw=>?_) (λk ap e bv=>?_)
  ·obtain⟨⟨b',al,a4⟩,_⟩:=(am e he).1 a a3;rw [hb] at al;cases al;have bw:B.N0+k<gs.size:=by omega
   rcases a4 with rfl | rfl
   ·exact(h.B7.sh _ bw _ h.HV).2
   ·exact(h.B7.sh _ bw _ h.Iy).2
  ·have b0:i≠0:=by omega
   have b1:GQ F k (.ph p):=by
    rcases h.Eu U with cQ | ⟨_,d,hd,_⟩ | ⟨k',_,c8,_,hw⟩
    ·exact absurd cQ b0
    ·rw [K] at hd;cases hd
    ·obtain rfl:k'=k:=by omega
     rwa [K] at hw
   rcases ct (a9 b0) bv with a5 | rfl
   ·refine .inl ⟨by rw [K];exact a5,by rw [aw (QF b1 a5)],λρ a6=>?_⟩;refine a6.appOwn _ _ es λm e he=>?_;rw [h.EF.deaf _ U,K];exact XH p O b1 a5 m e he
   ·refine .inr ⟨t.size,h.EF.Mf,?_,?_⟩
    ·simp only [Fam.act] at O;cases O;exact .new (by rw [h.EF.deaf _ U,K];rfl) _ _
    ·simp only [Fam.act] at O;cases O;rw [ag rfl];intro b hb x a b2 cR hw;have cT:MemOp.ofEvents i g.frame.fn g.frame.place #[Fam.Cy (.releaseMerge F.sA)]= #[{g:=i,fn:=g.frame.fn,pos:=g.frame.place,act:= .mark (.releaseMerge F.sA)}]:=by rw [ofEvents_eq];simp [Fam.Cy,MemAct.ofEvent]
     rw [cT] at b2 ⊢;obtain⟨op,a0,b3⟩:=touch_of b2;rcases getElem?_append_cases a0 with⟨_,cV⟩ | ⟨_,b4⟩
     ·have cW:=bo.kE i U b (by rw [upd_same,ag rfl];exact hb) x a (by rw [touchAt_of cV];exact b3) cR hw;have cX:(t++ #[({g:=i,fn:=g.frame.fn,pos:=g.frame.place,act:= .mark (.releaseMerge F.sA)}:MemOp)])[t.size]? =some {g:=i,fn:=g.frame.fn,pos:=g.frame.place,act:= .mark (.releaseMerge F.sA)}:=by simp
      exact .inr (cW.hb_new (Nat.le_refl _) cX V)
     ·simp at b4;subst b4;cases b3
 have cY:∀k,k<j->stored (upd φ i Z (B.N0+k))->F.msg k (f k) (upd S i s' (B.N0+k)).E:=by
  intro k ap b5;by_cases e:B.N0+k=i
  ·rw [e,upd_same];have:=h.Iw k ap (by rw [e,K];exact cw (a9 (by omega)));rw [e] at this;exact ca _ _ _ _ hle this
  ·rw [upd_ne _ _ e] at b5 ⊢;exact h.Iw k ap b5
 have cZ:LI gs.size (upd φ i Z) m q:=h.lock.other U (λk l e=>cp k l (by rw [K] at e;exact Nx.ph.inj e)) (λk l e=>by subst e;exact(n1 _ rfl).2.2.2 k l rfl);have c0:∀q,Z= .ph q->loc (.ph q) s'=Fam.Jh p s₀:=by
  intro q e;obtain⟨_,b6,c1,_⟩:=n1 q e;cases Y:Fam.CG q with
  | true=>
   have:loc (.ph q) s'= .quiet:=by simp [loc,HG,Y]
   rw [this];rcases b6 Y with rfl | e
   ·rfl
   ·rw [aq.law.quiet e];cases p <;> rfl
  | false=>
   obtain⟨a1,c2⟩:=c1 Y;rw [Y6 c2,ag a1];simp [loc,HG,Y]
 have fin:∀(ρ:Rk),Gz P F (i==0) Z ρ true g' (loc Z s')->Ii P F B gs w sl t i (mu F gs.size φ m q r bt):=λρ c3=>
  h.go' (f₁:=f) hi cM cO cZ cP c3 cK (ZA _ _ _ _ a8) (by show(F.put w v₁ wt₁ sm₁).heap[F.mu]? =_;rw [PD _ _ _ _ h.Mo];exact h.Ji) (by show(F.put w v₁ wt₁ sm₁).heap[F.fd]? =_;rw [PD _ _ _ _ h.J2];exact h.Gj)
   (λa b=>⟨aq.law.IJ (.inl (n2 a b)),ci⟩) (λa b=>absurd b a) cY (λ_=>cy) (λe=>by subst e;exact hle) rfl (.refl _) rfl λc9=>TP U (by rw [K];exact YZ O)
 cases Z with
 | ph q=>
  obtain⟨ρ,a6⟩:=a7;refine fin ρ ?_;obtain⟨c4,b6,_,_⟩:=n1 q V;refine .walk (by rw [ac,c4]) (λY=>by simp [loc,HG,Y]) ?_;rw [c0 q rfl,ac];exact a6
 | gone d=>
  obtain⟨c5,Y⟩:=a7;exact fin (chain c5) (.gone (by rw [ac];exact(co d rfl).1) Y)
theorem ZQ{l:LP}{m m':M4}{q q':Nat}{es:Array Event}{o:Option LP}(K:(m',q',es,o)∈F.BV l m q):q'<=q∨∃b,l= .EW b:=by
 cases l <;> simp only [Fam.BV,List.mem_singleton,Prod.mk.injEq,List.not_mem_nil] at K
 case EW b=>exact .inr ⟨b,rfl⟩
 case Hi=>split at K <;> simp only [List.mem_singleton,Prod.mk.injEq] at K <;> exact .inl (by omega)
 case Ce sv aw it old=>
  simp only [Fam.Fv,List.mem_append] at K;left;rcases K with K | K
  ·split at K
   ·split at K
    ·simp only [List.mem_singleton] at K;split at K <;> simp only [Prod.mk.injEq] at K <;> omega
    ·simp only [List.mem_singleton,Prod.mk.injEq] at K;omega
   ·simp at K
  ·split at K
   ·split at K
    ·simp only [List.mem_singleton,Prod.mk.injEq] at K;omega
    ·simp only [List.mem_cons,List.not_mem_nil,or_false,Prod.mk.injEq] at K;rcases K with K | K <;> omega
   ·simp only [List.mem_singleton,Prod.mk.injEq] at K;omega
 case FY=>
  simp only [List.mem_cons,List.not_mem_nil,or_false,Prod.mk.injEq] at K;left;rcases K with K | K <;> omega
 case Es sv=>split at K <;> simp only [List.mem_singleton,Prod.mk.injEq] at K <;> exact .inl (by omega)
 case ED old=>split at K <;> simp only [List.mem_singleton,Prod.mk.injEq] at K <;> exact .inl (by omega)
 all_goals exact .inl (by omega)
theorem Xj{l:LP}{m m':M4}{q q':Nat}{es:Array Event}{o:Option LP}(K:(m',q',es,o)∈F.BV l m q):(∀p,o=some p->Gw p->Gw l)/\(o=none->Gw l):=by
 cases l <;> simp only [Fam.BV,List.mem_singleton,Prod.mk.injEq,List.not_mem_nil] at K
 case Hi=>split at K <;> simp only [List.mem_singleton,Prod.mk.injEq] at K <;> obtain⟨-,-,-,rfl⟩:=K <;> simp [Gw]
 case Ce sv aw it old=>
  simp only [Fam.Fv,List.mem_append] at K;rcases K with K | K
  ·split at K
   ·split at K
    ·simp only [List.mem_singleton] at K;split at K <;> simp only [Prod.mk.injEq] at K <;> obtain⟨-,-,-,rfl⟩:=K <;> simp [Gw]
    ·simp only [List.mem_singleton,Prod.mk.injEq] at K;obtain⟨-,-,-,rfl⟩:=K;simp [Gw]
   ·simp at K
  ·split at K
   ·split at K
    ·simp only [List.mem_singleton,Prod.mk.injEq] at K;obtain⟨-,-,-,rfl⟩:=K;simp [Gw]
    ·simp only [List.mem_cons,List.not_mem_nil,or_false,Prod.mk.injEq] at K;rcases K with⟨-,-,-,rfl⟩ | ⟨-,-,-,rfl⟩ <;> simp [Gw]
   ·simp only [List.mem_singleton,Prod.mk.injEq] at K;obtain⟨-,-,-,rfl⟩:=K;simp [Gw]
 case FY=>
  simp only [List.mem_cons,List.not_mem_nil,or_false,Prod.mk.injEq] at K;rcases K with⟨-,-,-,rfl⟩ | ⟨-,-,-,rfl⟩ <;> simp [Gw]
 case Co sv=>obtain⟨-,-,-,rfl⟩:=K;cases sv <;> simp [Gw]
 case Es sv=>split at K <;> simp only [List.mem_singleton,Prod.mk.injEq] at K <;> obtain⟨-,-,-,rfl⟩:=K <;> simp [Gw]
 all_goals first
  | (obtain⟨-,-,-,rfl⟩:=K;simp [Gw];done)
  | (exact⟨λ_ _ _=>trivial,λ_=>trivial⟩)
theorem Inv.BV(h:Inv P F B gs w t φ r bt S Sh j c v wt' sm m q f)(bv:∀k v E E',Le E E'->F.msg k v E->F.msg k v E'){i:Nat}{g:Goroutine}(hi:gs[i]? =some g){k:Nat}{l:LP}(K:φ i= .ph (.lk k l))(bw:l≠ .Fy)(ag:(i==0)=false){s₀:St}(a4:Cc (S i) s₀)(a5:Stop P F (.lk k l) g s₀)
  (b0:∀sv,l= .Co sv->q≠0):Ii P F B gs w sl t i (mu F gs.size φ m q r bt):=by
 have O:i<gs.size:=(Array.getElem?_eq_some_iff.1 hi).1;have a0:=h.lock.ok O K h.small b0;obtain⟨m',q',es,o,g',al,U,b1,Y,b2,b3⟩:=a5.law.lk k l V bw w m q h.Ji a0;obtain⟨am,e2,b4⟩:=XO U;have a6:=h.B7.Gd F.mu h.Iy;have cT:=h.size;have cV:=h.Cx.pos;have Z:i≠0:=by simpa using ag
 obtain⟨k',b5,a7,_,a8⟩:∃k',k'<j/\i=B.N0+k'/\i≠0/\GQ F k' (φ i):=by
  rcases h.Eu O with e | ⟨_,d,hd,_⟩ | e
  ·exact absurd e Z
  ·rw [K] at hd;cases hd
  ·exact e
 rw [K] at a8;obtain rfl:k=k':=a8;have b6:BS t w gs.size (upd S i s₀) Sh:=h.B7.ghost O a4;have ca:BS (t++MemOp.ofEvents i g.frame.fn g.frame.place es) al gs.size (upd S i s₀) Sh:=by
  have:BS (t++MemOp.ofEvents i g.frame.fn g.frame.place es) (F.FH w m' q') gs.size (upd S i s₀) Sh:=by
   refine b6.ext (h.EF.noRace h.B7.clean O (.inr (by omega)) λe he=>(am e he).toS (λx=>x.elim)) (λop a1 a a2 b hb=>?_) (λop a1=>?_) (Wc ..) (λb hb=>O9 _ _ _ λe=>hb (e▸h.Iy))
   ·obtain⟨e,he,rfl⟩:=mem_ofEvents a1;obtain⟨⟨b',ac,a3⟩,_⟩:=(am e he).1 a a2;rw [hb] at ac;cases ac;rcases a3 with rfl | rfl
    ·exact h.HV
    ·exact h.Iy
   ·obtain⟨e,he,rfl⟩:=mem_ofEvents a1;exact b4 e he _ a6
  exact this.heap Y.1
 have cc:cU (.ph (Fam.C6 k o))=1/\cL (.ph (Fam.C6 k o))=0/\cS (.ph (Fam.C6 k o))=0/\GQ F k (.ph (Fam.C6 k o))/\(∀a,Nx.ph (Fam.C6 k o)≠ .ph (.Hf a))/\Fam.Cv (Fam.C6 k o)=false/\Fam.CG (Fam.C6 k o)=false/\¬late (.ph (Fam.C6 k o)):=by
  cases o with
  | none=>exact⟨rfl,rfl,rfl,trivial,by simp [Fam.C6],rfl,rfl,λx=>x⟩
  | some p=>exact⟨rfl,rfl,rfl,rfl,by simp [Fam.C6],rfl,rfl,λx=>x⟩
 obtain⟨ce,x2,ci,co,cp,ct,a9,cw⟩:=cc;have cy:Cw F B.N0 (gs.size+c.toNat) j c (Cp c gs.size (upd φ i (.ph (Fam.C6 k o)))) v wt' sm false:=by
  have ap:Cp c gs.size φ (B.N0+k)= .ph (.lk k l):=by rw [← a7,IH Z (by omega)];exact K
  have:=h.Cx.Iq (v':=v) (wt':=wt') (sm':=sm) (cl':=false) b5 (x:= .ph (Fam.C6 k o)) co (λa=>by rw [ap];simp) cp (by rw [ap,ce];rfl) λL S' bb be=>by
   rw [ap,x2] at bb;rw [ap,ci] at be;have cJ:L=_:=bb;have cK:S'=_:=be;rw [cJ,cK];exact h.Cx.mode
  rwa [← a7,Nc Z (by omega)] at this
 have cM:EX F B.N0 B.t0 gs.size j (upd φ i (.ph (Fam.C6 k o))) (upd S i s₀) (t++MemOp.ofEvents i g.frame.fn g.frame.place es):=by
  refine h.EF.app O (by rw [K];rw [show FL (.ph (.lk k l))=dl l from rfl,e2];cases o <;> rfl) (λe he=>(am e he).keep (λx=>x.elim) h.J2 h.J4) (.inl (.inr (by omega))) (λk' aq bi e he a b a2 hb hw=>?_) (λk' aq e bi=>absurd bi cw);obtain⟨⟨b',ac,a3⟩,_⟩:=(am e he).1 a a2;rw [hb] at ac;cases ac;have bo:B.N0+k'<gs.size:=by omega
  rcases a3 with rfl | rfl
  ·exact(h.B7.sh _ bo _ h.HV).2
  ·exact(h.B7.sh _ bo _ h.Iy).2
 obtain⟨ρ,cO⟩:=b3;have cP:loc (.ph (Fam.C6 k o)) s₀=s₀:=by simp [loc,HG,a9]
 refine h.go' (f₁:=f) hi (by rw [ag];exact b1) cy (h.lock.step O K h.small a0 U) cM (ρ:=ρ) (by rw [cP];exact .walk (by rw [ag,ct]) (λe=>by rw [a9] at e;cases e) (by rw [ag];exact cO)) ca ?_ ?_ ?_ (λa b=>absurd b a) (λa b=>?_) (λk' aq aw=>?_) (λe=>absurd e Z) (λe=>absurd e Z) (Y.2.1) Y.2.2.1 Y.2.2.2 λcW=>bj O K U a0
 ·show al.heap[F.wg]? =_;rw [Y.1,O9 _ _ _ (Ne.symm h.Mo)];exact h.wg
 ·show al.heap[F.mu]? =_;rw [Y.1];exact XQ _ _ _ a6
 ·show al.heap[F.fd]? =_;rw [Y.1,O9 _ _ _ h.J4];exact h.Gj
 ·rcases ZQ U with e | ⟨cQ,rfl⟩
  ·omega
  ·exact⟨a5.law.IJ (.inr ⟨k,cQ,V⟩),b2⟩
 ·by_cases e:B.N0+k'=i
  ·rw [e,upd_same] at aw ⊢;obtain rfl:k'=k:=by omega
   have cR:Gw l:=by
    obtain⟨a,b⟩:=Xj U;cases o with
    | none=>exact b rfl
    | some p=>exact a p rfl aw
   have:=h.Iw k' aq (by rw [e,K];exact cR);rw [e] at this;exact bv _ _ _ _ (λb o U=>a4.ext b o U) this
  ·rw [upd_ne _ _ e] at aw ⊢;exact h.Iw k' aq aw
end
section
variable {P:Program}{F:Fam}{B:Base}{gs gs':Array Goroutine}{w w':World}{sl:Option (Nat×Nat)}{t:Trace}{φ:Nat->Nx}{r:Nat->Rk}{bt:Nat->Bool}{S:Nat->St}{Sh:Nat->Prop}{j:Nat}{c:Bool}{v wt' sm v₁ wt₁ sm₁:Nat}{m m₁:M4}{q q₁:Nat}{f f₁:Nat->Value}
theorem Inv.store(h:Inv P F B gs w t φ r bt S Sh j c v wt' sm m q f){i:Nat}{g:Goroutine}(hi:gs[i]? =some g){k:Nat}(O:φ i= .ph (.lk k .Fy))(ag:(i==0)=false){s₀:St}(a7:Cc (S i) s₀)(a8:Stop P F (.lk k .Fy) g s₀):
  Ii P F B gs w sl t i (mu F gs.size φ m q r bt):=by
 have U:i<gs.size:=(Array.getElem?_eq_some_iff.1 hi).1;obtain⟨v0,a9,g',ca,bb,be⟩:=a8.law.store k V;have a0:=h.B7.Gd F.fd h.IN;have cc:=h.size;have ce:=h.Cx.pos;have Y:i≠0:=by simpa using ag
 obtain⟨k',al,Z,_,a1⟩:∃k',k'<j/\i=B.N0+k'/\i≠0/\GQ F k' (φ i):=by
  rcases h.Eu U with e | ⟨_,d,hd,_⟩ | e
  ·exact absurd e Y
  ·rw [O] at hd;cases hd
  ·exact e
 rw [O] at a1;obtain rfl:k=k':=a1;have ac:∀e∈(#[⟨.cell ⟨F.fd,k,none⟩,true,false⟩]:Array Event),∀a,(MemAct.ofEvent e).touch? =some a->a=⟨.cell ⟨F.fd,k,none⟩,true,.plain⟩:=by
  intro e he a K;simp at he;subst he;simp [MemAct.ofEvent,MemAct.touch?] at K;exact K.symm
 have a2:∀e∈(#[⟨.cell ⟨F.fd,k,none⟩,true,false⟩]:Array Event),e.loc≠ .mark (.release F.sA):=by
  intro e he;simp at he;subst he;simp
 have bi:∀e∈(#[⟨.cell ⟨F.fd,k,none⟩,true,false⟩]:Array Event),EvS F B.N0 j i e:=λe he=>
  ⟨λa K=>by have:=ac e he a K;subst this;exact⟨F.fd,rfl,.inr ⟨rfl,k,al,Z,rfl,rfl⟩⟩,a2 e he⟩
 have bo:BS t w gs.size (upd S i s₀) Sh:=h.B7.ghost U a7;have bv:BS (t++MemOp.ofEvents i g.frame.fn g.frame.place #[⟨.cell ⟨F.fd,k,none⟩,true,false⟩]) (F.Hj w (upd f k v0)) gs.size (upd S i s₀) Sh:=by
  refine bo.ext (h.EF.noRace h.B7.clean U (.inr (by omega)) bi) (λop am a bw b hb=>?_) (λop am=>?_) (V6 ..) (λb hb=>OZ _ _ λe=>hb (e▸h.IN))
  ·obtain⟨e,he,rfl⟩:=mem_ofEvents am;have:=ac e he a bw;subst this;have:b=F.fd:=by simpa [CH] using hb.symm
   subst this;exact h.IN
  ·obtain⟨e,he,rfl⟩:=mem_ofEvents am;simp at he;subst he;simp [MemAct.ofEvent,MemAct.low,Loc.low,a0]
 have b0:Cw F B.N0 (gs.size+c.toNat) j c (Cp c gs.size (upd φ i (.ph (.lk k .Gy)))) v wt' sm false:=by
  have ap:Cp c gs.size φ (B.N0+k)= .ph (.lk k .Fy):=by rw [← Z,IH Y (by omega)];exact O
  have:=h.Cx.Iq (v':=v) (wt':=wt') (sm':=sm) (cl':=false) al (x:= .ph (.lk k .Gy)) rfl (λa=>by rw [ap];simp) (by simp) (by rw [ap];rfl) λL S' a3 a4=>by
   rw [ap] at a3 a4;have b1:L=_:=a3;have b2:S'=_:=a4;rw [b1,b2];exact h.Cx.mode
  rwa [← Z,Nc Y (by omega)] at this
 have b3:EX F B.N0 B.t0 gs.size j (upd φ i (.ph (.lk k .Gy))) (upd S i s₀) (t++MemOp.ofEvents i g.frame.fn g.frame.place #[⟨.cell ⟨F.fd,k,none⟩,true,false⟩]):=by
  refine h.EF.app U (by rw [O];rfl) (λe he=>⟨λa b K hb b4=>?_,λa K hb=>?_,a2 e he⟩) (.inl (.inr (by omega))) (λk' aq a5 e he a b K hb hw=>?_) (λk' aq e a5=>a5.elim)
  ·have:=ac e he a K;subst this;have aw:b=F.fd:=by simpa [CH] using hb.symm
   subst aw;rcases b4 with e | e
   ·exact absurd e h.J2
   ·exact absurd e h.J4
  ·have:=ac e he a K;subst this;exact⟨k,al,Z,V,V⟩
  ·have:=ac e he a K;subst this;have aw:b=F.fd:=by simpa [CH] using hb.symm
   subst aw;exact(h.B7.sh (B.N0+k') (by omega) _ h.IN).2
 obtain⟨ρ,b5⟩:=be;have b6:LI gs.size (upd φ i (.ph (.lk k .Gy))) m q:=by
  refine h.lock.same U (λf=>?_) trivial;rw [O];by_cases e:f .Fy=f .Gy
  ·exact .inl e
  ·right;refine⟨?_,?_,?_,?_,?_,?_,?_,?_⟩ <;> rintro rfl <;> exact e rfl
 refine h.go' (f₁:=upd f k v0) hi (by rw [ag];exact bb w f h.Gj) b0 b6 b3 (ρ:=ρ) (.walk (by rw [ag];rfl) (λe=>by cases e) (by rw [ag];exact b5)) bv ?_ ?_ (XT _ _ a0) (λa b=>absurd b a) (λa b=>absurd b a) (λk' aq a6=>?_) (λe=>absurd e Y) (λe=>absurd e Y) V (.refl _) V λci=>TP U (by rw [O];simp [wt,Hq])
 ·show(F.Hj w (upd f k v0)).heap[F.wg]? =_;rw [OZ _ _ (Ne.symm h.J2)];exact h.wg
 ·show(F.Hj w (upd f k v0)).heap[F.mu]? =_;rw [OZ _ _ (Ne.symm h.J4)];exact h.Ji
 ·by_cases e:k'=k
  ·subst e;rw [← Z,upd_same,upd_same];exact a9
  ·rw [upd_ne _ _ e];rw [upd_ne _ _ (by omega)] at a6 ⊢;exact h.Iw k' aq a6
theorem UN{g g' o:Goroutine}(h:g'.status= .blocked):woken P g g' w o=o:=by
 unfold woken;rw [if_neg (by simp [h])]
theorem EX.aN{N0 t0 N:Nat}(h:EX F N0 t0 N j φ S t){i:Nat}{s':St}(U:∀k,k<j->late (φ (N0+k))->N0+k≠i):EX F N0 t0 N j φ (upd S i s') t:=
 ⟨h.deaf,h.above,h.plain,h.said,h.Gj,h.over,h.norel,h.Mf,λk K O=>by rw [upd_ne _ _ (U k K O)];exact h.rel k K O⟩
theorem Inv.block(h:Inv P F B gs w t φ r bt S Sh j c v wt' sm m q f){i:Nat}{g:Goroutine}(hi:gs[i]? =some g){p:Ph}(K:φ i= .ph p)(a3:bt i=true)(ac:(i==0)=Fam.Cv p){s₀:St}(ap:Cc (S i) s₀)(ag:Stop P F p g s₀)
  (al:(p= .Fw/\sm=0)∨((∃k sv,p= .lk k (.Co sv))/\q=0)):Ii P F B gs w sl t i (mu F gs.size φ m q r bt):=by
 have Y:i<gs.size:=(Array.getElem?_eq_some_iff.1 hi).1;have a8:=h.size;have a4:stepG P (i==0) g w= .go {g with status:= .blocked} w #[]:=by
  rw [ac];rcases al with⟨rfl,rfl⟩ | ⟨⟨k,sv,rfl⟩,rfl⟩
  ·exact ag.law.EZ V w v wt' h.wg
  ·exact ag.law.Co k sv V w m h.Ji
 have Z:PC p:=by
  rcases al with⟨rfl,_⟩ | ⟨⟨k,sv,rfl⟩,_⟩
  ·exact .inl V
  ·exact .inr ⟨k,sv,V⟩
 have a5:=Qu Z;have aq:=runT_crowd_go (P:=P) (sl:=sl) (i:=i) hi a4;have a6:(gs.map (woken P g {g with status:= .blocked} w)).setIfInBounds i {g with status:= .blocked}=gs.setIfInBounds i {g with status:= .blocked}:=by
  have:(woken P g {g with status:= .blocked} w)=id:=by funext o;exact UN V
  rw [this,Array.map_id]
 rw [a6,MK] at aq;have O:(gs.setIfInBounds i {g with status:= .blocked}).size=gs.size:=by simp
 have aw:t++(#[]:Trace)=t:=by simp
 have a7:∀k,k<j->late (φ (B.N0+k))->B.N0+k≠i:=by
  intro k a0 a1 e;rw [e,K] at a1;rcases Z with rfl | ⟨k',sv,rfl⟩
  ·rcases h.Eu Y with aw | ⟨_,d,hd,_⟩ | ⟨k',_,_,_,hw⟩
   ·have:=h.Cx.pos;omega
   ·rw [K] at hd;cases hd
   ·rw [K] at hw;exact hw
  ·exact a1
 refine⟨_,_,_,_,aq,.inl ⟨φ,r,upd bt i false,upd S i s₀,Sh,j,c,v,wt',sm,m,q,f,?_,?_⟩⟩
 ·rw [aw];refine⟨by rw [O];exact h.Cx,by rw [O];exact h.lock,by rw [O];exact h.EF.aN a7,λa o U=>?_,by rw [O];exact h.B7.ghost Y ap,h.HV,h.Iy,h.IN,h.Mo,h.J2,h.J4,h.HU,h.mn,h.wg,h.Ji,h.Gj,λa a2 hb=>?_,λk a0 am=>?_,?_,h.tape,h.os,h.output⟩
  ·by_cases e:a=i
   ·subst e;rw [Array.getElem?_setIfInBounds_self_of_lt Y] at U;obtain rfl:=Option.some.inj U;rw [upd_same,upd_same,K];have:loc (.ph p) s₀=s₀:=by simp [loc,HG,a5]
    rw [this];exact .blk Z ac ag
   ·rw [Array.getElem?_setIfInBounds_ne (Ne.symm e)] at U;rw [upd_ne _ _ e,upd_ne _ _ e];exact h.KD a o U
  ·by_cases e:a=i
   ·subst e;rcases al with⟨rfl,rfl⟩ | ⟨⟨k,sv,rfl⟩,rfl⟩
    ·have:a=0:=by simpa [Fam.Cv] using ac
     subst this;exact .inl ⟨V,K,V⟩
    ·exact .inr ⟨⟨k,sv,K⟩,V⟩
   ·rw [upd_ne _ _ e] at hb;rw [O] at a2;exact h.blk a a2 hb
  ·by_cases e:B.N0+k=i
   ·rw [e,K] at am;rcases Z with rfl | ⟨k',sv,rfl⟩ <;> exact am.elim
   ·rw [upd_ne _ _ e];exact h.Iw k a0 am
  ·by_cases e:0=i
   ·subst e;rw [upd_same];exact λb o U=>ap.ext b o (h.le b o U)
   ·rw [upd_ne _ _ e];exact h.le
 ·rw [O];have:=sumTo_upd bt false bit Y;rw [a3] at this;exact .inr ⟨V,.inr ⟨V,.inr ⟨V,V,.inr ⟨V,by show(sumTo gs.size λa=>bit (upd bt i false a))<sumTo gs.size λa=>bit (bt a);simp only [bit] at this ⊢;simp only [if_true,Bool.false_eq_true,if_false] at this;omega⟩⟩⟩⟩
theorem LI.push{N:Nat}(h:LI N φ m q)(Z:0<N){p0:Ph}{j:Nat}(O:∀k p,φ 0≠ .ph (.lk k p))(U:∀k p,p0≠ .lk k p):LI (N+1) (upd (upd φ N (.ph (.lk j .F1))) 0 (.ph p0)) m q:=by
 have Y:LI (N+1) (upd φ N (.ph (.lk j .F1))) m q:=by
  have e:∀f,f LP.F1=0->Sg f (N+1) (upd φ N (.ph (.lk j .F1)))=Sg f N φ:=by
   intro f ac;unfold Sg;simp only [sumTo];have:=sumTo_upd_out φ (.ph (.lk j .F1)) (C5 f) (i:=N) (j:=N) (Nat.le_refl _);rw [upd_same];show _+f .F1=_;omega
  refine⟨by rw [e pH rfl,e pN rfl,e pZ rfl,e pV rfl,e pT rfl,e pQ rfl,e pD rfl,e pX rfl];exact h.ln,λa ag=>?_⟩;by_cases K:a=N
  ·subst K;rw [upd_same];trivial
  ·rw [upd_ne _ _ K];exact h.loc a (by omega)
 exact Y.other (by omega) (by rw [upd_ne _ _ (by omega)];exact O) (λk p e=>U k p (Nx.ph.inj e))
theorem Inv.spawn(h:Inv P F B gs w t φ r bt S Sh j c v wt' sm m q f){g:Goroutine}(hi:gs[0]? =some g){K:Nat}(ac:φ 0= .ph (.FK K)){s₀:St}(bv:Cc (S 0) s₀)(b3:Stop P F (.FK K) g s₀):
  Ii P F B gs w sl t 0 (mu F gs.size φ m q r bt):=by
 have Y:0<gs.size:=(Array.getElem?_eq_some_iff.1 hi).1;obtain⟨rfl,c4,rfl⟩:K=j/\j<F.n/\c=false:=by
  obtain⟨p,bw,_,hh⟩:=h.main;rw [ac] at bw;cases bw;rcases hh with⟨e,hm⟩ | ⟨_,hm⟩
  ·exact⟨hm.1,hm.2.1,e⟩
  ·exact hm.elim
 obtain⟨g',child,c5,c6,b4,b5,b6⟩:=b3.law.go _ V;have ca:=h.size;have c7:=h.Cx.pos;have a6:=runT_crowd_spawn (P:=P) (sl:=sl) (i:=0) hi (show stepG P (0==0) g w=_ from b4 w);rw [MK] at a6;generalize cc:({g:=0,fn:=g.frame.fn,pos:=g.frame.place,act:= .go gs.size}:MemOp)=x at a6;generalize ce:({g:=gs.size,fn:=child.frame.fn,pos:=g.frame.place,act:= .start}:MemOp)=y at a6;have am:x.g=0/\x.act= .go gs.size:=by subst cc;exact⟨V,V⟩
 have ap:y.g=gs.size/\y.act= .start:=by subst ce;exact⟨V,V⟩
 have ci:((#[]:Trace).push x).push y= #[x,y]:=V;have al:((gs.setIfInBounds 0 g').push child).size=gs.size+1:=by simp
 have co:Fam.Cv (F.Et K)=true/\Fam.CG (F.Et K)=false/\FL (.ph (F.Et K))=0/\(∀k p,F.Et K≠ .lk k p):=by
  unfold Fam.Et;split <;> exact⟨rfl,rfl,rfl,by simp⟩
 obtain⟨cp,x2,ct,cw⟩:=co;let φ':Nat->Nx:=upd (upd φ gs.size (.ph (F.start K))) 0 (.ph (F.Et K));have f0:φ' 0= .ph (F.Et K):=upd_same _ _ _;have aq:φ' gs.size= .ph (F.start K):=by show upd _ _ _ _=_;rw [upd_ne _ _ (by omega),upd_same]
 have aw:∀a,a≠0->a≠gs.size->φ' a=φ a:=λa cy a9=>by show upd _ _ _ _=_;rw [upd_ne _ _ cy,upd_ne _ _ a9]
 have hu:∀op∈(#[x,y]:Array MemOp),op.act.touch? =none/\∀m,op.act≠ .mark m:=by
  intro op O;simp only [List.mem_toArray,List.mem_cons,List.not_mem_nil,or_false] at O;rcases O with rfl | rfl
  ·rw [am.2];exact⟨V,by simp⟩
  ·rw [ap.2];exact⟨V,by simp⟩
 have a0:=h.Cx.spawn (by rw [Jd];exact ac);rw [Jd] at a0;simp only [Bool.toNat_false,Nat.add_zero] at a0;have bb:∃a2,Cw F B.N0 (gs.size+1+a2.toNat) (K+1) a2 (Cp a2 (gs.size+1) φ') v wt' sm false:=by
  by_cases e:K+1=F.n
  ·refine⟨true,?_⟩;have be:F.Fu K= .GV:=by unfold Fam.Fu;rw [if_pos e]
   have e2:F.Et K= .Di:=by unfold Fam.Et;rw [if_pos e]
   have:=a0.Ze (by rw [upd_same,be]);have cJ:Cp true (gs.size+1) φ'=upd (upd (upd (upd φ gs.size (.ph (F.start K))) 0 (.ph (F.Fu K))) (gs.size+1) (.ph .Di)) 0 (.ph (.FG [] [])):=by
    funext a;unfold Cp;by_cases bi:a=gs.size+1
    ·subst bi;rw [if_pos ⟨rfl,rfl⟩,upd_ne _ _ (by omega),upd_same,f0,e2]
    ·rw [if_neg (by simp [bi])];by_cases ag:a=0
     ·subst ag;rw [if_pos ⟨rfl,rfl⟩,upd_same]
     ·rw [if_neg (by simp [ag]),upd_ne _ _ ag,upd_ne _ _ bi];show upd _ _ _ _=_;rw [upd_ne _ _ ag,upd_ne _ _ ag]
   rw [cJ];exact this
  ·refine⟨false,?_⟩;have be:F.Fu K=F.Et K:=by unfold Fam.Fu Fam.Et;rw [if_neg e,if_neg e]
   rw [be] at a0;rw [Jd];exact a0
 obtain⟨a2,bb⟩:=bb;have b0:BS t w gs.size (upd S 0 s₀) Sh:=h.B7.ghost Y bv;have cK:BS (t++ #[x,y]) w gs.size (upd S 0 s₀) Sh:=by
  refine b0.ext (λsaid=>?_) (λop O a a3=>by rw [(hu op O).1] at a3;cases a3) (λop O=>?_) V λ_ _=>V
  ·have e:t++ #[x,y]=(t++ #[x])++ #[y]:=by apply Array.ext';simp
   rw [e];exact noRace_append (g:=gs.size) (noRace_append (g:=0) (h.B7.clean said) (λop O=>by simp at O;subst O;exact am.1) λz a _ op O b hb _=>by rw [(hu op (by simp at O ⊢;exact .inl O)).1] at hb;cases hb)
    (λop O=>by simp at O;subst O;exact ap.1) λz a _ op O b hb _=>by rw [(hu op (by simp at O ⊢;exact .inr O)).1] at hb;cases hb
  ·simp only [List.mem_toArray,List.mem_cons,List.not_mem_nil,or_false] at O;rcases O with rfl | rfl
   ·rw [am.2];trivial
   ·rw [ap.2];trivial
 have cM:Deaf t 0=0:=by rw [h.EF.deaf 0 Y,ac];rfl
 have cO:BS (t++ #[x,y]) w (gs.size+1) (upd (upd S 0 s₀) gs.size ⟨s₀.E,λ_=>none,false⟩) Sh:=by
  refine cK.push (i:=0) Y (E:=s₀.E) (λb o a4=>by rw [upd_same];exact a4) λb hb z a cP cQ cR=>?_;have hold:touchAt t z=some a:=by
   obtain⟨op,a4,bo⟩:=touch_of cP;rcases getElem?_append_cases a4 with⟨_,cT⟩ | ⟨_,cV⟩
   ·rw [touchAt_of cT];exact bo
   ·rw [(hu op cV).1] at bo;cases bo
  exact fork_knows am ap cM (h.EF.above _ (Nat.le_refl _)) (b0.kE 0 Y b (by rw [upd_same];exact hb) z a hold cQ cR)
 have b1:∀k,k<K->upd (upd S 0 s₀) gs.size ⟨s₀.E,λ_=>none,false⟩ (B.N0+k)=S (B.N0+k):=λk b2=>by rw [upd_ne _ _ (by omega),upd_ne _ _ (by omega)]
 have cW:EX F B.N0 B.t0 (gs.size+1) (K+1) φ' (upd (upd S 0 s₀) gs.size ⟨s₀.E,λ_=>none,false⟩) (t++ #[x,y]):=by
  refine h.EF.spawn Y ca (λa a3=>?_) (by rw [aq];rfl) (by rw [ac];rfl) (λk b2 a7=>?_) am ap
  ·by_cases e:a=0
   ·subst e;rw [f0,ac,ct];rfl
   ·rw [aw a e (by omega)]
  ·by_cases e:k=K
   ·subst e;rw [show B.N0+k=gs.size by omega,aq] at a7;exact a7.elim
   ·rw [aw _ (by omega) (by omega)] at a7;exact⟨by omega,a7,by rw [b1 k (by omega)]⟩
 obtain⟨cX,cY⟩:=b6;obtain⟨cZ,c0⟩:=b5;have a5:∀{α:Type} (f:Nat->α) (a b:α),upd (upd f 0 a) gs.size b 0=a:=λf a b=>by rw [upd_ne _ _ (by omega),upd_same]
 have c1:∀s:St,loc (.ph (F.Et K)) s=s:=λs=>by simp [loc,HG,x2]
 refine⟨_,_,_,_,a6,.inl ⟨φ',upd (upd r 0 cX) gs.size cZ,upd (upd bt 0 true) gs.size true,upd (upd S 0 s₀) gs.size ⟨s₀.E,λ_=>none,false⟩,Sh,K+1,a2,v,wt',sm,m,q,f,?_,?_⟩⟩
 ·rw [ci];refine⟨by rw [al];exact bb,by rw [al];exact h.lock.push Y (λk p e=>by rw [ac] at e;cases e) cw,by rw [al];exact cW,λa o Z=>?_,by rw [al];exact cO,h.HV,h.Iy,h.IN,h.Mo,h.J2,h.J4,h.HU,(by rw [f0];unfold Fam.Et;split <;> simp),h.wg,h.Ji,h.Gj,λa a3 hb=>?_,λk b2 a8=>?_,?_,h.tape,h.os,h.output⟩
  ·by_cases e:a=0
   ·subst e;rw [Array.getElem?_push_lt (by simpa using Y)] at Z;simp at Z;subst Z;rw [f0,a5,a5,a5,c1];exact .walk cp.symm (λq=>by rw [x2] at q;cases q) cY
   ·by_cases U:a=gs.size
    ·subst U;have:child=o:=by
      rw [show gs.size=(gs.setIfInBounds 0 g').size by simp,Array.getElem?_push_size] at Z;exact Option.some.inj Z
     subst this;rw [aq,upd_same,upd_same,upd_same];have c2:(gs.size==0)=false:=by rw [beq_eq_false_iff_ne];omega
     rw [c2];exact .walk V (λq=>by cases q) c0
    ·rw [aw a e U,upd_ne _ _ U,upd_ne _ _ e,upd_ne _ _ U,upd_ne _ _ e,upd_ne _ _ U,upd_ne _ _ e];have:gs[a]? =some o:=by
      rw [Array.getElem?_push] at Z;simp [U] at Z;simpa [Array.getElem?_setIfInBounds_ne (Ne.symm e)] using Z
     exact h.KD a o this
  ·rw [al] at a3;by_cases e:a=0
   ·subst e;rw [a5] at hb;cases hb
   ·by_cases U:a=gs.size
    ·subst U;rw [upd_same] at hb;cases hb
    ·rw [upd_ne _ _ U,upd_ne _ _ e] at hb;rcases h.blk a (by omega) hb with⟨ag,_⟩ | ⟨⟨k,sv,a9⟩,c3⟩
     ·exact absurd ag e
     ·exact .inr ⟨⟨k,sv,by rw [aw a e U];exact a9⟩,c3⟩
  ·by_cases e:k=K
   ·subst e;rw [show B.N0+k=gs.size by omega,aq] at a8;exact a8.elim
   ·rw [aw _ (by omega) (by omega)] at a8;rw [b1 k (by omega)];exact h.Iw k (by omega) a8
  ·rw [a5];exact h.le.trans λb o a4=>bv.ext b o a4
 ·rw [al];refine bS ?_;simp only [sumTo];rw [aq];have a1:=sumTo_upd (upd φ gs.size (.ph (F.start K))) (.ph (F.Et K)) (wt F.n) Y;rw [upd_ne _ _ (by omega),ac] at a1;have c8:=sumTo_upd_out φ (.ph (F.start K)) (wt F.n) (i:=gs.size) (j:=gs.size) (Nat.le_refl _);have c9:wt F.n (.ph (F.start K))=23:=V;have da:wt F.n (.ph (.FK K))=5*F.n+85+50*(F.n - K):=V;have db:wt F.n (.ph (F.Et K))+30<=5*F.n+85+50*(F.n - K):=by
   unfold Fam.Et;split <;> simp only [wt] <;> omega
  show(sumTo gs.size λi=>wt F.n (upd (upd φ gs.size (.ph (F.start K))) 0 (.ph (F.Et K)) i))+_<_;omega
end
theorem BS.final{t:Trace}{w:World}{N:Nat}{S:Nat->St}{Sh:Nat->Prop}(h:BS t w N S Sh)(am:0<N){s':St}{fd:Nat}
  (Z:∀b o,s'.E b=some o->w.heap[b]? =some o/\¬Sh b/\∀x a,touchAt t x=some a->CH a.loc=some b->a.write=true->Knows t 0 x)
  (ac:∀b o,s'.H b=some o->w.heap[b]? =some o/\(¬Sh b∨b=fd)/\∀x a,touchAt t x=some a->CH a.loc=some b->Knows t 0 x)
  (hd:∀b,s'.E b≠none->s'.H b=none) (ap:s'.E fd=none):BS t w N (lone s') (λb=>Sh b/\b≠fd):=by
 have l0:lone s' 0=s':=V;have ln:∀i,i≠0->lone s' i= .quiet:=λi hi=>by simp [lone,hi]
 have Y:∀i b,i≠0->(lone s' i).E b=none:=λi b hi=>by rw [ln i hi];rfl
 have U:∀i b,i≠0->(lone s' i).H b=none:=λi b hi=>by rw [ln i hi];rfl
 refine⟨λi hi=>?_,λa b aq hb al x O=>?_,λi hi b hb=>?_,λb hb=>h.Gd b hb.1,h.clean,h.low,λi hi b hb x a O ag=>?_,λi hi b hb x a O ag hw=>?_⟩
 ·by_cases e:i=0
  ·subst e;rw [l0];exact⟨λb o K=>(Z b o K).1,λb o K=>(ac b o K).1,hd⟩
  ·exact⟨λb o K=>(by rw [Y i b e] at K;cases K),λb o K=>(by rw [U i b e] at K;cases K),λb hb=>U i b e⟩
 ·by_cases e:b=0
  ·subst e;rw [U a x al] at O;exact absurd V O
  ·exact⟨U b x e,Y b x e⟩
 ·by_cases e:i=0
  ·subst e;rw [l0];constructor
   ·cases O:s'.H b with
    | none=>rfl
    | some o=>rcases(ac b o O).2.1 with q | q;exact absurd hb.1 q;exact absurd q hb.2
   ·cases O:s'.E b with
    | none=>rfl
    | some o=>exact absurd hb.1 (Z b o O).2.1
  ·exact⟨U i b e,Y i b e⟩
 ·by_cases e:i=0
  ·subst e;obtain⟨o,K⟩:=H4 (x:=s'.H b) hb;exact(ac b o K).2.2 x a O ag
  ·rw [U i b e] at hb;exact absurd V hb
 ·by_cases e:i=0
  ·subst e;obtain⟨o,K⟩:=H4 (x:=s'.E b) hb;exact(Z b o K).2.2 x a O ag hw
  ·rw [Y i b e] at hb;exact absurd V hb
section
variable {P:Program}{F:Fam}{B:Base}{gs gs':Array Goroutine}{w w':World}{sl:Option (Nat×Nat)}{t:Trace}{φ:Nat->Nx}{r:Nat->Rk}{bt:Nat->Bool}{S:Nat->St}{Sh:Nat->Prop}{j:Nat}{c:Bool}{v wt' sm v₁ wt₁ sm₁:Nat}{m m₁:M4}{q q₁:Nat}{f f₁:Nat->Value}
theorem Inv.over(h:Inv P F B gs w t φ r bt S Sh j c v wt' sm m q f)(cR:∀k v E E',Le E E'->F.msg k v E->F.msg k v E'){g:Goroutine}(hi:gs[0]? =some g)(be:φ 0= .ph .Gf){s₀:St}(ca:Cc (S 0) s₀)(am:Stop P F .Gf g s₀)(cT:Mu):
  Ii P F B gs w sl t 0 cT:=by
 classical
 have ag:0<gs.size:=(Array.getElem?_eq_some_iff.1 hi).1;have c8:=h.size;have c9:=h.Cx.pos;obtain rfl:c=true:=by
  obtain⟨p,cc,_,hh⟩:=h.main;rw [be] at cc;cases cc;rcases hh with⟨_,hm⟩ | ⟨e,_⟩
  ·exact hm.elim
  ·exact e
 have da:j=F.n:=h.Cx.cj V;have bi:∀i,i≠0->i<gs.size->∃d,φ i= .gone d:=by
  intro i bo a5;rcases h.Eu a5 with e | ⟨_,d,hd,_⟩ | ⟨k,Z,cV,_,_⟩
  ·exact absurd e bo
  ·exact⟨d,hd⟩
  ·have:=h.Cx.Yt rfl (.inr (.inr (.inl (by rw [show B.N0+F.n=gs.size by omega,JM];exact be)))) k Z;rw [← cV,IH bo (by omega)] at this;cases U:φ i with
   | gone d=>exact⟨d,rfl⟩
   | ph p=>rw [U] at this;exact this.elim
 obtain⟨g',cW,cX⟩:=am.law.fin V;have ce:=runT_crowd_go (P:=P) (sl:=sl) (i:=0) hi (show stepG P (0==0) g w=_ from cW w);have ci:Deaf t 0=0:=by rw [h.EF.deaf 0 ag,be];rfl
 have bv:MemOp.ofEvents 0 g.frame.fn g.frame.place #[Fam.Cy (.acquire F.sA)]= #[{g:=0,fn:=g.frame.fn,pos:=g.frame.place,act:= .mark (.acquire F.sA)}]:=by rw [ofEvents_eq];simp [Fam.Cy,MemAct.ofEvent]
 generalize hu:MemOp.ofEvents 0 g.frame.fn g.frame.place #[Fam.Cy (.acquire F.sA)]=u at ce;have ap:∀op∈u,op.act.touch? =none/\op.g=0/\op.act.low w.heap.size:=by
  intro op aq;rw [← hu,bv] at aq;simp at aq;subst aq;exact⟨V,V,h.B7.Gd F.wg h.HV⟩
 have a6:(t++u)[t.size]? =some {g:=0,fn:=g.frame.fn,pos:=g.frame.place,act:= .mark (.acquire F.sA)}:=by rw [← hu,bv];simp
 have cY:(t++u).heard t.size:=⟨0,by simp [Trace.g?,a6],by rw [deaf_old (Nat.le_refl _)];exact ci⟩;have cZ:(t++u).g? t.size=some 0:=by simp [Trace.g?,a6]
 have c0:∀x,B.t0<=x->(t++u).act? x≠some (.mark (.release F.sA)):=OO h.EF.norel λop aq e=>by rw [← hu,bv] at aq;simp at aq;subst aq;cases e
 have bw:∀k,k<F.n->∃ρ,ρ<t.size/\RelBy F.sA t (B.N0+k) ρ/\KE t (S (B.N0+k)).E ρ/\HappensBefore (t++u) ρ t.size:=by
  intro k Z;obtain⟨d,hd⟩:=bi (B.N0+k) (by omega) (by omega);obtain⟨ρ,a,b,e⟩:=h.EF.rel k (by omega) (by rw [hd];trivial);have a7:ρ<t.size:=lt_of_act? b.act;refine⟨ρ,a7,b,e,.single (.inr ⟨.marked a7 (.inr (by rw [act?_old a7];exact b.act)) (by rw [act?_of a6]) λz Y al=>c0 z (by omega),(heard_old a7).2 b.heard,cY⟩)⟩
 have co:∀{x ρ},Before t x ρ->HappensBefore (t++u) ρ t.size->Knows (t++u) 0 x:=λY al=>⟨t.size,_,a6,rfl,.inr ((Y.app u).hb al)⟩;have cp:∀{x k},k<F.n->t.g? x=some (B.N0+k)->t.counts x->Knows (t++u) 0 x:=by
  intro x k Z ac aw;obtain⟨ρ,Y,al,_,a4⟩:=bw k Z;have hle:x<=ρ:=Nat.le_of_not_lt λa1=>al.after x a1 ac aw;refine co (ρ:=ρ) ?_ a4;rcases Nat.lt_or_ge x ρ with U | U
  ·exact .inr (.single (.inl ⟨U,_,ac,al.g⟩))
  ·exact .inl (by omega)
 have hold:∀{y a},touchAt (t++u) y=some a->touchAt t y=some a:=by
  intro y a U;obtain⟨op,O,b0⟩:=touch_of U;rcases getElem?_append_cases O with⟨a1,b1⟩ | ⟨_,b2⟩
  ·rw [touchAt_of b1];exact b0
  ·rw [(ap op b2).1] at b0;cases b0
 have a0:BS t w gs.size (upd S 0 s₀) Sh:=h.B7.ghost ag ca;have b3:BS (t++u) w gs.size (upd S 0 s₀) Sh:=a0.mute (g:=0) (λop O=>(ap op O).2.1) (λop O=>(ap op O).1) (λop O=>(ap op O).2.2) rfl;let K:Nat->Obj->Prop:=λb o=>s₀.E b=some o∨∃k,k<F.n/\(S (B.N0+k)).E b=some o;have b4:∀b o,K b o->w.heap[b]? =some o:=by
  rintro b o (Y | ⟨k,Z,Y⟩)
  ·exact(a0.fits 0 ag).e b o (by rw [upd_same];exact Y)
  ·exact(h.B7.fits (B.N0+k) (by omega)).e b o Y
 let E':LH:=λb=>if hb:∃o,K b o then some (Classical.choose hb) else none
 have b5:∀b o,E' b=some o->K b o:=by
  intro b o O;simp only [E'] at O;split at O
  ·rename_i hb;have:=Classical.choose_spec hb;rw [Option.some.inj O] at this;exact this
  ·cases O
 have ct:∀b o,K b o->E' b=some o:=by
  intro b o O;have hb:∃o,K b o:=⟨o,O⟩;have c1:E' b=some (Classical.choose hb):=by simp only [E'];rw [dif_pos hb]
  have e2:=b4 b _ (Classical.choose_spec hb);rw [b4 b o O] at e2;rw [c1,← Option.some.inj e2]
 have cw:Le s₀.E E':=λb o O=>ct b o (.inl O);have c2:∀k,k<F.n->Le (S (B.N0+k)).E E':=λk Z b o O=>ct b o (.inr ⟨k,Z,O⟩);have cy:∀b o,K b o->¬Sh b:=by
  rintro b o (Y | ⟨k,Z,Y⟩) hb
  ·have:=(a0.sh 0 ag b hb).2;rw [upd_same,Y] at this;cases this
  ·have:=(h.B7.sh (B.N0+k) (by omega) b hb).2;rw [Y] at this;cases this
 have b6:E' F.fd=none:=by
  cases U:E' F.fd with
  | none=>rfl
  | some o=>exact absurd h.IN (cy _ _ (b5 _ _ U))
 have cJ:∀b,E' b≠none->s₀.H b=none:=by
  intro b hb;obtain⟨o,O⟩:=H4 hb;rcases b5 b o O with Y | ⟨k,Z,Y⟩
  ·have:=(a0.fits 0 ag).d b (by rw [upd_same,Y];simp)
   rwa [upd_same] at this
  ·cases U:s₀.H b with
   | none=>rfl
   | some o'=>
    have:=(a0.hh 0 (B.N0+k) ag (by omega) (by omega) b (by rw [upd_same,U];simp)).2;rw [upd_ne _ _ (by omega),Y] at this;cases this
 have c3:∀k,k<F.n->F.msg k (f k) E':=λk Z=>by
  obtain⟨d,hd⟩:=bi (B.N0+k) (by omega) (by omega);exact cR _ _ _ _ (c2 k Z) (h.Iw k (by omega) (by rw [hd];trivial))
 have c4:=cX E' f cw b6 cJ c3;have cK:((gs.map (woken P g g' w)).setIfInBounds 0 g').size=gs.size:=by simp
 have c5:BS (t++u) w gs.size (lone ⟨E',F.JF s₀.H f,false⟩) (λb=>Sh b/\b≠F.fd):=by
  refine b3.final ag (λb o O=>?_) (λb o O=>?_) (λb hb=>?_) b6
  ·have Z:=b5 b o O;refine⟨b4 b o Z,cy b o Z,λx a U a2 hw=>?_⟩;rcases Z with Y | ⟨k,Z,Y⟩
   ·exact b3.kE 0 ag b (by rw [upd_same,Y];simp) x a U a2 hw
   ·obtain⟨ρ,_,_,c6,a4⟩:=bw k Z;exact co (c6 b (by rw [Y];simp) x a (hold U) a2 hw) a4
  ·simp only [Fam.JF] at O;split at O
   ·rename_i e;subst e;cases O;refine⟨h.Gj,.inr V,λx a U a2=>?_⟩;rcases h.EF.Gj x a (hold U) a2 with z | ⟨k,Z,ac,aw,_⟩
    ·exact(z 0 ag (.inl V)).app u
    ·exact cp (by omega) ac aw
   ·refine⟨(a0.fits 0 ag).h b o (by rw [upd_same];exact O),.inl λhb=>?_,λx a U a2=>b3.kH 0 ag b (by rw [upd_same,O];simp) x a U a2⟩;have:=(a0.sh 0 ag b hb).1;rw [upd_same,O] at this;cases this
  ·simp only [Fam.JF];rw [if_neg (λe=>by subst e;exact hb b6)];exact cJ b hb
 have c7:∀i g,i≠0->gs[i]? =some g->∃q d,φ i= .gone d/\QuitsD P q d g:=by
  intro i g hi ac;obtain⟨d,hd⟩:=bi i hi (Array.getElem?_eq_some_iff.1 ac).1;have am:=h.KD i g ac;rw [hd] at am;generalize U:Nx.gone d=x at am;generalize loc x (S i)=s at am;generalize r i=ρ at am;generalize bt i=db at am;cases am with
  | gone _ a8=>cases U;exact⟨_,_,hd,a8⟩
  | _=>cases U
 have a8:∀i,∃q,∀g,i≠0->gs[i]? =some g->QuitsD P q (Deaf t i) g:=by
  intro i;by_cases hi:i≠0/\i<gs.size
  ·obtain⟨q,d,Y,al⟩:=c7 i _ hi.1 (Array.getElem?_eq_getElem hi.2);refine⟨q,λg _ ac=>?_⟩;rw [Array.getElem?_eq_getElem hi.2] at ac;obtain rfl:=Option.some.inj ac;rw [h.EF.deaf i hi.2,Y];exact al
  ·exact⟨0,λg Y al=>absurd ⟨Y,(Array.getElem?_eq_some_iff.1 al).1⟩ hi⟩
 have cM:∀i,i≠0->Deaf (t++u) i=Deaf t i:=λi hi=>Deaf_other t (Ne.symm hi) u λop O=>(ap op O).2.1;refine⟨_,_,_,_,ce,.inr ⟨λi=>Classical.choose (a8 i),λb=>Sh b/\b≠F.fd,g',⟨E',F.JF s₀.H f,false⟩,⟨by simp [ag],⟨λi x bo U=>?_,λi a5=>?_⟩,by rw [cK];exact c5,λx a9 ac a3 aw=>?_,?_⟩,c4,?_,h.tape,h.os,h.output⟩⟩
 ·have a3:i≠0:=by omega
  rw [Array.getElem?_setIfInBounds_ne (Ne.symm a3),Array.getElem?_map] at U;obtain⟨o',b1,rfl⟩:=Option.map_eq_some_iff.1 U;have cO:=Classical.choose_spec (a8 i) o' a3 b1;rw [woken_quitsD cO,cM i a3];exact cO
 ·rw [cK] at a5;rw [cM i (by omega)];exact h.EF.above i a5
 ·have:=OV h.EF.over (u:=u) (N0:=B.N0) (N:=gs.size) (λop O=> .inl (ap op O).2.1) x a9 ac a3 aw;rcases this with z | ⟨z1,dc⟩
  ·exact z
  ·have bb:x<t.size:=by
    rcases Nat.lt_or_ge x t.size with z | z
    ·exact z
    ·obtain⟨op,O,cP⟩:=Option.map_eq_some_iff.1 ac;rcases getElem?_append_cases O with⟨a1,_⟩ | ⟨_,b2⟩
     ·exact a1
     ·rw [(ap op b2).2.1] at cP;exact absurd cP.symm a3
   obtain⟨dd,z,de,df,dg⟩:=cp (k:=a9 - B.N0) (by omega) (by rw [← g?_old (u:=u) bb,ac];congr 1;omega) ((counts_old bb).1 aw);refine⟨t.size,cZ,?_⟩;obtain⟨ρ,Y,al,_,a4⟩:=bw (a9 - B.N0) (by omega);have cQ:t.g? x=some (B.N0+(a9 - B.N0)):=by rw [← g?_old (u:=u) bb,ac];congr 1;omega
   have hle:x<=ρ:=Nat.le_of_not_lt λa1=>al.after x a1 cQ ((counts_old bb).1 aw);have hb:Before t x ρ:=by
    rcases Nat.lt_or_ge x ρ with U | U
    ·exact .inr (.single (.inl ⟨U,_,cQ,al.g⟩))
    ·exact .inl (by omega)
   exact(hb.app u).hb a4
 ·have:=Deaf_own t 0 g.frame.fn g.frame.place #[Fam.Cy (.acquire F.sA)];rw [hu] at this;rw [this,ci];rfl
 ·exact(h.le.trans λb o O=>ca.ext b o O).trans cw
end
theorem LN.busy{m:M4}{h rn rs v t s d x:Nat}(Z:LN m 0 h rn rs v t s d x)(am:1<=s):1<=h+rn+rs+v+t+d+x:=by
 obtain⟨O,ac,ag⟩:=Z;cases hm:m.s with
 | true=>have:=(ag hm).2.2.2.1;rw [← O] at this;omega
 | false=>
  obtain⟨a1,ap,K,aq,al⟩:=ac hm;cases Y:m.l with
  | true=>rw [Y] at O;simp at O;omega
  | false=>
   cases U:m.k with
   | true=>rw [U] at K;simp at K;omega
   | false=>
    rw [U] at K;simp at K;have:=al Y U (by omega);omega
section
variable {P:Program}{F:Fam}{B:Base}{gs gs':Array Goroutine}{w w':World}{sl:Option (Nat×Nat)}{t:Trace}{φ:Nat->Nx}{r:Nat->Rk}{bt:Nat->Bool}{S:Nat->St}{Sh:Nat->Prop}{j:Nat}{c:Bool}{v wt' sm v₁ wt₁ sm₁:Nat}{m m₁:M4}{q q₁:Nat}{f f₁:Nat->Value}
theorem Wn{N:Nat}{f:Nat->Nat}(h:1<=sumTo N f):∃i,i<N/\1<=f i:=by
 induction N with
 | zero=>simp [sumTo] at h
 | succ N K=>
  simp only [sumTo] at h;by_cases e:1<=f N
  ·exact⟨N,by omega,e⟩
  ·obtain⟨i,hi,O⟩:=K (by omega);exact⟨i,by omega,O⟩
theorem Inv.runs(h:Inv P F B gs w t φ r bt S Sh j c v wt' sm m q f):∃(i:Nat) (g:Goroutine),gs[i]? =some g/\g.status= .running:=by
 have b5:=h.Cx.pos;have b6:=h.size;have aq:0<gs.size:=by omega
 have ag:∀i (hi:i<gs.size) p,φ i= .ph p->bt i=true->∃(i:Nat) (g:Goroutine),gs[i]? =some g/\g.status= .running:=by
  intro i hi p U hb;refine⟨i,_,Array.getElem?_eq_getElem hi,?_⟩;have K:=h.KD i _ (Array.getElem?_eq_getElem hi);rw [U,hb] at K;generalize loc (Nx.ph p) (S i)=s at K;generalize a9:Nx.ph p=x at K;generalize bb:true=b at K;generalize gs[i]=o at K ⊢;generalize r i=ρ at K;cases K with
  | walk _ _ aw=>exact aw.running
  | blk _ _ _=>cases bb
  | gone _ _=>cases a9
 obtain⟨p0,ac,be,hh⟩:=h.main;cases a0:bt 0 with
 | true=>exact ag 0 aq p0 ac a0
 | false=>
  obtain⟨U,ca⟩:φ 0= .ph .Fw/\sm=0:=by
   rcases h.blk 0 aq a0 with⟨_,a,b⟩ | ⟨⟨k,sv,a⟩,_⟩
   ·exact⟨a,b⟩
   ·rw [ac] at a;cases a;cases be
  rw [U] at ac;cases ac;obtain⟨rfl⟩:c=true:=by
   rcases hh with⟨_,hm⟩ | ⟨e,_⟩
   ·exact hm.elim
   ·exact e
  have aw:j=F.n:=h.Cx.cj V;have a1:=h.Cx.mode;rw [if_pos rfl,show B.N0+F.n=gs.size by omega,JM,U] at a1;obtain⟨bi,_,_⟩:=a1;have al:=h.Cx.cnt;have a2:Cp true gs.size φ 0= .ph (.FG [] []):=by simp [Cp];omega
  rw [a2] at al;simp only [pend,Nat.add_zero] at al;have hex:∃i,i<gs.size+1/\1<=cU (Cp true gs.size φ i)+cL (Cp true gs.size φ i)+cS (Cp true gs.size φ i):=by
   apply Classical.byContradiction;intro bo;have am:∀i,i<gs.size+1->cU (Cp true gs.size φ i)=0/\cL (Cp true gs.size φ i)=0/\cS (Cp true gs.size φ i)=0:=λi hi=>by
    have:¬1<=cU (Cp true gs.size φ i)+cL (Cp true gs.size φ i)+cS (Cp true gs.size φ i):=λq=>bo ⟨i,hi,q⟩;omega
   have zero:∀f:Nat->Nat,(∀i,i<gs.size+1->f i=0)->sumTo (gs.size+1) f=0:=λf bv=>by
    have:=sumTo_le (f:=f) (c:=0) (j:=gs.size+1) (λi hi=>by rw [bv i hi];exact Nat.le_refl _);omega
   have z1:=zero (λi=>cU (Cp true gs.size φ i)) λi hi=>(am i hi).1;have cc:=zero (λi=>cL (Cp true gs.size φ i)) λi hi=>(am i hi).2.1;have ce:=zero (λi=>cS (Cp true gs.size φ i)) λi hi=>(am i hi).2.2;simp only [Bool.toNat_true] at bi al;omega
  obtain⟨i,hi,O⟩:=hex;have a3:i≠0:=by rintro rfl;rw [a2] at O;simp [cU,cL,cS] at O
  have bw:i≠gs.size:=by rintro rfl;rw [JM,U] at O;simp [cU,cL,cS] at O
  rw [IH a3 bw] at O;have ap:i<gs.size:=by omega
  cases a4:φ i with
  | gone d=>rw [a4] at O;simp [cU,cL,cS] at O
  | ph pi=>
   cases a5:bt i with
   | true=>exact ag i ap pi a4 a5
   | false=>
    obtain⟨⟨k,sv,b0⟩,b1⟩:(∃k sv,φ i= .ph (.lk k (.Co sv)))/\q=0:=by
     rcases h.blk i ap a5 with⟨e,_⟩ | e
     ·exact absurd e a3
     ·exact e
    subst b1;have b2:1<=Sg pQ gs.size φ:=by
     have:=le_sumTo (f:=λa=>C5 pQ (φ a)) ap;have e:C5 pQ (φ i)=1:=by rw [b0];rfl
     simp only [e] at this;exact this
    have hb:=h.lock.ln.busy b2;have b3:1<=Sg (λp=>(((((pH p+pN p)+pZ p)+pV p)+pT p)+pD p)+pX p) gs.size φ:=by
     rw [JH,JH,JH,JH,JH,JH];exact hb
    obtain⟨a,a6,Y⟩:=Wn b3;cases Z:φ a with
    | gone d=>rw [Z] at Y;simp [C5] at Y
    | ph b4=>
     rw [Z] at Y;cases b4 <;> (try (simp [C5] at Y;done))
     rename_i k' l;cases a7:bt a with
     | true=>exact ag a a6 _ Z a7
     | false=>
      rcases h.blk a a6 a7 with⟨e,a8,_⟩ | ⟨⟨ci,co,e⟩,_⟩
      ·subst e;rw [Z] at a8;cases a8
      ·rw [Z] at e;cases e;simp [C5,pH,pN,pZ,pV,pT,pD,pX] at Y
theorem Inv.step(h:Inv P F B gs w t φ r bt S Sh j c v wt' sm m q f)(am:∀k v E E',Le E E'->F.msg k v E->F.msg k v E'):
  ∃gs' w' aw u,stepT P (crowd gs w sl)=(.next (crowd gs' w' aw),u)/\
  ((∃φ' r' a8 S' b0 ap b1 v' b2 sm' m' q' b3,Inv P F B gs' w' (t++u) φ' r' a8 S' b0 ap b1 v' b2 sm' m' q' b3/\Mu.lt (mu F gs'.size φ' m' q' r' a8) (mu F gs.size φ m q r bt))∨P5 P F B gs' w' (t++u)):=by
 have cM:=h.size;have b4:∀x∈gs,awake x:=by
  intro x K;obtain⟨i,hi,rfl⟩:=Array.mem_iff_getElem.1 K;exact(h.KD i _ (Array.getElem?_eq_getElem hi)).awake
 obtain⟨i,g,d,aw,hi,a9,b5⟩:=crowd_pick (P:=P) (w:=w) (sl:=sl) b4 h.runs
 suffices Ii P F B gs (w.at d) aw t i (mu F gs.size φ m q r bt) by
  obtain⟨gs',w',b6,u,a0,a1⟩:=this;exact⟨gs',w',b6,u,b5.trans a0,a1⟩
 have O:=h.at_ d;have bb:i<gs.size:=(Array.getElem?_eq_some_iff.1 hi).1;have ac:=h.KD i g hi;generalize K:φ i=x at ac;generalize be:r i=ρ at ac;generalize hb:bt i=b at ac;generalize bi:loc x (S i)=s at ac;cases ac with
 | blk _ _ _=>cases a9
 | gone hm bo=>exact O.slip hi a9 K be hm bo
 | @walk p _ _ _ hm bo a2=>
  have ca:JQ (Stop P F p) g s∨∃f,ρ= .node f/\(∀w,Fits s w->∃g' s' w' es,stepG P (i==0) g w= .go g' w' es/\Jr P (i==0) (JQ (Stop P F p)) (f w) g' s'/\Fits s' w'/\Fr s w s' w'/\(∀e∈es,Ev s w w' e)/\(s= .quiet->s'= .quiet/\w'=w/\es= #[])):=by
   cases ρ with
   | leaf=>exact .inl a2
   | node f=>
    rcases a2 with q | ⟨_,q⟩
    ·exact .inl q
    ·exact .inr ⟨f,V,q⟩
  rcases ca with⟨s₀,bv,U⟩ | ⟨f0,rfl,hgo⟩
  ·subst bi;have Y:Fam.CG p=false->Cc (S i) s₀:=λe=>by simpa [loc,HG,e] using bv
   by_cases c1:∃k l,p= .lk k l
   ·obtain⟨k,l,rfl⟩:=c1;by_cases c2:l= .Fy
    ·subst c2;exact O.store hi K hm (Y V) U
    by_cases c3:(∃sv,l= .Co sv)/\q=0
    ·obtain⟨⟨sv,rfl⟩,c3⟩:=c3;exact O.block hi K hb hm (Y V) U (.inr ⟨⟨k,sv,V⟩,c3⟩)
    exact O.BV am hi K c2 hm (Y V) U λsv e a3=>c3 ⟨⟨sv,e⟩,a3⟩
   by_cases c2:∃ap,p= .FK ap
   ·obtain⟨ap,rfl⟩:=c2;have ag:i=0:=by simpa [Fam.Cv] using hm
    subst ag;exact O.spawn hi K (Y V) U
   by_cases c3:p= .Gf
   ·subst c3;have ag:i=0:=by simpa [Fam.Cv] using hm
    subst ag;exact O.over am hi K (Y V) U _
   by_cases c4:p= .Fw/\sm=0
   ·obtain⟨rfl,c4⟩:=c4;exact O.block hi K hb hm (Y V) U (.inl ⟨V,c4⟩)
   have cc:∃a4,a4<gs.size+c.toNat/\Cp c gs.size φ a4= .ph p:=by
    by_cases e:i=0
    ·subst e;cases c with
     | false=>exact⟨0,by omega,by rw [Jd];exact K⟩
     | true=>exact⟨gs.size,by simp,by rw [JM];exact K⟩
    ·exact⟨i,by omega,by rw [IH e (by omega)];exact K⟩
   have ce:p= .Fw->sm=1:=by
    rintro rfl;have ag:i=0:=by simpa [Fam.Cv] using hm
    subst ag;obtain⟨p0,al,_,hh⟩:=h.main;rw [K] at al;cases al;obtain rfl:c=true:=by
     rcases hh with⟨_,hm⟩ | ⟨e,_⟩
     ·exact hm.elim
     ·exact e
    have a2:=h.Cx.cj V;have bw:=h.Cx.mode;rw [if_pos rfl,show B.N0+F.n=gs.size by omega,JM,K] at bw;obtain⟨cO,_⟩:=bw;have:sm≠0:=λq=>c4 ⟨rfl,q⟩;omega
   obtain⟨a4,ci,co⟩:=cc;have aq:(∀k,p≠ .Hf k)/\p≠ .GV/\(∀a5 vs,p≠ .FG a5 vs)/\p≠ .HF:=by
    by_cases e:i=0
    ·subst e;have a6:=h.mn;rw [K] at a6;obtain⟨p0,al,_,hh⟩:=h.main;rw [K] at al;cases al;refine⟨λk e=>?_,λe=>?_,λa5 vs e=>?_,λe=>?_⟩
     ·subst e;rcases hh with⟨_,Z⟩ | ⟨_,Z⟩ <;> exact Z.elim
     ·subst e;exact a6.1 V
     ·subst e;rcases hh with⟨e,Z⟩ | ⟨_,Z⟩
      ·have:=Z.2;rw [e] at this;cases this
      ·exact Z.elim
     ·subst e;exact a6.2 V
    ·rcases h.Eu bb with a3 | ⟨_,d,hd,_⟩ | ⟨k',cP,cQ,_,hw⟩
     ·exact absurd a3 e
     ·rw [K] at hd;cases hd
     ·rw [K] at hw;refine⟨λk e=>?_,λe=>?_,λa5 vs e=>?_,λe=>?_⟩ <;> subst e
      ·exact absurd hw.2 Bool.false_ne_true
      all_goals exact hw.elim
   obtain⟨v',w',sm',es,cR,cp⟩:=h.Cx.enabled ci co aq.1 (λk e=>c2 ⟨k,e⟩) aq.2.1 aq.2.2.1 aq.2.2.2 ce c3 λk l e=>c1 ⟨k,l,e⟩;exact O.act am hi K hm bv U cp
  ·subst bi;have ct:Fits (loc (.ph p) (S i)) (w.at d):=by
    have:=O.B7.fits i bb;unfold loc;split
    ·exact⟨λb o a7=>(by cases a7),λb o a7=>(by cases a7),λb hb=>V⟩
    ·exact this
   obtain⟨g',s',w',es,a0,a1,cw,cy,cJ,cK⟩:=hgo (w.at d) ct;exact O.own am hi K hm a0 a1 cw cy cJ cK (by rw [be];exact⟨f0,_,rfl,rfl⟩)
theorem Inv.run(Z:∀k v E E',Le E E'->F.msg k v E->F.msg k v E'):∀(K:Mu) (gs:Array Goroutine) (w:World) (sl:Option (Nat×Nat)) (t:Trace) (φ:Nat->Nx) (r:Nat->Rk) (bt:Nat->Bool) (S:Nat->St) (Sh:Nat->Prop) (j:Nat) (c:Bool) (v wt' sm:Nat) (m:M4) (q:Nat) (f:Nat->Value),
  mu F gs.size φ m q r bt=K->Inv P F B gs w t φ r bt S Sh j c v wt' sm m q f->∃n gs' w' O U,runNT P n (crowd gs w sl) t=(.next (crowd gs' w' O),U)/\P5 P F B gs' w' U:=by
 intro K
 induction K using Mu.wf.induction with
 | _ K ac=>
  intro gs w sl t φ r bt S Sh j c v wt' sm m q f ag h;obtain⟨gs',w',O,u,Y,hh⟩:=h.step (sl:=sl) Z;rcases hh with⟨φ',r',al,S',am,ap,aq,v',aw,sm',m',q',a0,a1,a2⟩ | a3
  ·obtain⟨n,a4,a5,a6,a7,a8,a9⟩:=ac _ (ag▸a2) gs' w' O (t++u) φ' r' al S' am ap aq v' aw sm' m' q' a0 V a1;exact⟨n+1,a4,a5,a6,a7,MO Y a8,a9⟩
  ·exact⟨1,gs',w',O,t++u,MO Y V,a3⟩
end
def JD(H:LH)(a b c:Nat):LH:=λx=>if x=c then none else if x=b then none else if x=a then none else H x
theorem YA{P:Program}(F:Fam){Q:GP}{g:Goroutine}{s:St}{f₀:Nat->Value}(a0:1<=F.n)(a8:F.n<134217728)(a9:∀k v E E',Le E E'->F.msg k v E->F.msg k v E')
  (a1:F.mu≠F.wg) (a2:F.fd≠F.wg) (a3:F.fd≠F.mu) (ac:s.H F.wg=some (F.HT 0 0)) (ag:s.H F.mu=some (F.HQ 0 0)) (am:s.H F.fd=some (F.It f₀))
  (bb:Way P true (Stop P F (.Gc 0)) g ⟨s.E,JD s.H F.wg F.mu F.fd,false⟩) (be:∀g s,F.fin g s->(GK P).ok Q g s):(GK P).ok Q g s:=by
 intro gs w sl t q Sh hC;have Y:0<gs.size:=(Array.getElem?_eq_some_iff.1 hC.main).1;let s1:St:={s with H:=λb=>if b=F.wg then none else s.H b}
 let s2:St:={s with H:=λb=>if b=F.mu then none else s1.H b}
 have a4:lone s 0=s:=V;have c1:BS t w gs.size (upd (lone s) 0 s1) (λb=>Sh b∨b=F.wg):=by
  have:=hC.B7.share (i:=0) Y (b₀:=F.wg) (o₀:=F.HT 0 0) (by rw [a4];exact ac);exact this
 have c2:BS t w gs.size (upd (upd (lone s) 0 s1) 0 s2) (λb=>(Sh b∨b=F.wg)∨b=F.mu):=by
  have:=c1.share (i:=0) Y (b₀:=F.mu) (o₀:=F.HQ 0 0) (by rw [upd_same];simp [s1,a1,ag]);refine this.congr λi hi=>?_;by_cases e:i=0
  ·subst e;simp only [upd_same];exact⟨V,V⟩
  ·have h:∀(f:Nat->St) (x:St),upd f 0 x i=f i:=λf x=>upd_ne f x e;constructor <;> simp only [h]
 have c3:BS t w gs.size (upd (upd (upd (lone s) 0 s1) 0 s2) 0 ⟨s.E,JD s.H F.wg F.mu F.fd,false⟩) (λb=>((Sh b∨b=F.wg)∨b=F.mu)∨b=F.fd):=by
  have:=c2.share (i:=0) Y (b₀:=F.fd) (o₀:=F.It f₀) (by rw [upd_same];simp [s2,s1,a2,a3,am]);refine this.congr λi hi=>?_;by_cases e:i=0
  ·subst e;simp only [upd_same];exact⟨V,V⟩
  ·have h:∀(f:Nat->St) (x:St),upd f 0 x i=f i:=λf x=>upd_ne f x e;constructor <;> simp only [h]
 have Z:∀b,s.H b≠none->∀x a,touchAt t x=some a->CH a.loc=some b->Knows t 0 x:=λb hb=>hC.B7.kH 0 Y b (by rw [a4];exact hb);have ap:=hC.B7.fits 0 Y;obtain⟨ρ,bi⟩:=bb;let φ:Nat->Nx:=λi=>if i=0 then .ph (.Gc 0) else .gone (Deaf t i)
 have z:∀f:Nx->Nat,(∀d,f (.gone d)=0)->f (.ph (.Gc 0))=0->(sumTo gs.size λi=>f (φ i))=0:=by
  intro f a5 a6;have:=sumTo_le (f:=λi=>f (φ i)) (c:=0) (j:=gs.size) λi _=>by
   show f (φ i)<=0;by_cases e:i=0
   ·simp [φ,e,a6]
   ·simp [φ,e,a5]
  omega
 have O:∀f:LP->Nat,Sg f gs.size φ=0:=λf=>z (C5 f) (λ_=>rfl) rfl;have bo:∀i,(upd (upd (upd (lone s) 0 s1) 0 s2) 0 ⟨s.E,JD s.H F.wg F.mu F.fd,false⟩) i=if i=0 then⟨s.E,JD s.H F.wg F.mu F.fd,false⟩ else .quiet:=by
  intro i;by_cases e:i=0
  ·subst e;rw [upd_same];rfl
  ·rw [upd_ne _ _ e,upd_ne _ _ e,upd_ne _ _ e];simp [lone,e]
 have bv:F.HT (Fam.word 0 0) (0:Nat)=F.HT 0 0:=by simp [Fam.word]
 have bw:F.HQ M4.zero.num (0:Nat)=F.HQ 0 0:=by simp [M4.num,M4.zero]
 have a7:∀i,i<gs.size->(i=0∨gs.size<=i)->i=0:=λi hi al=>by omega
 have b0:Inv P F ⟨gs.size,t.size,s.E,w⟩ gs w t φ (λi=>if i=0 then ρ else chain (q i)) (λ_=>true) (upd (upd (upd (lone s) 0 s1) 0 s2) 0 ⟨s.E,JD s.H F.wg F.mu F.fd,false⟩) (λb=>((Sh b∨b=F.wg)∨b=F.mu)∨b=F.fd) 0 false 0 0 0 M4.zero 0 f₀:=by
  refine⟨?_,⟨?_,λi hi=>?_⟩,⟨λi hi=>?_,λi hi=>hC.lv.above i hi,λx a b K hb aq U i hi al=>?_,λx a b K hb aq U=>?_,λx a K hb=> .inl λi hi al=>?_,λx g b1 b2 b3=> .inl (hC.over x g b1 b2 b3),λx K e=>?_,Nat.le_refl _,λk U=>by omega⟩,λi g' aw=>?_,c3,.inl (.inl (.inr V)),.inl (.inr V),.inr V,a1,a2,a3,a8,by simp [φ],?_,?_,ap.h _ _ am,λi hi hb=>(by cases hb),λk U=>(by omega),?_,V,.refl _,V⟩
  ·rw [Jd];refine⟨Y,a0,by omega,by simp,Nat.zero_le _,by simp,⟨.Gc 0,V,V,a0,V⟩,λi a5 a6=>?_,λk U=>by omega,by simp,?_,by simp [φ,pend],?_,λk U=>by omega,.nil,λk U=>by cases U⟩
   ·have:i≠0:=by omega
    simp [φ,this,NI]
   ·have:=z cU (λ_=>rfl) rfl;simp only [Bool.toNat_false,Nat.add_zero];rw [this];simp [φ,pend]
   ·simp only [Bool.false_eq_true,if_false,Dr];exact⟨z cL (λ_=>V) V,z cS (λ_=>V) V,trivial,trivial,trivial⟩
  ·rw [O,O,O,O,O,O,O,O];simp [LN,M4.zero]
  ·by_cases e:i=0
   ·simp [φ,e,N4]
   ·simp [φ,e,N4]
  ·by_cases e:i=0
   ·subst e;simp [φ,FL];exact hC.hears
   ·simp [φ,e,FL]
  ·obtain rfl:=a7 i hi al;rcases aq with rfl | rfl
   ·exact Z _ (by rw [ac];simp) x a K hb
   ·exact Z _ (by rw [ag];simp) x a K hb
  ·rcases aq with rfl | rfl
   ·exact Z _ (by rw [ac];simp) x a K hb
   ·exact Z _ (by rw [ag];simp) x a K hb
  ·obtain rfl:=a7 i hi al;exact Z _ (by rw [am];simp) x a K hb
  ·have:=lt_of_act? e;have cV:t.size<=x:=K;omega
  ·rw [bo];by_cases e:i=0
   ·subst e;rw [hC.main] at aw;obtain rfl:=Option.some.inj aw;simp only [if_true,φ];exact .walk V (λh=>by cases h) bi
   ·have hm:(i==0)=false:=by rw [beq_eq_false_iff_ne];exact e
    simp only [e,if_false,φ];exact .gone hm (hC.lv.old i g' (by omega) aw)
  ·show w.heap[F.wg]? =_;rw [bv];exact ap.h _ _ ac
  ·show w.heap[F.mu]? =_;rw [bw];exact ap.h _ _ ag
  ·rw [upd_same];exact Le.refl _
 obtain⟨n,gs',w',b4,b5,b6,q',ca,g',s',cc,ce,hle,ci,co,cp⟩:=Inv.run a9 _ _ _ sl _ _ _ _ _ _ _ _ _ _ _ _ _ _ V b0;obtain⟨n2,ct,w2,cw,t2,cy,cJ,g2,cK,k1,cM,cO,cP,cQ,cR,cT⟩:=be g' s' ce gs' w' b4 b5 q' ca cc;refine⟨n+n2,ct,w2,cw,t2,cy,cJ,g2,cK,?_,cM,cO,λb o h=>cP b o (hle b o h),cQ.trans ci,co.trans cR,cT.trans cp⟩;rw [runNT_add,b6];exact k1
end Pal
namespace Pal
open Go Go.Conc
variable {ops:Ao_}{i:Nat}{rest:List Nat}{d:Option Tmp}{f:FuncId}{args:Array Operand}{ats:Array TypeId}{ty:TypeId}{pp:String}{af:Ae_}{g:On_}{vs:Lv_}{p q:Ph}
section
variable {P:Program}{F:Fam}{J:Judge P}{Q:GP}{n:Nat}{L L':Env}{ds:Ld_}{k:Li_}{cs:Lf_}{s s':St}{b:Frame}{main:Bool}
theorem BI(hb:b.roundOf=none)(T:Av_)(todo:Li_):fr b T ds todo=b.at ⟨T,ds⟩ todo:=by simp [fr,Frame.at,hb]
theorem KS(hb:b.roundOf=none)(T:Av_)(todo:Li_):Ej b T ds todo={b.at ⟨T,ds⟩ todo with mode:= .returning}:=by simp [Ej,Frame.at,hb]
theorem Ez(T:Av_)(ds:Ld_)(x:Operand):(⟨T,ds⟩:Act).eval x=Bu T x:=by cases x <;> rfl
theorem DU(T:Av_)(ds:Ld_)(d:Option Tmp)(v:Value):(⟨T,ds⟩:Act).put d v=⟨CC T d v,ds⟩:=by cases d <;> rfl
def JO(J:Judge P)(Q:GP)(b:Frame)(n:Nat)(L:Env)(ds:Ld_)(cs:Lf_)(s:St):Prop:=
 ∀T,Has n L T->∀todo,J.ok Q (G (Ej b T ds todo) cs) s
theorem JL.out(K:b.roundOf=none)(h:JO J Q b n L ds cs s):JL J Q b n L ds [] cs s:=λT O=>
 Judge.C8 V (λw=>by simp [G,stepG,stepG.exec,fr,Ej,K]) (h T O [])
theorem H5(K:b.roundOf=none)(h:JO J Q b n L ds cs s):JL J Q b n L ds (.code .ret::k) cs s:=λT O=>
 Judge.C8 V (λw=>by simp [G,stepG,stepG.exec,fr,Ej,K]) (h T O (.code .ret::k))
theorem JO.leave{c:Frame}{v:Value}(O:b.kind= .normal)(K:By P b.fn L n s v)(h:J.ok Q (G (c.finish v) cs) s):JO J Q b n L [] (c::cs) s:=λT U todo=>by
 obtain⟨fn,Y,K⟩:=K
 exact Judge.leave O Y (K T U) h
theorem JO.leaveD{c:Frame}{fn:Func}(O:b.kind= .deferred)(U:P.funcs[b.fn]? =some fn)(K:fn.results= #[])(Y:c.mode= .returning∨c.mode= .panicking [goexitEntry])(h:J.ok Q (G c cs) s):JO J Q b n L [] (c::cs) s:=λT ac todo=>by
 refine Judge.C8 rfl (λw=>?_) h
 have Z:=results_none K T P w
 have e2:=λ(x:Array Event)=>events_results_none (P:=P) (w:=w) K T x
 rcases Y with e | e <;> simp [G,stepG,unwind,Ej,U,Z,e2,doReturn,O,GStep.after,seen_none,e,goexitEntry]
theorem JO.enter{f:FuncId}{fn:Func}{c:Code}{vs:Lv_}(O:b.roundOf=none)(Y:P.funcs[f]? =some fn)(Z:(fn.name== "runtime.NumGoroutine")=false)(hb:fn.body=some c)(am:vs.length<=fn.ntmps)
  (h:∀T,Has n L T->∀todo,JL J Q (baseD f) fn.ntmps (Ga 0 vs) [] [.code c] (Ej b T ds todo::cs) s):JO J Q b n L (dcall f vs.toArray::ds) cs s:=λT ac todo=>by
 refine Judge.C8 rfl (λw=>?_) (h T ac todo (vs.toArray++Array.replicate (fn.ntmps - vs.length) undef) ⟨by simp;omega,λt v ag=>?_⟩)
 ·rw [KS O,stepG_unwind_enter (a:=⟨T,dcall f vs.toArray::ds⟩) rfl Y Z hb,KS O]
  rw [BI (b:=baseD f) rfl];simp
 ·obtain⟨_,K⟩:=Jw ag;have al:t<vs.length:=by
   rcases Nat.lt_or_ge t vs.length with U | U
   ·exact U
   ·simp at K;have:=(List.getElem?_eq_some_iff.1 K).1;omega
  rw [Array.getD_eq_getD_getElem?,Array.getElem?_append_left (by simpa using al)];simp at K;simp [K]
theorem JL.defer{ops:Ao_}{i:Nat}{rest:List Nat}{d:Option Tmp}{f:FuncId}{args:Array Operand}{ats:Array TypeId}{ty:TypeId}{p:String}{af:Ae_}{g:On_}{vs:Lv_}
  (U:ops[i]? =some ⟨d,.defer ⟨.value (.func f),args,ats⟩,ty,p,af,g⟩) (Y:b.roundOf=none) (hw:AM L ops ⟨d,.defer ⟨.value (.func f),args,ats⟩,ty,p,af,g⟩=some true) (K:((b.kind != .early)&&Bf n d)=true)
  (Z:evs L args.toList=some vs) (h:JL J Q b n (Au L d undef) (dcall f vs.toArray::ds) (.inRegion ops rest::k) cs s):
  JL J Q b n L ds (.inRegion ops (i::rest)::k) cs s:=λT O=>by
 simp only [Bool.and_eq_true] at K
 have ac:args.map (Bu T)=vs.toArray:=by
  rw [← FR O.FX Z];apply Array.ext';simp
 refine Judge.oper U (B3 O hw) (by simpa using K.1) (.inl Y) ?_;have hd:execOp (Bu T) ⟨d,.defer ⟨.value (.func f),args,ats⟩,ty,p,af,g⟩= .pure (.defer (dcall f vs.toArray)):=by
  simp only [execOp,resolve,bind,Sem.bind,Deferred.ofValue,Bu,pure,dcall];rw [ac];simp
 rw [hd];exact h _ (O.put K.2 undef)
def K4:Ph->Bool
 | .Hf _ | .FK _ | .GV | .FG _ _ | .HF | .Fw | .Gf | .lk _ _=>false
 | _=>true
theorem IA{p:Ph}{g:Goroutine}(K:K4 p=true)(Y:g.status= .running)(Z:g.offers=none)(O:if Fam.CG p=true then s= .quiet else s.q=false)(ac:p= .Fg->mayWake P g=true)
  (h:∀v wt sm v' wt' sm' es U,F.act p v wt sm=some ((v',wt',sm'),es,U)->∃g',(∀w,F.WG w v wt sm->stepG P (Fam.Cv p) g w= .go g' (F.put w v' wt' sm') es)/\g'.status= .running/\Mq P (Stop P F) (Fam.Cv p) U g' (Fam.Jh p s)):Stop P F p g s:=
 GX.stop {
  run:=Y
  offers:=Z
  quiet:=λe=>by rw [if_pos e] at O;exact O
  live:=λe=>by rw [if_neg (by rw [e];simp)] at O;exact O
  act:=h
  IJ:=λe=>by rcases e with e | ⟨k,b,e⟩;exact ac e;subst e;cases K
  EZ:=λe=>by subst e;cases K
  go:=λj e=>by subst e;cases K
  lk:=λk l e=>by subst e;cases K
  Co:=λk sv e=>by subst e;cases K
  store:=λk e=>by subst e;cases K
  fin:=λe=>by subst e;cases K}
theorem KT{w:World}{v wt sm:Nat}(h:F.WG w v wt sm):F.put w v wt sm=w:=by
 unfold Fam.put;have:w.heap.setIfInBounds F.wg (F.HT (Fam.word v wt) sm)=w.heap:=by
  apply Array.ext_getElem?;intro i;by_cases e:F.wg=i
  ·subst e;unfold Fam.WG at h;have O:F.wg<w.heap.size:=by
    rcases Nat.lt_or_ge F.wg w.heap.size with K | K
    ·exact K
    ·simp [Array.getElem?_eq_none K] at h
   rw [Array.getElem?_setIfInBounds_self_of_lt O,h]
  ·rw [Array.getElem?_setIfInBounds_ne e]
 rw [this]
theorem ID{w:World}{v wt sm:Nat}(h:F.WG w v wt sm):w.cell? F.sA=some (.int .u64 (Fam.word v wt))/\w.cell? F.mA=some (.int .u32 sm)/\w.frozen? F.sA=false/\w.frozen? F.mA=false:=by
 unfold Fam.WG Fam.HT at h;refine⟨?_,?_,?_,?_⟩
 ·simp [World.cell?,Fam.sA,h]
 ·simp [World.cell?,Fam.mA,h]
 ·simp [World.frozen?,Fam.sA,h]
 ·simp [World.frozen?,Fam.mA,h]
theorem MN{w:World}{v wt sm v' wt':Nat}(h:F.WG w v wt sm):w.setCell F.sA (.int .u64 (Fam.word v' wt'))=F.put w v' wt' sm:=by
 unfold Fam.put World.setCell;congr 1;apply Array.ext_getElem?;intro i;unfold Fam.WG Fam.HT at h;rw [Array.getElem?_modify];have O:F.wg<w.heap.size:=by
  rcases Nat.lt_or_ge F.wg w.heap.size with K | K
  ·exact K
  ·simp [Array.getElem?_eq_none K] at h
 by_cases e:F.wg=i
 ·subst e;rw [Array.getElem?_setIfInBounds_self_of_lt O,h];simp [Fam.sA,Fam.HT]
 ·rw [Array.getElem?_setIfInBounds_ne e];simp [Fam.sA,e]
theorem QE{w:World}{v wt sm sm':Nat}(h:F.WG w v wt sm):w.setCell F.mA (.int .u32 sm')=F.put w v wt sm':=by
 unfold Fam.put World.setCell;congr 1;apply Array.ext_getElem?;intro i;unfold Fam.WG Fam.HT at h;rw [Array.getElem?_modify];have O:F.wg<w.heap.size:=by
  rcases Nat.lt_or_ge F.wg w.heap.size with K | K
  ·exact K
  ·simp [Array.getElem?_eq_none K] at h
 by_cases e:F.wg=i
 ·subst e;rw [Array.getElem?_setIfInBounds_self_of_lt O,h];simp [Fam.mA,Fam.HT]
 ·rw [Array.getElem?_setIfInBounds_ne e];simp [Fam.mA,e]
structure BD (P:Program) (f:FuncId) (e:Av_->Sem Value):Prop where
 h:∃fn,P.funcs[f]? =some fn/\(fn.name== "runtime.NumGoroutine")=false/\fn.body.isNone=true/\Extern.findNext fn=none/\Extern.find fn=some e
theorem JY{T:Av_}(K:Has n L T)(O:evs L args.toList=some vs):args.map (⟨T,ds⟩:Act).eval=vs.toArray:=by
 have:(⟨T,ds⟩:Act).eval=Bu T:=funext λx=>Ez T ds x;rw [this,← FR K.FX O];apply Array.ext';simp
theorem LL{m:Mark}(Z:K4 p=true)(ac:if Fam.CG p=true then s= .quiet else s.q=false)(ag:p≠ .Fg)(al:∀v wt sm,F.act p v wt sm=some ((v,wt,sm),#[Fam.Cy m],.ph q))(am:Fam.Jh p s=s)
  (ap:ops[i]? =some ⟨d,.call ⟨.value (.func f),args,ats⟩,ty,pp,af,g⟩) (O:b.roundOf=none) (hw:AM L ops ⟨d,.call ⟨.value (.func f),args,ats⟩,ty,pp,af,g⟩=some true) (K:((b.kind != .early)&&Bf n d)=true)
  (hm:∀x,m≠ .extern x) (he:BD P f (λ_=>do mark m;pure Extern.Race.none_))
  (h:JL (AU P (Fam.Cv p)) (Stop P F q) b n (Au L d (.tuple #[])) ds (.inRegion ops rest::k) cs s):
  JL (AU P (Fam.Cv p)) (Stop P F p) b n L ds (.inRegion ops (i::rest)::k) cs s:=λT U=>by
 simp only [Bool.and_eq_true] at K
 obtain⟨fn,aq,aw,hb,a0,he⟩:=he.h
 refine(AU P _).stop (IA Z rfl rfl ac (λe=>absurd e ag) λv wt sm v' wt' sm' es a2 Y=>?_)
 rw [al] at Y;cases Y
 refine⟨_,λw a1=>?_,rfl,by rw [am];exact h _ (U.put K.2 _)⟩
 rw [BI O,BI O,stepG_mark0 (a:=⟨T,ds⟩) m hm ap (B3 U hw) (by simpa using K.1) rfl aq aw hb a0 he,KT a1,DU]
 rfl
theorem OI{mk:Addr->Mark}{ad:Addr}(Z:K4 p=true)(ac:if Fam.CG p=true then s= .quiet else s.q=false)(ag:p≠ .Fg)(al:∀v wt sm,F.act p v wt sm=some ((v,wt,sm),#[Fam.Cy (mk ad)],.ph q))
  (am:ops[i]? =some ⟨d,.call ⟨.value (.func f),args,ats⟩,ty,pp,af,g⟩) (U:b.roundOf=none) (hw:AM L ops ⟨d,.call ⟨.value (.func f),args,ats⟩,ty,pp,af,g⟩=some true) (K:((b.kind != .early)&&Bf n d)=true)
  (hm:∀ad x,mk ad≠ .extern x) (he:BD P f (Extern.Race.marked mk)) (ap:evs L args.toList=some vs) (aq:vs[0]? =some (.pointer (some ad)))
  (h:JL (AU P (Fam.Cv p)) (Stop P F q) b n (Au L d (.tuple #[])) ds (.inRegion ops rest::k) cs (Fam.Jh p s)):
  JL (AU P (Fam.Cv p)) (Stop P F p) b n L ds (.inRegion ops (i::rest)::k) cs s:=λT O=>by
 simp only [Bool.and_eq_true] at K
 obtain⟨fn,aw,a0,hb,a1,he⟩:=he.h
 refine(AU P _).stop (IA Z rfl rfl ac (λe=>absurd e ag) λv wt sm v' wt' sm' es a3 Y=>?_)
 rw [al] at Y;cases Y
 refine⟨_,λw a2=>?_,rfl,h _ (O.put K.2 _)⟩
 rw [BI U,BI U,stepG_markAt (a:=⟨T,ds⟩) mk hm am (B3 O hw) (by simpa using K.1) rfl aw a0 hb a1 he (ad:=ad) (by rw [JY O ap];simpa using aq),KT a2,DU]
 rfl
end
variable {E:LH}{S:List Seg}{j l:Nat}{o':Obj}
section
variable {H:LH}{o:Obj}
theorem Kk(ap:Aq E H S)(Y:S[j]? =some [(l,o)])(o':Obj):(Aj E H S).upd l o'=Aj E H (S.set j [(l,o')])/\Aq E H (S.set j [(l,o')]):=by
 obtain⟨K,Z⟩:=GL ap Y;have U:=Nd.iff.1 Z;have ac:E l=none:=(U.2 (l,o) (by simp)).1;have aq:H l=none:=(U.2 (l,o) (by simp)).2;have ag:Nd E H (S.set j []).flatten:=Kd.Nd.left Z;have aw:∀q∈(S.set j []).flatten,q.1≠l:=λq O e=>by
  have:=U.1;rw [List.map_append,List.nodup_append] at this;exact this.2.2 q.1 (List.mem_map_of_mem O) l (by simp) e
 have al:Be (S.set j []).flatten H l=none:=by
  have key:∀(B:List (Nat×Obj)),(∀q∈B,q.1≠l)->Be B H l=none:=by
   intro B
   induction B with
   | nil=>intro _;exact aq
   | cons q B a0=>
    intro O;obtain⟨c,a1⟩:=q;have am:l≠c:=λe=>O (c,a1) (by simp) e.symm;have K:=a0 λq' a2=>O q' (List.mem_cons_of_mem _ a2);simp only [Be]
    first
    | rw [if_neg am];exact K
    | rw [if_neg (Ne.symm am)];exact K
  exact key _ aw
 have f1:=Jz (E:=E) (H:=H) (B:=(S.set j []).flatten) (r:=l) ac al o ag;have f2:=Jz (E:=E) (H:=H) (B:=(S.set j []).flatten) (r:=l) ac al o' ag;obtain⟨a3,g2⟩:=IF (seg:= [(l,o)]) Y f2.1;refine⟨?_,g2⟩;rw [K,← a3,← f1.2,← f2.2];unfold St.upd;congr 1;funext x;by_cases a4:x=l <;> simp [a4]
end
variable {P:Program}{J:Judge P}{Q:Gs_}{b:Frame}{L:Env}{ds:Ld_}{k:Li_}{cs:Lf_}
section
variable {n:Nat}{H:LH}
theorem Judge.EZ{α:Type}{g:Goroutine}{g':α->Goroutine}{s:St}(x:Sem α)(ac:s.q=false)(ag:g.status= .running)
  (al:∀w a w',x.run P w= .ok a w'->∃es,stepG P J.main g w= .go (g' a) w' es/\∀e∈es,e∈x.events P w #[])
  (h:lp P x s (λa s'=>J.ok Q (g' a) s') (λ_ _=>False)):J.ok Q g s:=by
 refine J.step ⟨ag,λw f=>?_,λe=>by subst e;cases ac⟩;obtain⟨s',O,U,Y,K⟩:=M3 _ h f;cases Z:x.run P w with
 | ok a w'=>
  rw [Z] at O U Y K;simp only [Kz] at O U Y;obtain⟨es,he,hm⟩:=al w a w' Z;exact⟨g' a,s',w',es,he,K,O,U,λe am=>Y e (hm e am)⟩
 | halt a w'=>rw [Z] at K;exact K.elim
theorem MQ{r:Loop}{s:St}{K:Loop->St->Prop}{X:Halt->St->Prop}(h:s.get l=some (.loop r))(k:K r s):lp P (Instr.getLoop l) s K X:=by
 unfold Instr.getLoop getObj;simp only [bind,Sem.bind,lp];exact⟨_,h,V,k⟩
theorem UZ{r:Loop}{T:Av_}(j:Nat)(K:Aq E H S)(O:S[j]? =some [(l,.loop r)])(U:(r.state== .busy)=false)(Y:r.pending=none)
  (h:Aq E H (S.set j [(l,.loop {r with state:= .exhausted})])->J.ok Q (G (fr b T ds k) cs) (Aj E H (S.set j [(l,.loop {r with state:= .exhausted})]))):
  J.ok Q (G (fr b T ds (.endRangeFunc l::k)) cs) (Aj E H S):=by
 obtain⟨Z,ac⟩:=Kk K O (.loop {r with state:= .exhausted});have ag:lp P (Instr.endLoop l) (Aj E H S) (λa s'=>a=none/\s'=Aj E H (S.set j [(l,.loop {r with state:= .exhausted})])) (λ_ _=>False):=by
  unfold Instr.endLoop;refine As _ _ (MQ (Dh (i:=0) K O V) ?_);rw [if_neg (by rw [U];simp)];have al:(Aj E H S).H l=some (.loop r):=by
   have:=Dh (i:=0) K O V;have am:E l=none:=Nt K O;unfold St.get at this;rw [show(Aj E H S).E l=none from am] at this;exact this
  simp only [bind,Sem.bind,lp,setObj,pure];refine⟨⟨_,al,V⟩,V,Y,?_⟩;exact Z
 refine Judge.EZ (g':=λap=>G (fr b T ds ((ap.map Item.code).toList++k)) cs) (Instr.endLoop l) V V (λw a w' aq=>?_) (DG _ ag (λa s' ⟨aw,a0⟩=>by subst aw a0;exact h ac) (λ_ _ h=>h));refine⟨seen P b.fn ((Instr.endLoop l).events P w #[])++ #[],?_,λe he=>?_⟩
 ·simp [G,stepG,stepG.exec,fr,aq,GStep.after]
 ·exact mem_seen (by simpa using he)
def T0(l:Nat)(f:FuncId):Frame:={(default:Frame) with fn:=f,kind:= .normal,roundOf:=some l}
theorem F2.yield{r:Loop}{t:Tmp}{v:Value}{B:Seg}{R:Value->LH->Seg->Prop}{i:Nat}(K:B[i]? =some (l,.loop r))(O:r.params= #[t])
  (h:∀(Q:Gs_) (U:Frame) (cs:Lf_) (H:LH),Aq E H [B]->(∀w E' S' B',Le E E'->S'.flatten=B'->R w E' B'->Aq E' H S'->J.ok Q (G (U.finish w) cs) (Aj E' H S'))->
   J.ok Q (G (fr (T0 l r.fn) (r.tmps.setIfInBounds t v) [] [.code r.assign,.beginRound,.code r.body]) (U::cs)) (Aj E H [B])):
  F2 J (.func (.yield l) #[] #[]) [v] E B R:=λH Y Q c cs Z=>by
 have ac:(mk E H B).get l=some (.loop r):=OA Y K
 simp only [Deferred.ofValue,bind,Sem.bind,pure,invoke]
 unfold Instr.yield
 refine As _ _ (MQ ac ?_)
 have ag:¬((#[]:Av_)++ [v].toArray).size≠r.params.size:=by rw [O];simp
 rw [if_neg ag];have e2:((r.params.zip ((#[]:Av_)++ [v].toArray)).foldl (λtmps (t,a)=>tmps.setIfInBounds t a) r.tmps)=r.tmps.setIfInBounds t v:=by rw [O];simp [Array.zip,Array.zipWith,Array.zipWithMAux]
 simp only [lp,pure];have al:mk E H B=Aj E H [B]:=by unfold Aj;simp
 rw [e2,al];exact h Q c cs H (by unfold Aq;simpa using Y) λw E' S' B' hle K am ap=>by
  subst K;exact Z w _ ⟨E',S'.flatten,hle,am,ap,rfl⟩
theorem JL.beginRound{r:Loop}(j:Nat)(U:b.roundOf=some l)(Y:b.kind= .normal)(K:Aq E H S)(O:S[j]? =some [(l,.loop r)])(Z:r.state= .ready)
  (h:Aq E H (S.set j [(l,.loop {r with state:= .busy})])->JL J Q b n L ds k cs (Aj E H (S.set j [(l,.loop {r with state:= .busy})]))):
  JL J Q b n L ds (.beginRound::k) cs (Aj E H S):=λT ac=>by
 obtain⟨ag,al⟩:=Kk K O (.loop {r with state:= .busy})
 have am:lp P (Instr.beginRound l) (Aj E H S) (λ_ s'=>s'=Aj E H (S.set j [(l,.loop {r with state:= .busy})])) (λ_ _=>False):=by
  unfold Instr.beginRound;refine As _ _ (MQ (Dh (i:=0) K O rfl) ?_);have ap:(Aj E H S).H l=some (.loop r):=by
   have:=Dh (i:=0) K O rfl;have aq:E l=none:=Nt K O;unfold St.get at this;rw [show(Aj E H S).E l=none from aq] at this;exact this
  simp only [bind,Sem.bind,lp,setObj,pure,Z];exact⟨⟨_,ap,rfl⟩,rfl,ag⟩
 refine Judge.EZ (g':=λ_=>G (fr b T ds k) cs) (Instr.beginRound l) rfl rfl (λw a w' aw=>?_) (DG _ am (λa s' a0=>by subst a0;exact h al T ac) (λ_ _ h=>h));refine⟨seen P b.fn ((Instr.beginRound l).events P w #[])++ #[],?_,λe he=>?_⟩
 ·simp [G,stepG,stepG.exec,fr,stepG.apply,U,Y,aw,GStep.after,Frame.finish]
 ·exact mem_seen (by simpa using he)
theorem JV{o:Obj}{seg:Seg}(K:Aq E H S)(O:S[j]? =some ((l,o)::seg)):(Aj E H S).H l=some o:=by
 have:=Dh (i:=0) K O V;have U:E l=none:=Nt K O;unfold St.get at this;rw [show(Aj E H S).E l=none from U] at this;exact this
theorem JL.endRound{r:Loop}{c:Frame}(j:Nat)(U:b.roundOf=some l)(Y:b.kind= .normal)(K:Aq E H S)(O:S[j]? =some [(l,.loop r)])
  (h:Aq E H (S.set j [(l,.loop {r with state:= .ready,pending:=none})])->J.ok Q (G (c.finish (.bool true)) cs) (Aj E H (S.set j [(l,.loop {r with state:= .ready,pending:=none})]))):
  JL J Q b n L [] [] (c::cs) (Aj E H S):=λT aq=>by
 obtain⟨Z,ac⟩:=Kk K O (.loop {r with state:= .ready,pending:=none})
 have ag:lp P (Instr.endRound l none) (Aj E H S) (λa s'=>a= .bool true/\s'=Aj E H (S.set j [(l,.loop {r with state:= .ready,pending:=none})])) (λ_ _=>False):=by
  unfold Instr.endRound;refine As _ _ (MQ (Dh (i:=0) K O rfl) ?_);simp only [bind,Sem.bind,lp,setObj,pure];exact⟨⟨_,JV K O,rfl⟩,rfl,rfl,Z⟩
 refine Judge.EZ (g':=λv=>G (c.finish v) cs) (Instr.endRound l none) rfl rfl (λw a w' al=>?_) (DG _ ag (λa s' ⟨am,ap⟩=>by subst am ap;exact h ac) (λ_ _ h=>h));refine⟨seen P b.fn ((Instr.endRound l none).events P w #[])++ #[],?_,λe he=>?_⟩
 ·simp [G,stepG,stepG.exec,fr,U,Y,al,GStep.after,doReturn]
 ·exact mem_seen (by simpa using he)
theorem JL.rangeFunc{x:Operand}{params:Array Tmp}{as O:Code}{f:FuncId}{caps:Lv_}(aq:b.roundOf=none)(aw:b.kind≠ .early)(ag:ev L x=some (.func (.func f) #[] caps.toArray))(hb:Dm P f=true)(a0:Aq E H S)
  (h:∀K l T,Has n L T->Aq E H (S++ [[(K,.deferred (some []))]]++ [[(l,.loop ⟨.ready,none,b.fn,T,params,as,O,K⟩)]])->
   J.ok Q (G (Frame.enter P f (.func (.yield l) #[] #[]::caps).toArray .normal) (fr b T (⟨.collected K,#[]⟩::ds) (.inRangeFunc l::k)::cs)) (Aj E H (S++ [[(K,.deferred (some []))]]++ [[(l,.loop ⟨.ready,none,b.fn,T,params,as,O,K⟩)]]))):
  JL J Q b n L ds (.code (.rangeFunc x params as O)::k) cs (Aj E H S):=λT al=>by
 have a1:lp P (Instr.enterLoop b.fn T params as O b.roundOf) (Aj E H S) (λq s'=>∃K,q.2= [⟨.collected K,#[]⟩]/\Aq E H (S++ [[(K,.deferred (some []))]]++ [[(q.1,.loop ⟨.ready,none,b.fn,T,params,as,O,K⟩)]])/\s'=Aj E H (S++ [[(K,.deferred (some []))]]++ [[(q.1,.loop ⟨.ready,none,b.fn,T,params,as,O,K⟩)]])) (λ_ _=>False):=by
  unfold Instr.enterLoop;rw [aq];simp only [newObj,bind,Sem.bind,lp,pure];refine⟨rfl,λK Y Z=>?_⟩;obtain⟨ac,a2⟩:=Jz Y Z (.deferred (some [])) a0;obtain⟨a3,p2⟩:=Fp ac;have a4:(Aj E H S).upd K (.deferred (some []))=Aj E H (S++ [[(K,.deferred (some []))]]):=by rw [← a3,← a2];rfl
  rw [a4];refine⟨rfl,λl a5 a6=>?_⟩;obtain⟨a7,a8⟩:=Jz a5 a6 (.loop ⟨.ready,none,b.fn,T,params,as,O,K⟩) p2;obtain⟨p3,p4⟩:=Fp a7;exact⟨K,rfl,p4,by rw [← p3,← a8];rfl⟩
 refine Judge.EZ (g':=λq=>G (Frame.enter P f (.func (.yield q.1) #[] #[]::caps).toArray .normal) (fr b T (q.2++ds) (.inRangeFunc q.1::k)::cs)) (Instr.enterLoop b.fn T params as O b.roundOf) rfl rfl (λw a w' a9=>?_) (DG _ a1 (λa s' ⟨K,Y,Z,ac⟩=>by subst ac;simp only [Y];exact h K a.1 T al Z) (λ_ _ h=>h));obtain⟨l,mk⟩:=a;have bb:Bu T x= .func (.func f) #[] caps.toArray:=al.ev ag;obtain⟨fn,U,be,am⟩:∃fn,P.funcs[f]? =some fn/\(fn.name== "runtime.NumGoroutine")=false/\fn.body.isNone=false:=by
  unfold Dm at hb;cases U:P.funcs[f]? with
  | none=>rw [U] at hb;cases hb
  | some fn=>
   rw [U] at hb;simp only [Bool.and_eq_true,Bool.not_eq_true'] at hb;exact⟨fn,rfl,hb.1,by cases ag:fn.body <;> simp_all⟩
 refine⟨seen P b.fn ((Instr.enterLoop b.fn T params as O b.roundOf).events P w #[])++ #[],?_,λe he=>?_⟩
 ·have ap:=Ro (b:=b) (ds:=mk++ds) T (.inRangeFunc l::k);simp only [fr] at ap;have bi:¬fn.name= "runtime.NumGoroutine" :=by simpa using be
  have bo:¬fn.body=none:=by intro e;rw [e] at am;cases am
  have bv:Bu T (.const (.func (.yield l) #[] #[]))= .func (.yield l) #[] #[]:=rfl;simp [G,stepG,stepG.exec,fr,a9,GStep.after,stepG.apply,resolve,ap,bb,Deferred.ofValue,invoke,callFunc,U,bi,bo,aw,bv,seen_none]
 ·exact mem_seen (by simpa using he)
theorem JO.collected{K:Nat}(j:Nat)(aq:b.roundOf=none)(O:Aq E H S)(U:S[j]? =some [(K,.deferred (some []))])
  (h:Aq E H (S.set j [(K,.deferred none)])->JO J Q b n L ds cs (Aj E H (S.set j [(K,.deferred none)]))):JO J Q b n L (⟨.collected K,#[]⟩::ds) cs (Aj E H S):=λT Y todo=>by
 obtain⟨Z,ac⟩:=Kk O U (.deferred none)
 have ag:lp P (Instr.takeDeferred K) (Aj E H S) (λa s'=>a= []/\s'=Aj E H (S.set j [(K,.deferred none)])) (λ_ _=>False):=by
  unfold Instr.takeDeferred getObj;simp only [bind,Sem.bind,lp,setObj,pure];exact⟨_,Dh (i:=0) O U rfl,rfl,⟨_,JV O U,rfl⟩,rfl,rfl,Z⟩
 refine Judge.EZ (g':=λl=>G (Ej b T (l++ds) todo) cs) (Instr.takeDeferred K) rfl rfl (λw a w' al=>?_) (DG _ ag (λa s' ⟨am,ap⟩=>by subst am ap;exact h ac T Y todo) (λ_ _ h=>h));refine⟨seen P b.fn ((Instr.takeDeferred K).events P w #[])++ #[],?_,λe he=>?_⟩
 ·simp [G,stepG,unwind,Ej,al,GStep.after]
 ·exact mem_seen (by simpa using he)
def Kt(f:FuncId)(args caps:Av_):Deferred:={target:= .fn (.func f) caps,args:=args}
theorem JO.Pn{f:FuncId}{fn:Func}{c:Code}{vs caps:Lv_}(ap:b.roundOf=none)(O:P.funcs[f]? =some fn)(Y:(fn.name== "runtime.NumGoroutine")=false)(hb:fn.body=some c)(Z:(vs++caps).length<=fn.ntmps){s:St}
  (h:∀T,Has n L T->∀todo,JL J Q (baseD f) fn.ntmps (Ga 0 (vs++caps)) [] [.code c] (Ej b T ds todo::cs) s):JO J Q b n L (Kt f vs.toArray caps.toArray::ds) cs s:=λT ac todo=>by
 have ag:¬fn.name= "runtime.NumGoroutine" :=by simpa using Y
 refine Judge.C8 rfl (λw=>?_) (h T ac todo ((vs++caps).toArray++Array.replicate (fn.ntmps - (vs++caps).length) undef) ⟨by simp;simp at Z;omega,λt v al=>?_⟩)
 ·rw [BI (b:=baseD f) rfl];have:=enter_atD (P:=P) (vs++caps).toArray O hb;simp only [List.size_toArray] at this;rw [← this];simp [G,stepG,unwind,callDeferred,Ej,Kt,invoke,callFunc,O,ag,hb,GStep.after,seen_none]
 ·obtain⟨_,K⟩:=Jw al;have am:t<(vs++caps).length:=by
   rcases Nat.lt_or_ge t (vs++caps).length with U | U
   ·exact U
   ·simp only [Nat.sub_zero] at K;have:=(List.getElem?_eq_some_iff.1 K).1;omega
  rw [Array.getD_eq_getD_getElem?,Array.getElem?_append_left (by simpa using am)];simp only [Nat.sub_zero] at K;rw [List.getElem?_toArray,K];rfl
theorem VT{ops:Ao_}{i:Nat}{rest:List Nat}{d:Option Tmp}{x:Operand}{f:FuncId}{caps:Lv_}{args:Array Operand}{ats:Array TypeId}{ty:TypeId}{p:String}{af:Ae_}{g:On_}{vs:Lv_}{s:St}
  (U:ops[i]? =some ⟨d,.defer ⟨.value x,args,ats⟩,ty,p,af,g⟩) (Y:b.roundOf=none) (hw:AM L ops ⟨d,.defer ⟨.value x,args,ats⟩,ty,p,af,g⟩=some true) (O:((b.kind != .early)&&Bf n d)=true)
  (Z:ev L x=some (.func (.func f) #[] caps.toArray)) (ac:evs L args.toList=some vs) (h:JL J Q b n (Au L d undef) (Kt f vs.toArray caps.toArray::ds) (.inRegion ops rest::k) cs s):
  JL J Q b n L ds (.inRegion ops (i::rest)::k) cs s:=λT K=>by
 simp only [Bool.and_eq_true] at O
 have ag:args.map (Bu T)=vs.toArray:=by
  rw [← FR K.FX ac];apply Array.ext';simp
 refine Judge.oper U (B3 K hw) (by simpa using O.1) (.inl Y) ?_;have hd:execOp (Bu T) ⟨d,.defer ⟨.value x,args,ats⟩,ty,p,af,g⟩= .pure (.defer (Kt f vs.toArray caps.toArray)):=by
  simp only [execOp,resolve,bind,Sem.bind,Deferred.ofValue,K.ev Z,pure,Kt];rw [ag];simp
 rw [hd];exact h _ (K.put O.2 undef)
end
variable {s:St}{ρ:Operand->Value}{x y z:Operand}{t u e:TypeId}{a:Option Addr}{c:Nat}
section
variable {p:String}
theorem MW(K:P.underlying t=some (.slice e))(O:ρ x= .slice a l c)(U:ρ (.const (.slice none 0 0))= .slice none 0 0):Yl P ⟨d,.binOp .eql t x (.const (.slice none 0 0)) u,ty,p,af,g⟩ ρ s (.bool a.isNone):=by
 refine Fo (sm:=do eqGuard .eql t x (.const (.slice none 0 0)) (ρ x) (ρ (.const (.slice none 0 0)));binOp .eql t (ρ x) (ρ (.const (.slice none 0 0)))) V ?_
 rw [O,U];have Y:lp P (eqGuard .eql t x (.const (.slice none 0 0)) (.slice a l c) (.slice none 0 0)) s (λ_ s'=>s'=s) (λ_ _=>False):=by
  simp [eqGuard,lp,pure]
 refine As _ _ (DG _ Y ?_ (λ_ _ h=>h));rintro _ _ rfl;have hb:binOp .eql t (.slice a l c) (.slice none 0 0)=(do pure (.bool (← Op.equal t (.slice a l c) (.slice none 0 0)))):=V
 rw [hb];refine As (x:=Op.equal t (.slice a l c) (.slice none 0 0)) _ ?_;unfold Op.equal Op.maxDepth Op.equalIn;refine As _ _ (Cg K ?_);cases a <;> exact⟨rfl,rfl⟩
end
section
variable {n:Nat}
end
variable {fuel:Nat}{listed:Array Bool}
variable {v:Value}
section
variable {n:Nat}{m:Nat}{H:LH}
variable {p:String}
end
def IM(P:Program)(d:Nat):GP:=λg _=>∃q,QuitsD P q d g
def Lg(P:Program):Frame:={(default:Frame) with fn:=P.funcs.size,defers:= [],mode:= .panicking [goexitEntry]}
section
variable {P:Program}{F:Fam}{J:Judge P}{Q:GP}{n:Nat}{L L':Env}{ds:Ld_}{k:Li_}{cs:Lf_}{s s':St}{b:Frame}{main:Bool}
theorem Lv.quits{d:Nat}:∀{m:Nat} {g:Goroutine},Lv P (IM P d) m g->∃q,QuitsD P q d g
 | 0,_,h=>h
 | m+1,_,h=>by
  rcases h with h | ⟨K,g',O,h⟩
  ·exact h
  ·obtain⟨q,U⟩:=h.quits;exact⟨q+1,.ctl K O U⟩
theorem Ot{d:Nat}{g:Goroutine}(h:(Ib P).ok (IM P d) g .quiet):∃q,QuitsD P q d g:=by
 obtain⟨m,hm⟩:=h V;exact hm.quits
theorem Vz:(Ib P).ok (IM P 0) (G (Lg P) []) .quiet:=by
 refine Judge.C8 (g':={frame:=Lg P,callers:= [],status:= .finished,dying:=none}) V (λw=>?_) ((Ib P).stop ⟨0,V,V⟩);have K:(default:Frame).todo= []:=V;have O:∀(m:FrameMode),Frame.catches P {fn:=P.funcs.size,tmps:=(default:Frame).tmps,todo:= [],defers:= [],mode:=m,kind:=(default:Frame).kind,roundOf:=(default:Frame).roundOf}=false:=λm=>by simp [Frame.catches]
 simp [G,stepG,unwind,Lg,goexitEntry,K,O]
theorem RU{ops:Ao_}{i:Nat}{rest:List Nat}{d:Option Tmp}{f:FuncId}{args:Array Operand}{ats:Array TypeId}{ty:TypeId}{pp:String}{af:Ae_}{g:On_}{T:Av_}{e:Av_->Sem Value}
  (K:ops[i]? =some ⟨d,.call ⟨.value (.func f),args,ats⟩,ty,pp,af,g⟩) (he:BD P f e):mayWake P (G (fr b T ds (.inRegion ops (i::rest)::k)) cs)=true:=by
 obtain⟨fn,O,_,hb,_⟩:=he.h;have U:fn.body.isSome=false:=by cases h:fn.body <;> simp_all
 simp [mayWake,G,fr,K,Frame.eval,O,U]
theorem WK{v wt:Nat}(K:1<=v)(O:v<2147483648)(U:wt<=1):IntKind.u64.wrap (Fam.word v wt+18446744069414584320)=Fam.word (v - 1) wt:=by
 simp only [Fam.word,Fam.KK,IntKind.wrap,IntKind.bits,IntKind.signed];simp;omega
theorem XB{v:Nat}(h:v<2147483647):IntKind.u64.wrap (Fam.word v 0+4294967296)=Fam.word (v+1) 0:=by
 simp only [Fam.word,Fam.KK,IntKind.wrap,IntKind.bits,IntKind.signed];simp;omega
theorem word_inj{v v' wt:Nat}(h:Fam.word v wt=Fam.word v' wt):v=v':=by
 simp only [Fam.word,Fam.KK] at h;omega
theorem Ye(ag:ops[i]? =some ⟨d,.call ⟨.value (.func f),#[x,y],ats⟩,ty,pp,af,g⟩)(Z:b.roundOf=none)(hw:AM L ops ⟨d,.call ⟨.value (.func f),#[x,y],ats⟩,ty,pp,af,g⟩=some true)(O:((b.kind != .early)&&Bf n d)=true)
  (he:BD P f (Extern.Atomic.update (Op.intArith .add) .u64 true)) (al:ev L x=some (.pointer (some F.sA))) (am:ev L y=some (.int .u64 18446744069414584320))
  (ap:JL (AU P false) (Stop P F .GR) b n (Au L d (.int .u64 (Fam.word 0 1))) ds (.inRegion ops rest::k) cs .quiet)
  (aq:∀v wt:Nat,v<2147483647->wt<=1->¬(v=0/\wt=1)->JL (Ib P) (IM P 1) b n (Au L d (.int .u64 (Fam.word v wt))) ds (.inRegion ops rest::k) cs .quiet):
  JL (AU P false) (Stop P F .Hk) b n L ds (.inRegion ops (i::rest)::k) cs .quiet:=λT K=>by
 simp only [Bool.and_eq_true] at O
 obtain⟨fn,aw,a0,hb,a1,he⟩:=he.h
 refine(AU P _).stop (IA rfl rfl rfl rfl (by simp) λv wt sm v' wt' sm' es a2 U=>?_)
 simp only [Fam.act] at U
 split at U
 ·rename_i Y
  cases U;refine⟨G (fr b (CC T d (.int .u64 (Fam.word (v - 1) wt))) ds (.inRegion ops rest::k)) cs,λw ac=>?_,rfl,?_⟩
  ·obtain⟨c1,_,c3,_⟩:=ID ac;rw [BI Z,BI Z];show stepG P false _ w=_;rw [stepG_add_atomic (a:=⟨T,ds⟩) ag (B3 K hw) (by simpa using O.1) rfl aw a0 hb a1 .u64 he (by rw [Ez];exact K.ev al) (by rw [Ez];exact K.ev am) c1 c3,WK Y.1 Y.2.1 Y.2.2,MN ac,DU]
   rfl
  ·split
   ·rename_i e;obtain⟨rfl,rfl⟩:=e;exact ap _ (K.put O.2 _)
   ·rename_i e;exact Ot (aq (v - 1) wt (by omega) Y.2.2 (by omega) _ (K.put O.2 _))
 ·cases U
theorem Yp{j:Nat}(ag:s.q=false)(al:ops[i]? =some ⟨d,.call ⟨.value (.func f),#[x,y],ats⟩,ty,pp,af,g⟩)(Z:b.roundOf=none)(hw:AM L ops ⟨d,.call ⟨.value (.func f),#[x,y],ats⟩,ty,pp,af,g⟩=some true)(O:((b.kind != .early)&&Bf n d)=true)
  (he:BD P f (Extern.Atomic.update (Op.intArith .add) .u64 true)) (am:ev L x=some (.pointer (some F.sA))) (ap:ev L y=some (.int .u64 4294967296))
  (aq:JL (AU P true) (Stop P F (.Iv j)) b n (Au L d (.int .u64 (Fam.word 1 0))) ds (.inRegion ops rest::k) cs s)
  (aw:∀v:Nat,1<=v->v<2147483647->JL (AU P true) (Stop P F (.G1 j)) b n (Au L d (.int .u64 (Fam.word (v+1) 0))) ds (.inRegion ops rest::k) cs s):
  JL (AU P true) (Stop P F (.Ir j)) b n L ds (.inRegion ops (i::rest)::k) cs s:=λT K=>by
 simp only [Bool.and_eq_true] at O
 obtain⟨fn,a0,a1,hb,a2,he⟩:=he.h
 refine(AU P _).stop (IA rfl rfl rfl ag (by simp) λv wt sm v' wt' sm' es a3 U=>?_)
 simp only [Fam.act] at U
 split at U
 ·rename_i Y
  obtain⟨Y,rfl⟩:=Y;cases U;refine⟨G (fr b (CC T d (.int .u64 (Fam.word (v+1) 0))) ds (.inRegion ops rest::k)) cs,λw ac=>?_,rfl,?_⟩
  ·obtain⟨c1,_,c3,_⟩:=ID ac;rw [BI Z,BI Z];show stepG P true _ w=_;rw [stepG_add_atomic (a:=⟨T,ds⟩) al (B3 K hw) (by simpa using O.1) rfl a0 a1 hb a2 .u64 he (by rw [Ez];exact K.ev am) (by rw [Ez];exact K.ev ap) c1 c3,XB Y,MN ac,DU]
   rfl
  ·split
   ·rename_i e;subst e;exact aq _ (K.put O.2 _)
   ·rename_i e;exact aw v (by omega) Y _ (K.put O.2 _)
 ·cases U
theorem az(al:K4 p=true)(am:if Fam.CG p=true then s= .quiet else s.q=false)(ap:p≠ .Fg)(aq:Fam.Jh p s=s)(aw:∀v wt sm r,F.act p v wt sm=some r->r.1=(v,wt,sm)/\r.2.1= #[Fam.B8 F.sA])
  (a0:ops[i]? =some ⟨d,.call ⟨.value (.func f),#[x],ats⟩,ty,pp,af,g⟩) (U:b.roundOf=none) (hw:AM L ops ⟨d,.call ⟨.value (.func f),#[x],ats⟩,ty,pp,af,g⟩=some true) (K:((b.kind != .early)&&Bf n d)=true)
  (he:BD P f (Extern.Atomic.loadT (.int .u64))) (a1:ev L x=some (.pointer (some F.sA)))
  (h:∀v wt sm r,F.act p v wt sm=some r->∃q,r.2.2= .ph q/\JL (AU P (Fam.Cv p)) (Stop P F q) b n (Au L d (.int .u64 (Fam.word v wt))) ds (.inRegion ops rest::k) cs s):
  JL (AU P (Fam.Cv p)) (Stop P F p) b n L ds (.inRegion ops (i::rest)::k) cs s:=λT O=>by
 simp only [Bool.and_eq_true] at K
 obtain⟨fn,a2,a3,hb,a4,he⟩:=he.h
 refine(AU P _).stop (IA al rfl rfl am (λe=>absurd e ap) λv wt sm v' wt' sm' es a6 Y=>?_)
 obtain⟨Z,e2⟩:=aw _ _ _ _ Y
 obtain⟨q,ac,a5⟩:=h _ _ _ _ Y
 simp only at Z e2 ac
 cases Z
 subst e2 ac
 refine⟨_,λw ag=>?_,rfl,by rw [aq];exact a5 _ (O.put K.2 _)⟩
 obtain⟨c1,_,_,_⟩:=ID ag
 rw [BI U,BI U,stepG_load_atomic (a:=⟨T,ds⟩) a0 (B3 O hw) (by simpa using K.1) rfl a2 a3 hb a4 .u64 he (by rw [Ez];exact O.ev a1) c1,KT ag,DU]
 rfl
theorem aJ(ac:ops[i]? =some ⟨d,.call ⟨.value (.func f),#[x,y],ats⟩,ty,pp,af,g⟩)(Y:b.roundOf=none)(hw:AM L ops ⟨d,.call ⟨.value (.func f),#[x,y],ats⟩,ty,pp,af,g⟩=some true)(U:((b.kind != .early)&&Bf n d)=true)
  (he:BD P f Extern.Atomic.storeT) (ag:ev L x=some (.pointer (some F.sA))) (al:ev L y=some (.int .u64 0))
  (h:JL (AU P false) (Stop P F .Fg) b n (Au L d (.tuple #[])) ds (.inRegion ops rest::k) cs .quiet):
  JL (AU P false) (Stop P F .Hc) b n L ds (.inRegion ops (i::rest)::k) cs .quiet:=λT K=>by
 simp only [Bool.and_eq_true] at U
 obtain⟨fn,am,ap,hb,aq,he⟩:=he.h
 refine(AU P _).stop (IA rfl rfl rfl rfl (by simp) λv wt sm v' wt' sm' es a1 O=>?_)
 simp only [Fam.act] at O
 split at O
 ·rename_i aw
  obtain⟨rfl,rfl⟩:=aw;cases O;refine⟨_,λw Z=>?_,rfl,h _ (K.put U.2 _)⟩;obtain⟨c1,_,c3,_⟩:=ID Z;have a0:(.int .u64 0:Value)= .int .u64 (Fam.word 0 0):=by simp [Fam.word]
  rw [BI Y,BI Y];show stepG P false _ w=_;rw [stepG_store_atomic (a:=⟨T,ds⟩) ac (B3 K hw) (by simpa using U.1) rfl am ap hb aq he (by rw [Ez];exact K.ev ag) (by rw [Ez];exact K.ev al) c1 c3,a0,MN Z,DU]
  rfl
 ·cases O
theorem ZP{m:Nat}(a0:s.q=false)(ac:ops[i]? =some ⟨d,.call ⟨.value (.func f),#[x,y,z],ats⟩,ty,pp,af,g⟩)(Z:b.roundOf=none)(hw:AM L ops ⟨d,.call ⟨.value (.func f),#[x,y,z],ats⟩,ty,pp,af,g⟩=some true)(U:((b.kind != .early)&&Bf n d)=true)
  (he:BD P f (Extern.Atomic.casT (.int .u64))) (ag:ev L x=some (.pointer (some F.sA))) (al:ev L y=some (.int .u64 (Fam.word m 0))) (am:ev L z=some (.int .u64 (Fam.word m 1)))
  (a1:JL (AU P true) (Stop P F .Ix) b n (Au L d (.bool true)) ds (.inRegion ops rest::k) cs s)
  (a2:JL (AU P true) (Stop P F (.FZ (m - 1))) b n (Au L d (.bool false)) ds (.inRegion ops rest::k) cs s):
  JL (AU P true) (Stop P F (.Hm m)) b n L ds (.inRegion ops (i::rest)::k) cs s:=λT K=>by
 simp only [Bool.and_eq_true] at U
 obtain⟨fn,ap,aq,hb,aw,he⟩:=he.h
 refine(AU P _).stop (IA rfl rfl rfl a0 (by simp) λv wt sm v' wt' sm' es a4 O=>?_)
 simp only [Fam.act] at O
 split at O
 ·rename_i a3
  obtain⟨_,_,rfl⟩:=a3;split at O
  ·rename_i e;subst e;cases O;refine⟨_,λw Y=>?_,rfl,a1 _ (K.put U.2 _)⟩;obtain⟨c1,_,c3,_⟩:=ID Y;rw [BI Z,BI Z];show stepG P true _ w=_;rw [stepG_cas_hit (a:=⟨T,ds⟩) ac (B3 K hw) (by simpa using U.1) rfl ap aq hb aw .u64 he (by rw [Ez];exact K.ev ag) (by rw [Ez];exact K.ev al) (by rw [Ez];exact K.ev am) c1 c3,MN Y,DU]
   rfl
  ·rename_i e;cases O;refine⟨_,λw Y=>?_,rfl,a2 _ (K.put U.2 _)⟩;obtain⟨c1,_,c3,_⟩:=ID Y;rw [BI Z,BI Z];show stepG P true _ w=_;rw [stepG_cas_miss (a:=⟨T,ds⟩) ac (B3 K hw) (by simpa using U.1) rfl ap aq hb aw .u64 he (by rw [Ez];exact K.ev ag) (by rw [Ez];exact K.ev al) (by rw [Ez];exact K.ev am) c1 c3 (λq=>e (word_inj q)),KT Y,DU]
   rfl
 ·cases O
theorem Xz{args:Array Operand}{vs:Lv_}(Y:ops[i]? =some ⟨d,.call ⟨.value (.func f),args,ats⟩,ty,pp,af,g⟩)(Z:b.roundOf=none)(hw:AM L ops ⟨d,.call ⟨.value (.func f),args,ats⟩,ty,pp,af,g⟩=some true)(O:((b.kind != .early)&&Bf n d)=true)
  (he:BD P f Extern.Sync.semrelease) (ag:evs L args.toList=some vs) (al:vs[0]? =some (.pointer (some F.mA)))
  (h:JL (Ib P) (IM P 1) b n (Au L d (.tuple #[])) ds (.inRegion ops rest::k) cs .quiet):
  JL (AU P false) (Stop P F .Fg) b n L ds (.inRegion ops (i::rest)::k) cs .quiet:=λT U=>by
 simp only [Bool.and_eq_true] at O
 have am:=RU (P:=P) (b:=b) (ds:=ds) (k:=k) (cs:=cs) (rest:=rest) (T:=T) Y he
 obtain⟨fn,ap,aq,hb,aw,he⟩:=he.h
 refine(AU P _).stop (IA rfl rfl rfl rfl (λ_=>am) λv wt sm v' wt' sm' es a2 K=>?_)
 simp only [Fam.act] at K
 split at K
 ·rename_i a0
  subst a0;cases K;refine⟨_,λw ac=>?_,rfl,Ot (h _ (U.put O.2 _))⟩;obtain⟨_,c2,_,c4⟩:=ID ac;rw [BI Z,BI Z];show stepG P false _ w=_;rw [stepG_semrelease (a:=⟨T,ds⟩) Y (B3 U hw) (by simpa using O.1) rfl ap aq hb aw he (ad:=F.mA) (by rw [JY U ag];simpa using al) c2 c4,DU];have a1:IntKind.u32.wrap (((0:Nat):Int)+1)=((1:Nat):Int):=by decide
  rw [a1,QE ac]
 ·cases K
theorem Vn{args:Array Operand}{vs:Lv_}(aq:s.q=false)(ac:ops[i]? =some ⟨d,.call ⟨.value (.func f),args,ats⟩,ty,pp,af,g⟩)(Y:b.roundOf=none)(hw:AM L ops ⟨d,.call ⟨.value (.func f),args,ats⟩,ty,pp,af,g⟩=some true)(Z:((b.kind != .early)&&Bf n d)=true)
  (he:BD P f Extern.Sync.semacquire) (aw:evs L args.toList=some vs) (a0:vs[0]? =some (.pointer (some F.mA)))
  (h:JL (AU P true) (Stop P F .Hd) b n (Au L d (.tuple #[])) ds (.inRegion ops rest::k) cs s):
  JL (AU P true) (Stop P F .Fw) b n L ds (.inRegion ops (i::rest)::k) cs s:=λT K=>by
 simp only [Bool.and_eq_true] at Z
 obtain⟨fn,ag,al,hb,am,he⟩:=he.h
 have ap:(args.map (⟨T,ds⟩:Act).eval)[0]? =some (.pointer (some F.mA)):=by rw [JY K aw];simpa using a0
 refine(AU P _).stop (GX.stop {
  run:=rfl,offers:=rfl,quiet:=(by simp [Fam.CG]),live:=λ_=>aq,act:=?_,IJ:=(by simp),EZ:=?_,go:=(by simp),lk:=(by simp),Co:=(by simp),store:=(by simp),fin:=(by simp)})
 ·intro v wt sm v' wt' sm' es a3 O;simp only [Fam.act] at O;split at O
  ·rename_i a1;subst a1;cases O;refine⟨_,λw U=>?_,rfl,h _ (K.put Z.2 _)⟩;obtain⟨_,c2,_,c4⟩:=ID U;rw [BI Y,BI Y];show stepG P true _ w=_;rw [stepG_semacquire (a:=⟨T,ds⟩) ac (B3 K hw) (by simpa using Z.1) rfl ag al hb am he (ad:=F.mA) ap c2 (by decide) c4,DU];have a2:(((1:Nat):Int) - 1)=((0:Nat):Int):=by decide
   rw [a2,QE U]
  ·cases O
 ·intro _ w v wt U;obtain⟨_,c2,_,c4⟩:=ID U;rw [BI Y];exact stepG_semacquire_wait (a:=⟨T,ds⟩) ac (B3 K hw) rfl ag al hb am he (ad:=F.mA) ap c2
theorem Sr{args:Array Operand}{vs:Lv_}(Y:s.q=false)(Z:ops[i]? =some ⟨d,.call ⟨.value (.func f),args,ats⟩,ty,pp,af,g⟩)(U:b.roundOf=none)(hw:AM L ops ⟨d,.call ⟨.value (.func f),args,ats⟩,ty,pp,af,g⟩=some true)(K:((b.kind != .early)&&Bf n d)=true)
  (he:BD P f (Extern.Race.marked .acquire)) (ac:evs L args.toList=some vs) (ag:vs[0]? =some (.pointer (some F.sA)))
  (h:∀E' f,Le s.E E'->E' F.fd=none->(∀b,E' b≠none->s.H b=none)->(∀k,k<F.n->F.msg k (f k) E')->∀T,Has n (Au L d (.tuple #[])) T->F.fin (G (fr b T ds (.inRegion ops rest::k)) cs) ⟨E',F.JF s.H f,false⟩):
  JL (AU P true) (Stop P F .Gf) b n L ds (.inRegion ops (i::rest)::k) cs s:=λT O=>by
 simp only [Bool.and_eq_true] at K
 obtain⟨fn,al,am,hb,ap,he⟩:=he.h
 refine(AU P _).stop (GX.stop {
  run:=rfl,offers:=rfl,quiet:=(by simp [Fam.CG]),live:=λ_=>Y,act:=(by simp [Fam.act]),IJ:=(by simp),EZ:=(by simp),go:=(by simp),lk:=(by simp),Co:=(by simp),store:=(by simp),fin:=λ_=>?_})
 refine⟨_,λw=>?_,λE' f a1 aq aw a0=>h E' f a1 aq aw a0 _ (O.put K.2 _)⟩
 rw [BI U,BI U,stepG_markAt (a:=⟨T,ds⟩) .acquire (by simp) Z (B3 O hw) (by simpa using K.1) rfl al am hb ap he (ad:=F.sA) (by rw [JY O ac];simpa using ag),DU]
 rfl
end
section
variable {P:Program}{F:Fam}{J:Judge P}{Q:GP}{n:Nat}{L L':Env}{ds:Ld_}{k:Li_}{cs:Lf_}{s s':St}{b:Frame}{main:Bool}
theorem KR(T:Av_)(ds:Ld_):(⟨T,ds⟩:Act).eval=Bu T:=funext λx=>Ez T ds x
theorem Xf{X:GP}{fn:Func}{c:Code}{vs:Lv_}{caps:Av_}{args:Av_}(O:P.funcs[f]? =some fn)(Z:(fn.name== "runtime.NumGoroutine")=false)(hb:fn.body=some c)(ac:args++caps=vs.toArray)(ap:vs.length<=fn.ntmps)
  (h:JL (AU P false) X (baseD f) fn.ntmps (Ga 0 vs) [] [.code c] [Lg P] s):Way P false X (born P {target:= .fn (.func f) caps,args:=args}) s:=by
 have ag:¬fn.name= "runtime.NumGoroutine" :=by simpa using Z
 refine Judge.C8 (J:=AU P false) V (λw=>?_) (h (vs.toArray++Array.replicate (fn.ntmps - vs.length) undef) ⟨by simp;omega,λt v al=>?_⟩)
 ·show stepG P false _ w=_;have U:=enter_atD (P:=P) vs.toArray O hb;rw [BI (b:=baseD f) rfl];simp only [List.size_toArray] at U;simp [G,born,stepG,unwind,callDeferred,invoke,callFunc,O,ag,hb,GStep.after,seen_none,ac,Lg,U]
 ·obtain⟨_,K⟩:=Jw al;have am:t<vs.length:=by
   rcases Nat.lt_or_ge t vs.length with Y | Y
   ·exact Y
   ·simp at K;have:=(List.getElem?_eq_some_iff.1 K).1;omega
  rw [Array.getD_eq_getD_getElem?,Array.getElem?_append_left (by simpa using am)];simp at K;simp [K]
theorem Zu{T:Av_}{args:Array Operand}{K:Go.Fn}{fi O:Av_}{as:Lv_}(U:Has n L T)(Y:ev L x=some (.func K fi O))(Z:evs L args.toList=some as):
  execOp (Bu T) ⟨d,.go ⟨.value x,args,ats⟩,ty,pp,af,g⟩= .pure (.spawn {target:= .fn K O,args:=fi++as.toArray}):=by
 have ac:args.map (Bu T)=as.toArray:=by
  rw [← FR U.FX Z];apply Array.ext';simp
 simp only [execOp,resolve,bind,Sem.bind,Deferred.ofValue,U.ev Y,pure,ac]
theorem ZY{j:Nat}{args:Array Operand}{fi U:Av_}{as:Lv_}{Y:FuncId}(ag:s.q=false)(al:ops[i]? =some ⟨d,.go ⟨.value x,args,ats⟩,ty,pp,af,g⟩)(Z:b.roundOf=none)(hw:AM L ops ⟨d,.go ⟨.value x,args,ats⟩,ty,pp,af,g⟩=some true)(K:((b.kind != .early)&&Bf n d)=true)
  (am:ev L x=some (.func (.func Y) fi U)) (ap:evs L args.toList=some as)
  (aq:Way P false (Stop P F (F.start j)) (born P {target:= .fn (.func Y) U,args:=fi++as.toArray}) ⟨s.E,λ_=>none,false⟩)
  (aw:JL (AU P true) (Stop P F (F.Et j)) b n (Au L d undef) ds (.inRegion ops rest::k) cs s):
  JL (AU P true) (Stop P F (.FK j)) b n L ds (.inRegion ops (i::rest)::k) cs s:=λT O=>by
 simp only [Bool.and_eq_true] at K
 have ac:=Zu (d:=d) (ats:=ats) (ty:=ty) (pp:=pp) (af:=af) (g:=g) O am ap
 refine(AU P _).stop (GX.stop {
  run:=rfl,offers:=rfl,quiet:=(by simp [Fam.CG]),live:=λ_=>ag,act:=(by simp [Fam.act]),IJ:=(by simp),EZ:=(by simp),go:=λa0 e=>?_,lk:=(by simp),Co:=(by simp),store:=(by simp),fin:=(by simp)})
 cases e
 refine⟨G (fr b (CC T d undef) ds (.inRegion ops rest::k)) cs,_,rfl,rfl,λw=>?_,aq,aw _ (O.put K.2 _)⟩
 rw [BI Z,BI Z,stepG_spawn (a:=⟨T,ds⟩) (w':=w) al (B3 O hw) (by simpa using K.1) (by rw [KR,ac];rfl) rfl,listed_none (by rw [KR,ac];simp [Sem.events_pure']),DU]
theorem JO.SQ{j:Nat}(Y:s.q=false)(K:b.roundOf=none)(he:BD P f (λ_=>do mark .enable;pure Extern.Race.none_))
  (h:JO (AU P true) (Stop P F (.FK j)) b n L ds cs s):JO (AU P true) (Stop P F (.G1 j)) b n L (dcall f #[]::ds) cs s:=λT Z todo=>by
 obtain⟨fn,ac,ag,hb,al,he⟩:=he.h
 refine(AU P _).stop (IA rfl rfl rfl Y (by simp) λv wt sm v' wt' sm' es ap O=>?_)
 simp only [Fam.act] at O
 cases O
 refine⟨G (Ej b T ds todo) cs,λw am=>?_,rfl,h T Z todo⟩
 rw [KS K,KS K,KT am]
 exact stepG_unwind_entry (a:=⟨T,dcall f #[]::ds⟩) (v:= .tuple #[]) (evs:= #[Fam.Cy .enable]) rfl ac ag hb al he (by simp [Extern.Race.none_]) (by simp;rfl) (by
  intro x U
  simp at U
  subst U
  exact⟨rfl,λg h=>by cases h⟩)
theorem JO.Ni(K:b.roundOf=none)(he:BD P f (λ_=>do mark .enable;pure Extern.Race.none_))
  (h:JO (Ib P) (IM P 0) b n L ds cs .quiet):JO (Ib P) (IM P 1) b n L (dcall f #[]::ds) cs .quiet:=λT U todo=>by
 obtain⟨fn,Y,Z,hb,ac,he⟩:=he.h
 refine(Ib P).stop ?_
 obtain⟨q,O⟩:=Ot (h T U todo)
 rw [KS K] at O
 rw [KS K]
 exact⟨q+1,QuitsD.unwind_mark (a:=⟨T,dcall f #[]::ds⟩) .enable rfl (by simp) rfl Y Z hb ac he O⟩
end
def Uh:BinOp->Int->Int->Option Bool
 | .lss,m,m'=>some (decide (m<m'))
 | .leq,m,m'=>some (decide (m<=m'))
 | .gtr,m,m'=>some (decide (m'<m))
 | .geq,m,m'=>some (decide (m'<=m))
 | .eql,m,m'=>some (decide (m=m'))
 | .neq,m,m'=>some (decide (m≠m'))
 | _,_,_=>none
def KC(L:Env):Op->Option Value
 | .move x=>ev L x
 | .assign x=>ev L x
 | .pick z x y=>match ev L z with
  | some (.bool true)=>ev L x
  | some (.bool false)=>ev L y
  | _=>none
 | .extract x i=>match ev L x with
  | some (.tuple vs)=>vs[i]?
  | _=>none
 | .nilCheck x=>match ev L x with
  | some (.pointer (some a))=>some (.pointer (some a))
  | _=>none
 | .binOp op _ x y _=>match ev L x with
  | some (.int kd m)=>match ev L y with
   | some (.int kd' m')=>if kd=kd' then(match Uh op m m' with | some t=>some (.bool t) | none=>none) else none
   | _=>none
  | _=>none
 | _=>none
theorem Yy{P:Program}{s:St}{ρ:Operand->Value}{d:Option Tmp}{x y:Operand}{t u ty:TypeId}{p:String}{af:Ae_}{g:On_}{kd:IntKind}{m m':Int}(K:ρ x= .int kd m)(O:ρ y= .int kd m'):Yl P ⟨d,.binOp .neq t x y u,ty,p,af,g⟩ ρ s (.bool (decide (m≠m'))):=by
 have h:=Yl.neq (P:=P) (s:=s) (d:=d) (t:=t) (u:=u) (ty:=ty) (p:=p) (af:=af) (g:=g) K O;simpa using h
theorem Na{P:Program}{L:Env}{ρ:Operand->Value}{s:St}{o:Oper}{v:Value}(K:EA L ρ)(h:KC L o.op=some v):Yl P o ρ s v:=by
 obtain⟨d,op,ty,p,af,g⟩:=o;simp only at h;unfold KC at h;split at h
 ·exact Yl.move (K _ _ h)
 ·exact Yl.assign (K _ _ h)
 ·split at h
  ·rename_i e;exact LG (K _ _ e) (K _ _ h)
  ·rename_i e;exact Wt (K _ _ e) (K _ _ h)
  ·cases h
 ·split at h
  ·rename_i e;exact Yl.extract (K _ _ e) h
  ·cases h
 ·split at h
  ·rename_i e;cases h;exact Yl.nilCheck (K _ _ e)
  ·cases h
 ·split at h
  ·rename_i O;split at h
   ·rename_i U;split at h
    ·rename_i e;subst e;split at h
     ·rename_i e;cases h;unfold Uh at e;split at e
      ·cases e;exact Yl.lss (K _ _ O) (K _ _ U)
      ·cases e;exact Yl.leq (K _ _ O) (K _ _ U)
      ·cases e;exact Yl.gtr (K _ _ O) (K _ _ U)
      ·cases e;exact Yl.geq (K _ _ O) (K _ _ U)
      ·cases e;exact Yl.eql (K _ _ O) (K _ _ U)
      ·cases e;exact Yy (K _ _ O) (K _ _ U)
      ·cases e
     ·cases h
    ·cases h
   ·cases h
  ·cases h
 ·cases h
def Jg:List Oper->Nat->Option Oper
 | [],_=>none
 | o::_,0=>some o
 | _::os,i+1=>Jg os i
theorem K5:∀(os:List Oper) (i:Nat),Jg os i=os[i]?
 | [],i=>by simp [Jg]
 | _::_,0=>rfl
 | _::os,i+1=>by simp [Jg,K5 os i]
def NX(b:Frame)(n:Nat)(L:Env):Li_->Option (Li_×Env)
 | .code (.seq x y)::k=>some (.code x:: .code y::k,L)
 | .code (.block i c)::k=>some (.code c:: .inBlock i::k,L)
 | .code (.scope c)::k=>some (.code c:: .inScope c::k,L)
 | .code .skip::k=>some (k,L)
 | .code (.exit i)::k=>match exitTo i k with
  | some k'=>some (k',L)
  | none=>none
 | .code (.cond c x y)::k=>match ev L c with
  | some (.bool true)=>some (.code x::k,L)
  | some (.bool false)=>some (.code y::k,L)
  | _=>none
 | .code (.region _ ops false)::k=>some (.inRegion ops (List.range ops.size)::k,L)
 | .inBlock _::k=>some (k,L)
 | .inScope _::k=>some (k,L)
 | .inRegion _ []::k=>some (k,L)
 | .inRegion ops (i::rest)::k=>match Jg ops.toList i with
  | some ⟨d,op,ty,p,af,g⟩=>match AM L ops ⟨d,op,ty,p,af,g⟩ with
   | some true=>match BH b n ⟨d,op,ty,p,af,g⟩ with
    | true=>match KC L op with
     | some v=>match d with
      | some d=>some (.inRegion ops rest::k,(d,v)::L)
      | none=>some (.inRegion ops rest::k,L)
     | none=>none
    | false=>none
   | some false=>match Bf n d with
    | true=>match d with
     | some d=>some (.inRegion ops rest::k,(d,undef)::L)
     | none=>some (.inRegion ops rest::k,L)
    | false=>none
   | none=>none
  | none=>none
 | _=>none
def Nv(b:Frame)(n:Nat):Nat->Li_->Env->Option (Li_×Env)
 | 0,k,L=>some (k,L)
 | m+1,k,L=>match NX b n L k with
  | some (k',L')=>Nv b n m k' L'
  | none=>none
variable {L':Env}{k':Li_}
section
variable {n:Nat}
theorem Tv(h:NX b n L k=some (k',L'))(K:JL J Q b n L' ds k' cs s):JL J Q b n L ds k cs s:=by
 unfold NX at h;split at h
 ·cases h;exact JL.seq K
 ·cases h;exact JL.block K
 ·cases h;exact JL.scope K
 ·cases h;exact JL.skip K
 ·split at h
  ·rename_i e;cases h;exact JL.exit e K
  ·cases h
 ·split at h
  ·rename_i e;cases h;exact Wk e K
  ·rename_i e;cases h;exact VF e K
  ·cases h
 ·cases h;exact JL.region K
 ·cases h;exact ML K
 ·cases h;exact UY K
 ·cases h;exact JL.done K
 ·split at h
  ·rename_i d op ty p af g O;rw [K5,Array.getElem?_toList] at O;split at h
   ·rename_i hw;split at h
    ·rename_i U;split at h
     ·rename_i v Z;cases d with
      | none=>cases h;exact A1 O hw U (λρ Y=>Na Y Z) K
      | some d=>cases h;exact A1 O hw U (λρ Y=>Na Y Z) K
     ·cases h
    ·cases h
   ·rename_i hw;split at h
    ·rename_i U;cases d with
     | none=>cases h;exact Ih O hw U K
     | some d=>cases h;exact Ih O hw U K
    ·cases h
   ·cases h
  ·cases h
 ·cases h
theorem JL.go(m:Nat)(h:Nv b n m k L=some (k',L'))(K:JL J Q b n L' ds k' cs s):JL J Q b n L ds k cs s:=by
 induction m generalizing k L with
 | zero=>cases h;exact K
 | succ m O=>
  unfold Nv at h;split at h
  ·rename_i e;exact Tv e (O h)
  ·cases h
end
abbrev Ak(a o:Nat):Value:= .pointer (some ⟨a,o,none⟩)
abbrev sV{α:Type}(a:Option Addr)(l:List α)(c:Nat):Value:= .slice a l.length c
abbrev fV(n:Nat):Value:= .func (.func n) #[] #[]
abbrev nS:Value:= .slice none 0 0
abbrev AW(r:Nat):Option Addr:=some ⟨r,0,none⟩
open Go.Conc.Lib Go.ConcR.Gen
theorem F6{P:Program}{t:TypeId}{n:Nat}(h:∀w,Sem.run P (Go.sizeOf t) w= .ok n w):Bj P t=some n:=by
 have K:=h default;unfold Bj;simp only [Go.sizeOf,typeInfo,bind,Sem.bind,program,Sem.run] at K;cases hi:P.info? t with
 | none=>rw [hi] at K;simp [stuck,Sem.run,Sem.bind] at K
 | some i=>
  rw [hi] at K;simp [pure,Sem.bind,Sem.run] at K;simp [K]
section
variable {L:WgLink}(H:WgLib P L)
include H
theorem MM:BD P L.disable (λ_=>do mark .disable;pure Extern.Race.none_):=⟨⟨_,H.f_disable,x_disable_n L,x_disable_b L,x_disable_x L,x_disable_f L⟩⟩
theorem IX:BD P L.enable (λ_=>do mark .enable;pure Extern.Race.none_):=⟨⟨_,H.f_enable,x_enable_n L,x_enable_b L,x_enable_x L,x_enable_f L⟩⟩
theorem Qs:BD P L.relMerge (Extern.Race.marked .releaseMerge):=⟨⟨_,H.f_relMerge,x_relMerge_n L,x_relMerge_b L,x_relMerge_x L,x_relMerge_f L⟩⟩
theorem Ox:BD P L.acquire (Extern.Race.marked .acquire):=⟨⟨_,H.f_acquire,x_acquire_n L,x_acquire_b L,x_acquire_x L,x_acquire_f L⟩⟩
theorem XC:BD P L.raceRead (Extern.Race.marked .read):=⟨⟨_,H.f_raceRead,x_raceRead_n L,x_raceRead_b L,x_raceRead_x L,x_raceRead_f L⟩⟩
theorem VH:BD P L.raceWrite (Extern.Race.marked .write):=⟨⟨_,H.f_raceWrite,x_raceWrite_n L,x_raceWrite_b L,x_raceWrite_x L,x_raceWrite_f L⟩⟩
theorem SS:BD P L.addU64 (Extern.Atomic.update (Op.intArith .add) .u64 true):=⟨⟨_,H.f_addU64,x_addU64_n L,x_addU64_b L,x_addU64_x L,x_addU64_f L⟩⟩
theorem W9:BD P L.loadU64 (Extern.Atomic.loadT (.int .u64)):=⟨⟨_,H.f_loadU64,x_loadU64_n L,x_loadU64_b L,x_loadU64_x L,x_loadU64_f L⟩⟩
theorem V7:BD P L.storeU64 Extern.Atomic.storeT:=⟨⟨_,H.f_storeU64,x_storeU64_n L,x_storeU64_b L,x_storeU64_x L,x_storeU64_f L⟩⟩
theorem YB:BD P L.casU64 (Extern.Atomic.casT (.int .u64)):=⟨⟨_,H.f_casU64,x_casU64_n L,x_casU64_b L,x_casU64_x L,x_casU64_f L⟩⟩
theorem V4:BD P L.semrelease Extern.Sync.semrelease:=⟨⟨_,H.f_semrelease,x_semrelease_n L,x_semrelease_b L,x_semrelease_x L,x_semrelease_f L⟩⟩
theorem U9:BD P L.semacquire Extern.Sync.semacquire:=⟨⟨_,H.f_semacquire,x_semacquire_n L,x_semacquire_b L,x_semacquire_x L,x_semacquire_f L⟩⟩
theorem QG:BD P L.inBubble (λ_=>pure (.bool false)):=⟨⟨_,H.f_inBubble,x_inBubble_n L,x_inBubble_b L,x_inBubble_x L,x_inBubble_f L⟩⟩
end
variable {tw:TypeId}
section
variable {P:Program}{F:Fam}{J:Judge P}{Q:GP}{n:Nat}{L L':Env}{ds:Ld_}{k:Li_}{cs:Lf_}{s s':St}{b:Frame}{main:Bool}
theorem Yl.to{o:Oper}{ρ:Operand->Value}{v v':Value}(h:Yl P o ρ s v)(e:v=v'):Yl P o ρ s v':=e▸h
theorem LV{ad:Addr}(aw:K4 p=true)(a0:if Fam.CG p=true then s= .quiet else s.q=false)(a1:p≠ .Fg)(a2:∀v wt sm,F.act p v wt sm=some ((v,wt,sm),#[],.ph q))(a3:Fam.Jh p s=s)
  (a4:ops[i]? =some ⟨d,.convert t u x,ty,pp,af,g⟩) (U:b.roundOf=none) (hw:AM L ops ⟨d,.convert t u x,ty,pp,af,g⟩=some true) (K:((b.kind != .early)&&Bf n d)=true)
  (Y:P.underlying t=some (.pointer tw)) (hu:P.underlying u=some .unsafePointer) (Z:(P.info? tw).map (λi=>decide (i.size=0))=some false) (a5:ev L x=some (.pointer (some ad))) (hb:ad=F.sA∨ad=F.mA)
  (h:JL (AU P (Fam.Cv p)) (Stop P F q) b n (Au L d (.pointer (some ad))) ds (.inRegion ops rest::k) cs s):
  JL (AU P (Fam.Cv p)) (Stop P F p) b n L ds (.inRegion ops (i::rest)::k) cs s:=λT O=>by
 simp only [Bool.and_eq_true] at K
 refine(AU P _).stop (IA aw rfl rfl a0 (λe=>absurd e a1) λv wt sm v' wt' sm' es a7 ac=>?_)
 rw [a2] at ac;cases ac
 refine⟨_,λw ag=>?_,rfl,by rw [a3];exact h _ (O.put K.2 _)⟩
 obtain⟨al,am⟩:∃al,w.cell? ad=some al:=by
  obtain⟨c1,c2,_,_⟩:=ID ag;rcases hb with e | e <;> rw [e]
  ·exact⟨_,c1⟩
  ·exact⟨_,c2⟩
 have ap:=run_convert_to_unsafe (P:=P) (w:=w) Y hu Z am;have a6:=events_convert_to_unsafe (P:=P) (w:=w) Y hu Z am;have aq:execOp (⟨T,ds⟩:Act).eval ⟨d,.convert t u x,ty,pp,af,g⟩=(do pure (Next.value (← Go.convert t u (.pointer (some ad))))):=by
  rw [KR];simp only [execOp,O.ev a5]
 rw [BI U,BI U,stepG_value (a:=⟨T,ds⟩) (v:= .pointer (some ad)) (w':=w) a4 (B3 O hw) (by simpa using K.1) (by rw [aq];simp [ap,Result.andThen]),KT ag,DU];have e2:listed P b.fn ⟨T,ds⟩ ⟨d,.convert t u x,ty,pp,af,g⟩ w= #[]:=by
  unfold listed;rw [aq];simp [ap,a6,Result.evThen,seen_none]
 rw [e2]
end
section
variable {P:Program}{F:Fam}{J:Judge P}{Q:GP}{n:Nat}{L L':Env}{ds:Ld_}{k:Li_}{cs:Lf_}{s s':St}{b:Frame}{main:Bool}
def cn(P:Program)(b:Frame)(n:Nat)(L:Env)(d:Option Tmp)(ds:Ld_)(todo:Li_)(cs:Lf_)(U:Frame):Prop:=
 ∀(K:Judge P) (O:GP) (v:Value) (s':St),JL K O b n (Au L d v) ds todo cs s'->K.ok O (G (U.finish v) cs) s'
theorem Hb{fn:Func}{c:Code}(Y:ops[i]? =some ⟨d,.call ⟨.value (.func f),args,ats⟩,ty,pp,af,g⟩)(hw:AM L ops ⟨d,.call ⟨.value (.func f),args,ats⟩,ty,pp,af,g⟩=some true)(O:((b.kind != .early)&&Bf n d)=true)
  (Z:P.funcs[f]? =some fn) (al:(fn.name== "runtime.NumGoroutine")=false) (hb:fn.body=some c) (am:evs L args.toList=some vs) (a3:vs.length<=fn.ntmps)
  (h:∀ac:Frame,cn P b n L d ds (.inRegion ops rest::k) cs ac->JL J Q (base f) fn.ntmps (Ga 0 vs) [] [.code c] (ac::cs) s):
  JL J Q b n L ds (.inRegion ops (i::rest)::k) cs s:=λT U=>by
 simp only [Bool.and_eq_true] at O
 have ap:args.map (Bu T)=vs.toArray:=by
  rw [← FR U.FX am];apply Array.ext';simp
 refine Judge.oper Y (B3 U hw) (by simpa using O.1) (.inr λc aq=>by cases aq) ?_;have aw:Dm P f=true:=by unfold Dm;rw [Z];simp [al,hb]
 have hd:lp P (execOp (Bu T) ⟨d,.call ⟨.value (.func f),args,ats⟩,ty,pp,af,g⟩) s (upon J Q b T ds ops i rest k cs d) (Lb J Q b T ds ops i rest k cs):=by
  simp only [execOp,resolve,bind,Sem.bind,Deferred.ofValue,Bu,pure,invoke];have e: #[]++args.map (Bu T)++ #[]=vs.toArray:=by rw [ap];simp
  rw [e];refine IW aw ?_;have he:Frame.enter P f vs.toArray .normal=fr (base f) (vs.toArray++Array.replicate (fn.ntmps - vs.length) undef) [] [.code c]:=by
   simp [Frame.enter,fr,Z,hb,base];rfl
  show J.ok Q (G (Frame.enter P f vs.toArray .normal) _) s;rw [he];refine h _ (λa4 a5 v s' a0=>?_) _ ⟨by simp;omega,λt v a1=>?_⟩
  ·rw [Gq (o:=⟨d,.call ⟨.value (.func f),args,ats⟩,ty,pp,af,g⟩) _ _ _ _ _ Y];exact a0 _ (U.put O.2 v)
  ·obtain⟨_,K⟩:=Jw a1;have a2:t<vs.length:=by
    rcases Nat.lt_or_ge t vs.length with ag | ag
    ·exact ag
    ·simp at K;have:=(List.getElem?_eq_some_iff.1 K).1;omega
   rw [Array.getD_eq_getD_getElem?,Array.getElem?_append_left (by simpa using a2)];simp at K;simp [K]
 exact hd
theorem Yl.ext{e:Av_->Sem Value}{v:Value}{ρ:Operand->Value}(he:BD P f e)(O:args.map ρ=vs.toArray)(h:e vs.toArray= .pure v):Yl P ⟨d,.call ⟨.value (.func f),args,ats⟩,ty,pp,af,g⟩ ρ s v∨ρ (.func f)≠ .func (.func f) #[] #[]:=by
 by_cases K:ρ (.func f)= .func (.func f) #[] #[]
 ·left;obtain⟨fn,U,Y,Z,ac,ag⟩:=he.h;unfold Yl;simp only [execOp,resolve,bind,Sem.bind,Deferred.ofValue,K,pure,invoke];have al: #[]++args.map ρ++ #[]=vs.toArray:=by rw [O];simp
  rw [al];have am:fn.body=none:=by simpa using Z
  simp only [callFunc,bind,Sem.bind,program,lp,U,Y,am,Option.isNone_none,Bool.false_eq_true,if_false,if_true,mark,ac,ag,h,pure];exact⟨.inr ⟨f,V⟩,trivial,trivial⟩
 ·exact .inr K
theorem JL.ext{e:Av_->Sem Value}{v:Value}(O:ops[i]? =some ⟨d,.call ⟨.value (.func f),args,ats⟩,ty,pp,af,g⟩)(hw:AM L ops ⟨d,.call ⟨.value (.func f),args,ats⟩,ty,pp,af,g⟩=some true)(U:BH b n ⟨d,.call ⟨.value (.func f),args,ats⟩,ty,pp,af,g⟩=true)
  (he:BD P f e) (Y:evs L args.toList=some vs) (Z:e vs.toArray= .pure v) (h:JL J Q b n (Au L d v) ds (.inRegion ops rest::k) cs s):JL J Q b n L ds (.inRegion ops (i::rest)::k) cs s:=
 A1 O hw U (λρ K=>by
  have ac:args.map ρ=vs.toArray:=by
   rw [← FR K Y]
   apply Array.ext';simp
  rcases Yl.ext (s:=s) (d:=d) (ats:=ats) (ty:=ty) (pp:=pp) (af:=af) (g:=g) he ac Z with q | q
  ·exact q
  ·exact absurd (K (.func f) _ rfl) q) h
end
section
variable {P:Program}{L:WgLink}(H:WgLib P L){F:Fam}{n:Nat}{M:Env}{ds:Ld_}{k:Li_}{cs:Lf_}{s:St}{b:Frame}
include H
theorem Xi(K:ops[i]? =some ⟨d,.call ⟨.value (.func L.uAdd),#[x,y],ats⟩,ty,pp,af,g⟩)(hw:AM M ops ⟨d,.call ⟨.value (.func L.uAdd),#[x,y],ats⟩,ty,pp,af,g⟩=some true)(O:((b.kind != .early)&&Bf n d)=true)
  (U:ev M x=some (.pointer (some F.sA))) (Y:ev M y=some (.int .u64 18446744069414584320))
  (Z:JL (AU P false) (Stop P F .GR) b n (Au M d (.int .u64 (Fam.word 0 1))) ds (.inRegion ops rest::k) cs .quiet)
  (ac:∀v wt:Nat,v<2147483647->wt<=1->¬(v=0/\wt=1)->JL (Ib P) (IM P 1) b n (Au M d (.int .u64 (Fam.word v wt))) ds (.inRegion ops rest::k) cs .quiet):
  JL (AU P false) (Stop P F .Hk) b n M ds (.inRegion ops (i::rest)::k) cs .quiet:=by
 refine Hb (vs:= [.pointer (some F.sA),.int .u64 18446744069414584320]) K hw O H.f_uAdd (nm_uAdd L) V (by simp [evs,U,Y]) (Nat.le_of_ble_eq_true V) λap back=>JL.go 8 V (A1 V V V (λρ h=>Yl.fieldAddr H.underlying_tAU V (F6 H.sizeOf_tU64) (h _ _ V)) ?_);refine JL.go 1 V (Ye V V V V (SS H) V V ?_ λv wt ag al am=>?_)
 ·refine A1 V V V (λρ h=>Yl.assign (h _ _ V)) (JL.done ?_);exact JL.ret V V (By.one H.f_uAdd V V) (back _ _ _ _ Z)
 ·refine A1 V V V (λρ h=>Yl.assign (h _ _ V)) (JL.done ?_);exact JL.ret V V (By.one H.f_uAdd V V) (back _ _ _ _ (ac v wt ag al am))
theorem Xa{j:Nat}(K:s.q=false)(O:ops[i]? =some ⟨d,.call ⟨.value (.func L.uAdd),#[x,y],ats⟩,ty,pp,af,g⟩)(hw:AM M ops ⟨d,.call ⟨.value (.func L.uAdd),#[x,y],ats⟩,ty,pp,af,g⟩=some true)(U:((b.kind != .early)&&Bf n d)=true)
  (Y:ev M x=some (.pointer (some F.sA))) (Z:ev M y=some (.int .u64 4294967296))
  (ac:JL (AU P true) (Stop P F (.Iv j)) b n (Au M d (.int .u64 (Fam.word 1 0))) ds (.inRegion ops rest::k) cs s)
  (ag:∀v:Nat,1<=v->v<2147483647->JL (AU P true) (Stop P F (.G1 j)) b n (Au M d (.int .u64 (Fam.word (v+1) 0))) ds (.inRegion ops rest::k) cs s):
  JL (AU P true) (Stop P F (.Ir j)) b n M ds (.inRegion ops (i::rest)::k) cs s:=by
 refine Hb (vs:= [.pointer (some F.sA),.int .u64 4294967296]) O hw U H.f_uAdd (nm_uAdd L) V (by simp [evs,Y,Z]) (Nat.le_of_ble_eq_true V) λap back=>JL.go 8 V (A1 V V V (λρ h=>Yl.fieldAddr H.underlying_tAU V (F6 H.sizeOf_tU64) (h _ _ V)) ?_);refine JL.go 1 V (Yp K V V V V (SS H) V V ?_ λv al am=>?_)
 ·refine A1 V V V (λρ h=>Yl.assign (h _ _ V)) (JL.done ?_);exact JL.ret V V (By.one H.f_uAdd V V) (back _ _ _ _ ac)
 ·refine A1 V V V (λρ h=>Yl.assign (h _ _ V)) (JL.done ?_);exact JL.ret V V (By.one H.f_uAdd V V) (back _ _ _ _ (ag v al am))
theorem JL.uLoad(K:K4 p=true)(O:if Fam.CG p=true then s= .quiet else s.q=false)(U:p≠ .Fg)(Y:Fam.Jh p s=s)(Z:∀v wt sm r,F.act p v wt sm=some r->r.1=(v,wt,sm)/\r.2.1= #[Fam.B8 F.sA])(ac:ops[i]? =some ⟨d,.call ⟨.value (.func L.uLoad),#[x],ats⟩,ty,pp,af,g⟩)(hw:AM M ops ⟨d,.call ⟨.value (.func L.uLoad),#[x],ats⟩,ty,pp,af,g⟩=some true)(ag:((b.kind != .early)&&Bf n d)=true)
  (al:ev M x=some (.pointer (some F.sA)))
  (h:∀v wt sm r,F.act p v wt sm=some r->∃q,r.2.2= .ph q/\JL (AU P (Fam.Cv p)) (Stop P F q) b n (Au M d (.int .u64 (Fam.word v wt))) ds (.inRegion ops rest::k) cs s):
  JL (AU P (Fam.Cv p)) (Stop P F p) b n M ds (.inRegion ops (i::rest)::k) cs s:=by
 refine Hb (vs:= [.pointer (some F.sA)]) ac hw ag H.f_uLoad (nm_uLoad L) V (by simp [evs,al]) (Nat.le_of_ble_eq_true V) λaw back=>JL.go 8 V (A1 V V V (λρ h=>Yl.fieldAddr H.underlying_tAU V (F6 H.sizeOf_tU64) (h _ _ V)) ?_);refine az K O U Y Z V V V V (W9 H) V λv wt sm r am=>?_;obtain⟨q,ap,aq⟩:=h v wt sm r am;refine⟨q,ap,?_⟩
 ·refine A1 V V V (λρ h=>Yl.assign (h _ _ V)) (JL.done ?_);exact JL.ret V V (By.one H.f_uLoad V V) (back _ _ _ _ aq)
theorem JL.uStore(K:ops[i]? =some ⟨d,.call ⟨.value (.func L.uStore),#[x,y],ats⟩,ty,pp,af,g⟩)(hw:AM M ops ⟨d,.call ⟨.value (.func L.uStore),#[x,y],ats⟩,ty,pp,af,g⟩=some true)(O:((b.kind != .early)&&Bf n d)=true)
  (U:ev M x=some (.pointer (some F.sA))) (Y:ev M y=some (.int .u64 0))
  (h:JL (AU P false) (Stop P F .Fg) b n (Au M d (.tuple #[])) ds (.inRegion ops rest::k) cs .quiet):
  JL (AU P false) (Stop P F .Hc) b n M ds (.inRegion ops (i::rest)::k) cs .quiet:=by
 refine Hb (vs:= [.pointer (some F.sA),.int .u64 0]) K hw O H.f_uStore (nm_uStore L) V (by simp [evs,U,Y]) (Nat.le_of_ble_eq_true V) λZ back=>JL.go 3 V (A1 V V V (λρ h=>Yl.fieldAddr H.underlying_tAU V (F6 H.sizeOf_tU64) (h _ _ V)) ?_);refine JL.go 1 V (aJ V V V V (V7 H) V V ?_);exact JL.done (JL.fin V V (By.none H.f_uStore V) (back _ _ _ _ h))
theorem JL.uCas{m:Nat}(K:s.q=false)(O:ops[i]? =some ⟨d,.call ⟨.value (.func L.uCas),#[x,y,z],ats⟩,ty,pp,af,g⟩)(hw:AM M ops ⟨d,.call ⟨.value (.func L.uCas),#[x,y,z],ats⟩,ty,pp,af,g⟩=some true)(U:((b.kind != .early)&&Bf n d)=true)
  (Y:ev M x=some (.pointer (some F.sA))) (Z:ev M y=some (.int .u64 (Fam.word m 0))) (ac:ev M z=some (.int .u64 (Fam.word m 1)))
  (ag:JL (AU P true) (Stop P F .Ix) b n (Au M d (.bool true)) ds (.inRegion ops rest::k) cs s)
  (al:JL (AU P true) (Stop P F (.FZ (m - 1))) b n (Au M d (.bool false)) ds (.inRegion ops rest::k) cs s):
  JL (AU P true) (Stop P F (.Hm m)) b n M ds (.inRegion ops (i::rest)::k) cs s:=by
 refine Hb (vs:= [.pointer (some F.sA),.int .u64 (Fam.word m 0),.int .u64 (Fam.word m 1)]) O hw U H.f_uCas (nm_uCas L) V (by simp [evs,Y,Z,ac]) (Nat.le_of_ble_eq_true V) λam back=>JL.go 8 V (A1 V V V (λρ h=>Yl.fieldAddr H.underlying_tAU V (F6 H.sizeOf_tU64) (h _ _ V)) ?_);refine JL.go 2 V (ZP (m:=m) K V V V V (YB H) V V V ?_ ?_)
 ·refine A1 V V V (λρ h=>Yl.assign (h _ _ V)) (JL.done ?_);exact JL.ret V V (By.one H.f_uCas V V) (back _ _ _ _ ag)
 ·refine A1 V V V (λρ h=>Yl.assign (h _ _ V)) (JL.done ?_);exact JL.ret V V (By.one H.f_uCas V V) (back _ _ _ _ al)
end
theorem K8{v wt:Nat}(K:v<2147483648)(O:wt<=1):IntKind.u64.wrap (BitVec.ofInt IntKind.u64.bits (Fam.word v wt)&&& BitVec.ofInt IntKind.u64.bits 2147483648).toNat=0:=by
 have:=Go.ConcN.st_flag v wt K O;simpa [bits,Fam.word,Fam.KK] using this
theorem La{v wt:Nat}(K:v<2147483648)(O:wt<=1):IntKind.u64.wrap (BitVec.ofInt IntKind.u64.bits (Fam.word v wt)&&& BitVec.ofInt IntKind.u64.bits 2147483647).toNat=(wt:Int):=by
 have:=Go.ConcN.st_waiters v wt K O;simpa [bits,Fam.word,Fam.KK] using this
theorem KX{v wt:Nat}(K:wt<=1):(Fam.word v wt).fdiv (2 ^ (min (32:Int).toNat IntKind.u64.bits))=(v:Int):=by
 have e:(2:Int) ^ (min (32:Int).toNat IntKind.u64.bits)=4294967296:=by decide
 rw [e,Int.fdiv_eq_ediv_of_nonneg _ (by decide)];simp only [Fam.word,Fam.KK];omega
theorem wrap_i32{v:Nat}(K:v<2147483648):IntKind.i32.wrap (v:Int)=v:=by
 simp only [IntKind.wrap,IntKind.bits,IntKind.signed];simp;split <;> omega
theorem wrap_u32{v:Nat}(K:v<=1):IntKind.u32.wrap (v:Int)=v:=by
 simp only [IntKind.wrap,IntKind.bits,IntKind.signed];simp;omega
theorem Wy{F:Fam}:∀v wt sm r,F.act .GR v wt sm=some r->r.1=(v,wt,sm)/\r.2.1= #[Fam.B8 F.sA]:=by
 intro v wt sm r h;simp only [Fam.act] at h;split at h
 ·rename_i K;obtain⟨rfl,rfl⟩:=K;cases h;exact⟨V,V⟩
 ·cases h
theorem W2{F:Fam}{v wt sm:Nat}{r}(h:F.act .GR v wt sm=some r):v=0/\wt=1/\r.2.2= .ph .Hc:=by
 simp only [Fam.act] at h;split at h
 ·rename_i K;cases h;exact⟨K.1,K.2,V⟩
 ·cases h
section
variable {P:Program}{L:WgLink}(H:WgLib P L){F:Fam}{n:Nat}{M:Env}{ds:Ld_}{k:Li_}{cs:Lf_}{s:St}{b:Frame}
include H
theorem WB(U:s.q=false)(Y:ops[i]? =some ⟨d,.call ⟨.value (.func L.add),#[x,y],ats⟩,ty,pp,af,g⟩)(hw:AM M ops ⟨d,.call ⟨.value (.func L.add),#[x,y],ats⟩,ty,pp,af,g⟩=some true)(Z:((b.kind != .early)&&Bf n d)=true)
  (ac:ev M x=some (.pointer (some F.sA))) (ag:ev M y=some (.int .i64 (-1)))
  (h:JL (Ib P) (IM P 0) b n (Au M d (.tuple #[])) ds (.inRegion ops rest::k) cs .quiet):
  JL (AU P false) (Stop P F .HS) b n M ds (.inRegion ops (i::rest)::k) cs s:=by
 refine Hb (vs:= [.pointer (some F.sA),.int .i64 (-1)]) Y hw Z H.f_add (nm_add L) V (by simp [evs,ac,ag]) (Nat.le_of_ble_eq_true V) λam back=>JL.go 11 V (LV (p:= .HS) (q:= .Gu) (ad:=F.sA) V U (by simp) (λ_ _ _=>V) V V V V V H.underlying_tWgP H.underlying_tUP H.room_tWg V (.inl V) ?_)
 refine OI (p:= .Gu) (q:= .IL) (mk:= .releaseMerge) (ad:=F.sA) (vs:= [.pointer (some F.sA)]) V U (by simp) (λ_ _ _=>V) V V V V (by simp) (Qs H) V V (JL.go 3 V ?_);refine LL (p:= .IL) (q:= .Hk) V V (by simp) (λ_ _ _=>V) V V V V V (by simp) (MM H) (JL.go 2 V ?_);refine JL.defer (vs:= []) V V V V V (JL.go 8 V ?_);refine JL.ext (vs:= []) V V V (QG H) V V (JL.go 7 V ?_);refine A1 V V V (λρ h=>Yl.fieldAddr H.underlying_tWg V (F6 H.sizeOf_tAU) (h _ _ V)) (JL.go 1 V ?_);refine A1 V V V (λρ h=>Fb H.underlying_t3 H.underlying_tU64 (h _ _ V)) ?_
 refine A1 (v:= .int .u64 18446744069414584320) V V V (λρ h=>(Yl.shl (h _ _ V) (h _ _ V) (by decide)).to (congrArg _ (by decide))) (Xi H V V V V V ?_ λv wt ap K aq=>?_)
 ·refine A1 V V V (λρ h=>Yl.assign (h _ _ V)) (JL.go 5 V ?_);refine A1 (v:= .int .u64 0) V V V (λρ h=>(Yl.and (h _ _ V) (h _ _ V)).to (congrArg _ (K8 (v:=0) (wt:=1) (by decide) (by decide)))) (A1 V V V (λρ h=>Yl.neq (h _ _ V) (h _ _ V)) ?_);refine JL.go 10 V (A1 (v:= .int .u64 (0:Nat)) V V V (λρ h=>(Yl.shr (h _ _ V) (h _ _ V) (by decide)).to (congrArg _ (KX (v:=0) (wt:=1) (by decide)))) ?_);refine A1 (v:= .int .i32 (0:Nat)) V V V (λρ h=>(Fb H.underlying_tU64 H.underlying_t21 (h _ _ V)).to (congrArg _ (wrap_i32 (by decide)))) ?_
  refine JL.go 5 V (A1 (v:= .int .u64 (1:Nat)) V V V (λρ h=>(Yl.and (h _ _ V) (h _ _ V)).to (congrArg _ (La (v:=0) (wt:=1) (by decide) (by decide)))) ?_);refine A1 (v:= .int .u32 (1:Nat)) V V V (λρ h=>(Fb H.underlying_tU64 H.underlying_tU32 (h _ _ V)).to (congrArg _ (wrap_u32 (by decide)))) ?_
  refine JL.go 30 V (A1 V V V (λρ h=>Yl.neq (h _ _ V) (h _ _ V)) ?_);refine JL.go 30 V (A1 V V V (λρ h=>Yl.fieldAddr H.underlying_tWg V (F6 H.sizeOf_tAU) (h _ _ V)) ?_);refine JL.uLoad H (p:= .GR) V V (by simp) V Wy V V V V λv wt sm r al=>?_;obtain⟨rfl,rfl,e⟩:=W2 al;refine⟨.Hc,e,?_⟩;refine JL.go 1 V (A1 (v:= .bool false) V V V (λρ h=>(Yl.neq (h _ _ V) (h _ _ V)).to (by simp)) ?_);refine JL.go 7 V (A1 V V V (λρ h=>Yl.fieldAddr H.underlying_tWg V (F6 H.sizeOf_tAU) (h _ _ V)) ?_);refine JL.uStore H V V V V V (JL.go 9 V ?_);refine H7 (JL.go 4 V ?_);refine A1 V V V (λρ h=>Yl.neq (h _ _ V) (h _ _ V)) (JL.go 8 V ?_);refine A1 V V V (λρ h=>Yl.fieldAddr H.underlying_tWg V (F6 H.sizeOf_tU32) (h _ _ V)) (Xz (vs:= [.pointer (some F.mA),.bool false,.int .i64 0]) V V V V (V4 H) V V ?_);refine JL.go 4 V (A1 (v:= .int .u32 ((0:Nat):Int)) V V V (λρ h=>(Yl.sub (h _ _ V) (h _ _ V)).to (congrArg _ (by decide))) ?_);refine JL.go 2 V (JL.again ?_);refine JL.go 4 V (A1 V V V (λρ h=>Yl.neq (h _ _ V) (h _ _ V)) ?_);refine JL.go 3 V (JL.out V (JO.Ni V (IX H) (JO.leave V (By.none H.f_add V) (back _ _ _ _ h))))
 ·refine A1 V V V (λρ h=>Yl.assign (h _ _ V)) (JL.go 5 V ?_);refine A1 (v:= .int .u64 0) V V V (λρ h=>(Yl.and (h _ _ V) (h _ _ V)).to (congrArg _ (K8 (v:=v) (wt:=wt) (by omega) K))) (A1 V V V (λρ h=>Yl.neq (h _ _ V) (h _ _ V)) ?_);refine JL.go 10 V (A1 (v:= .int .u64 (v:Nat)) V V V (λρ h=>(Yl.shr (h _ _ V) (h _ _ V) (by decide)).to (congrArg _ (KX (v:=v) (wt:=wt) K))) ?_);refine A1 (v:= .int .i32 (v:Nat)) V V V (λρ h=>(Fb H.underlying_tU64 H.underlying_t21 (h _ _ V)).to (congrArg _ (wrap_i32 (by omega)))) ?_
  refine JL.go 5 V (A1 (v:= .int .u64 (wt:Nat)) V V V (λρ h=>(Yl.and (h _ _ V) (h _ _ V)).to (congrArg _ (La (v:=v) (wt:=wt) (by omega) K))) ?_);refine A1 (v:= .int .u32 (wt:Nat)) V V V (λρ h=>(Fb H.underlying_tU64 H.underlying_tU32 (h _ _ V)).to (congrArg _ (wrap_u32 K))) ?_
  refine JL.go 22 V (A1 (v:= .bool false) V V V (λρ h=>(Yl.lss (h _ _ V) (h _ _ V)).to (by simp)) ?_);refine JL.go 6 V ?_;by_cases O:wt=0
  ·refine A1 V V V (λρ h=>Yl.move (h _ _ V)) (A1 (v:= .bool false) V V V (λρ h=>(Yl.neq (h _ _ V) (h _ _ V)).to (by simp [O])) ?_);refine JL.go 16 V ?_;by_cases aw:0<v
   ·refine A1 V V V (λρ h=>Yl.move (h _ _ V)) (A1 (v:= .bool true) V V V (λρ h=>(Yl.gtr (h _ _ V) (h _ _ V)).to (by simp <;> omega)) ?_);refine JL.go 6 V (H5 V (JO.Ni V (IX H) (JO.leave V (By.none H.f_add V) (back _ _ _ _ h))))
   ·refine A1 V V V (λρ h=>Yl.move (h _ _ V)) (A1 (v:= .bool false) V V V (λρ h=>(Yl.gtr (h _ _ V) (h _ _ V)).to (by simp <;> omega)) ?_);refine JL.go 2 V (A1 (v:= .bool true) V V V (λρ h=>(Yl.eql (h _ _ V) (h _ _ V)).to (by simp [O])) ?_);refine JL.go 3 V (H5 V (JO.Ni V (IX H) (JO.leave V (By.none H.f_add V) (back _ _ _ _ h))))
  ·refine A1 V V V (λρ h=>Yl.move (h _ _ V)) (A1 (v:= .bool true) V V V (λρ h=>(Yl.neq (h _ _ V) (h _ _ V)).to (by simp [O])) ?_);refine JL.go 17 V (A1 (v:= .bool true) V V V (λρ h=>(Yl.gtr (h _ _ V) (h _ _ V)).to (by simp <;> omega)) ?_);refine JL.go 6 V (H5 V (JO.Ni V (IX H) (JO.leave V (By.none H.f_add V) (back _ _ _ _ h))))
theorem We{j:Nat}(K:s.q=false)(O:ops[i]? =some ⟨d,.call ⟨.value (.func L.add),#[x,y],ats⟩,ty,pp,af,g⟩)(hw:AM M ops ⟨d,.call ⟨.value (.func L.add),#[x,y],ats⟩,ty,pp,af,g⟩=some true)(U:((b.kind != .early)&&Bf n d)=true)
  (Y:ev M x=some (.pointer (some F.sA))) (Z:ev M y=some (.int .i64 1))
  (h:JL (AU P true) (Stop P F (.FK j)) b n (Au M d (.tuple #[])) ds (.inRegion ops rest::k) cs s):
  JL (AU P true) (Stop P F (.Gc j)) b n M ds (.inRegion ops (i::rest)::k) cs s:=by
 refine Hb (vs:= [.pointer (some F.sA),.int .i64 1]) O hw U H.f_add (nm_add L) V (by simp [evs,Y,Z]) (Nat.le_of_ble_eq_true V) λac back=>JL.go 12 V (LL (p:= .Gc j) (q:= .Ir j) V K (by simp) (λ_ _ _=>V) V V V V V (by simp) (MM H) ?_);refine JL.go 2 V (JL.defer (vs:= []) V V V V V ?_);refine JL.go 8 V (JL.ext (vs:= []) V V V (QG H) V V ?_);refine JL.go 7 V (A1 V V V (λρ h=>Yl.fieldAddr H.underlying_tWg V (F6 H.sizeOf_tAU) (h _ _ V)) ?_);refine JL.go 1 V (A1 V V V (λρ h=>Fb H.underlying_t3 H.underlying_tU64 (h _ _ V)) ?_)
 refine A1 (v:= .int .u64 4294967296) V V V (λρ h=>(Yl.shl (h _ _ V) (h _ _ V) (by decide)).to (congrArg _ (by decide))) (Xa H K V V V V V ?_ λv ag al=>?_)
 ·refine A1 V V V (λρ h=>Yl.assign (h _ _ V)) (JL.go 5 V ?_);refine A1 (v:= .int .u64 0) V V V (λρ h=>(Yl.and (h _ _ V) (h _ _ V)).to (congrArg _ (K8 (v:=1) (wt:=0) (by decide) (by decide)))) (A1 V V V (λρ h=>Yl.neq (h _ _ V) (h _ _ V)) ?_);refine JL.go 10 V (A1 (v:= .int .u64 (1:Nat)) V V V (λρ h=>(Yl.shr (h _ _ V) (h _ _ V) (by decide)).to (congrArg _ (KX (v:=1) (wt:=0) (by decide)))) ?_);refine A1 (v:= .int .i32 (1:Nat)) V V V (λρ h=>(Fb H.underlying_tU64 H.underlying_t21 (h _ _ V)).to (congrArg _ (wrap_i32 (by decide)))) ?_
  refine JL.go 5 V (A1 (v:= .int .u64 (0:Nat)) V V V (λρ h=>(Yl.and (h _ _ V) (h _ _ V)).to (congrArg _ (La (v:=1) (wt:=0) (by decide) (by decide)))) ?_);refine A1 (v:= .int .u32 (0:Nat)) V V V (λρ h=>(Fb H.underlying_tU64 H.underlying_tU32 (h _ _ V)).to (congrArg _ (wrap_u32 (by decide)))) ?_
  refine JL.go 12 V (A1 (v:= .int .i32 1) V V V (λρ h=>(Fb H.underlying_t3 H.underlying_t21 (h _ _ V)).to (congrArg _ (by decide))) ?_)
  refine A1 (v:= .bool true) V V V (λρ h=>(Yl.eql (h _ _ V) (h _ _ V)).to (by simp)) (JL.go 6 V ?_);refine A1 V V V (λρ h=>Yl.fieldAddr H.underlying_tWg V (F6 H.sizeOf_tU32) (h _ _ V)) (LV (p:= .Iv j) (q:= .HL j) (ad:=F.mA) V K (by simp) (λ_ _ _=>V) V V V V V H.underlying_tPU32 H.underlying_tUP H.room_tU32 V (.inr V) ?_)
  refine OI (p:= .HL j) (q:= .G1 j) (mk:= .read) (ad:=F.mA) (vs:= [.pointer (some F.mA)]) V K (by simp) (λ_ _ _=>V) V V V V (by simp) (XC H) V V (JL.go 5 V ?_);refine A1 (v:= .bool false) V V V (λρ h=>(Yl.lss (h _ _ V) (h _ _ V)).to (by simp)) (JL.go 7 V ?_);refine A1 (v:= .bool false) V V V (λρ h=>(Yl.neq (h _ _ V) (h _ _ V)).to (by simp)) (JL.go 17 V ?_);refine A1 (v:= .bool true) V V V (λρ h=>(Yl.gtr (h _ _ V) (h _ _ V)).to (by simp)) (JL.go 6 V ?_);exact H5 V (JO.SQ K V (IX H) (JO.leave V (By.none H.f_add V) (back _ _ _ _ h)))
 ·refine A1 V V V (λρ h=>Yl.assign (h _ _ V)) (JL.go 5 V ?_);refine A1 (v:= .int .u64 0) V V V (λρ h=>(Yl.and (h _ _ V) (h _ _ V)).to (congrArg _ (K8 (v:=(v+1)) (wt:=0) (by omega) (by decide)))) (A1 V V V (λρ h=>Yl.neq (h _ _ V) (h _ _ V)) ?_);refine JL.go 10 V (A1 (v:= .int .u64 ((v+1):Nat)) V V V (λρ h=>(Yl.shr (h _ _ V) (h _ _ V) (by decide)).to (congrArg _ (KX (v:=(v+1)) (wt:=0) (by decide)))) ?_);refine A1 (v:= .int .i32 ((v+1):Nat)) V V V (λρ h=>(Fb H.underlying_tU64 H.underlying_t21 (h _ _ V)).to (congrArg _ (wrap_i32 (by omega)))) ?_
  refine JL.go 5 V (A1 (v:= .int .u64 (0:Nat)) V V V (λρ h=>(Yl.and (h _ _ V) (h _ _ V)).to (congrArg _ (La (v:=(v+1)) (wt:=0) (by omega) (by decide)))) ?_);refine A1 (v:= .int .u32 (0:Nat)) V V V (λρ h=>(Fb H.underlying_tU64 H.underlying_tU32 (h _ _ V)).to (congrArg _ (wrap_u32 (by decide)))) ?_
  refine JL.go 12 V (A1 (v:= .int .i32 1) V V V (λρ h=>(Fb H.underlying_t3 H.underlying_t21 (h _ _ V)).to (congrArg _ (by decide))) ?_)
  refine A1 (v:= .bool false) V V V (λρ h=>(Yl.eql (h _ _ V) (h _ _ V)).to (by simp <;> omega)) (JL.go 8 V ?_);refine A1 (v:= .bool false) V V V (λρ h=>(Yl.lss (h _ _ V) (h _ _ V)).to (by simp <;> omega)) (JL.go 7 V ?_);refine A1 (v:= .bool false) V V V (λρ h=>(Yl.neq (h _ _ V) (h _ _ V)).to (by simp)) (JL.go 17 V ?_);refine A1 (v:= .bool true) V V V (λρ h=>(Yl.gtr (h _ _ V) (h _ _ V)).to (by simp <;> omega)) (JL.go 6 V ?_);exact H5 V (JO.SQ K V (IX H) (JO.leave V (By.none H.f_add V) (back _ _ _ _ h)))
omit H in
theorem V2{m:Nat}:∀v wt sm r,F.act (.FZ m) v wt sm=some r->r.1=(v,wt,sm)/\r.2.1= #[Fam.B8 F.sA]:=by
 intro v wt sm r h;simp only [Fam.act] at h;split at h
 ·rename_i K;obtain⟨_,rfl⟩:=K;cases h;exact⟨V,V⟩
 ·cases h
omit H in
theorem Xg{m v wt sm:Nat}{r}(h:F.act (.FZ m) v wt sm=some r):v<=m/\wt=0/\r.2.2=if v=0 then .ph .F3 else .ph (.Hm v):=by
 simp only [Fam.act] at h;split at h
 ·rename_i K;cases h;exact⟨K.1,K.2,V⟩
 ·cases h
omit H in
theorem Vq:∀v wt sm r,F.act .Hd v wt sm=some r->r.1=(v,wt,sm)/\r.2.1= #[Fam.B8 F.sA]:=by
 intro v wt sm r h;simp only [Fam.act] at h;split at h
 ·rename_i K;obtain⟨rfl,rfl⟩:=K;cases h;exact⟨V,V⟩
 ·cases h
omit H in
theorem Wa{v wt sm:Nat}{r}(h:F.act .Hd v wt sm=some r):v=0/\wt=0/\r.2.2= .ph .F3:=by
 simp only [Fam.act] at h;split at h
 ·rename_i K;cases h;exact⟨K.1,K.2,V⟩
 ·cases h
omit H in
theorem VJ{v:Nat}(K:v<2147483648):IntKind.u64.wrap (Fam.word v 0+1)=Fam.word v 1:=by
 simp only [Fam.word,Fam.KK,IntKind.wrap,IntKind.bits,IntKind.signed];simp;omega
theorem JL.wait(ap:F.n<2147483648)(K:s.q=false)(aq:ops[i]? =some ⟨d,.call ⟨.value (.func L.wait),#[x],ats⟩,ty,pp,af,g⟩)(hw:AM M ops ⟨d,.call ⟨.value (.func L.wait),#[x],ats⟩,ty,pp,af,g⟩=some true)(aw:((b.kind != .early)&&Bf n d)=true)
  (a0:ev M x=some (.pointer (some F.sA)))
  {Q:GP} (al:∀g s,(GK P).ok Q g s->F.fin g s)
  (h:∀E' f,Le s.E E'->E' F.fd=none->(∀b,E' b≠none->s.H b=none)->(∀k,k<F.n->F.msg k (f k) E')->JL (GK P) Q b n (Au M d (.tuple #[])) ds (.inRegion ops rest::k) cs ⟨E',F.JF s.H f,false⟩):
  JL (AU P true) (Stop P F .Di) b n M ds (.inRegion ops (i::rest)::k) cs s:=by
 refine Hb (vs:= [.pointer (some F.sA)]) aq hw aw H.f_wait (nm_wait L) V (by simp [evs,a0]) (Nat.le_of_ble_eq_true V) λa3 back=>JL.go 3 V (LL (p:= .Di) (q:= .FZ F.n) V K (by simp) (λ_ _ _=>V) V V V V V (by simp) (MM H) ?_);refine JL.go 2 V (H7 ?_);refine DW (L':= [(0,.pointer (some F.sA))]) ⟨V,trivial⟩ ?_;generalize F.n=m at ap ⊢
 induction m using Nat.strongRecOn with
 | _ m a1=>?_
 refine JL.go 5 V (A1 V V V (λρ h=>Yl.fieldAddr H.underlying_tWg V (F6 H.sizeOf_tAU) (h _ _ V)) ?_);refine JL.uLoad H (p:= .FZ m) V K (by simp) V V2 V V V V λv wt sm r U=>?_;obtain⟨a4,rfl,e⟩:=Xg U;have O:v<2147483648:=by omega
 by_cases am:v=0
 ·subst am;refine⟨.F3,e,?_⟩;refine JL.go 5 V (A1 (v:= .int .u64 (0:Nat)) V V V (λρ h=>(Yl.shr (h _ _ V) (h _ _ V) (by decide)).to (congrArg _ (KX (v:=0) (wt:=0) (by decide)))) ?_);refine A1 (v:= .int .i32 (0:Nat)) V V V (λρ h=>(Fb H.underlying_tU64 H.underlying_t21 (h _ _ V)).to (congrArg _ (wrap_i32 (by decide)))) ?_
  refine JL.go 5 V (A1 (v:= .int .u64 ((0:Nat):Int)) V V V (λρ h=>(Yl.and (h _ _ V) (h _ _ V)).to (congrArg _ (La (v:=0) (wt:=0) (by decide) (by decide)))) ?_);refine A1 (v:= .int .u32 ((0:Nat):Int)) V V V (λρ h=>(Fb H.underlying_tU64 H.underlying_tU32 (h _ _ V)).to (congrArg _ (wrap_u32 (by decide)))) ?_
  refine JL.go 6 V (A1 (v:= .bool true) V V V (λρ h=>(Yl.eql (h _ _ V) (h _ _ V)).to (by simp)) ?_);refine JL.go 6 V (LL (p:= .F3) (q:= .Is) V K (by simp) (λ_ _ _=>V) V V V V V (by simp) (IX H) ?_);refine JL.go 3 V (LV (p:= .Is) (q:= .Gf) (ad:=F.sA) V K (by simp) (λ_ _ _=>V) V V V V V H.underlying_tWgP H.underlying_tUP H.room_tWg V (.inl V) ?_)
  refine Sr (vs:= [.pointer (some F.sA)]) K V V V V (Ox H) V V λE' Y z1 Z ac ag T a2=>al _ _ ?_;revert T;refine(?_:JL (GK P) Q _ _ _ _ _ _ _);refine JL.go 5 V (A1 (v:= .bool true) V V V (λρ h=>(Yl.eql (h _ _ V) (h _ _ V)).to (by simp)) ?_);refine JL.go 2 V (A1 (v:= .int .u64 0) V V V (λρ h=>(Yl.and (h _ _ V) (h _ _ V)).to (congrArg _ (K8 (v:=0) (wt:=0) (by decide) (by decide)))) ?_);refine A1 (v:= .bool false) V V V (λρ h=>(Yl.neq (h _ _ V) (h _ _ V)).to (by simp)) (JL.go 8 V ?_);exact JL.ret V V (By.none H.f_wait V) (back _ _ _ _ (h E' Y z1 Z ac ag))
 ·refine⟨.Hm v,by rw [e,if_neg am],?_⟩;refine JL.go 5 V (A1 (v:= .int .u64 (v:Nat)) V V V (λρ h=>(Yl.shr (h _ _ V) (h _ _ V) (by decide)).to (congrArg _ (KX (v:=v) (wt:=0) (by decide)))) ?_);refine A1 (v:= .int .i32 (v:Nat)) V V V (λρ h=>(Fb H.underlying_tU64 H.underlying_t21 (h _ _ V)).to (congrArg _ (wrap_i32 O))) ?_
  refine JL.go 5 V (A1 (v:= .int .u64 ((0:Nat):Int)) V V V (λρ h=>(Yl.and (h _ _ V) (h _ _ V)).to (congrArg _ (La (v:=v) (wt:=0) O (by decide)))) ?_);refine A1 (v:= .int .u32 ((0:Nat):Int)) V V V (λρ h=>(Fb H.underlying_tU64 H.underlying_tU32 (h _ _ V)).to (congrArg _ (wrap_u32 (by decide)))) ?_
  refine JL.go 6 V (A1 (v:= .bool false) V V V (λρ h=>(Yl.eql (h _ _ V) (h _ _ V)).to (by simp <;> omega)) ?_);refine JL.go 7 V (A1 V V V (λρ h=>Yl.fieldAddr H.underlying_tWg V (F6 H.sizeOf_tAU) (h _ _ V)) ?_);refine JL.go 2 V (A1 (v:= .int .u64 (Fam.word v 1)) V V V (λρ h=>(Yl.add (h _ _ V) (h _ _ V)).to (congrArg _ (VJ O))) ?_);refine JL.uCas H (m:=v) K V V V V V V ?_ ?_
  ·refine JL.done (JL.go 6 V ?_);refine A1 (v:= .bool true) V V V (λρ h=>(Yl.eql (h _ _ V) (h _ _ V)).to (by simp)) (JL.go 6 V ?_);refine A1 V V V (λρ h=>Yl.fieldAddr H.underlying_tWg V (F6 H.sizeOf_tU32) (h _ _ V)) (LV (p:= .Ix) (q:= .HR) (ad:=F.mA) V K (by simp) (λ_ _ _=>V) V V V V V H.underlying_tPU32 H.underlying_tUP H.room_tU32 V (.inr V) ?_)
   refine OI (p:= .HR) (q:= .Fw) (mk:= .write) (ad:=F.mA) (vs:= [.pointer (some F.mA)]) V K (by simp) (λ_ _ _=>V) V V V V (by simp) (VH H) V V (JL.go 9 V ?_);refine A1 (v:= .int .u64 0) V V V (λρ h=>(Yl.and (h _ _ V) (h _ _ V)).to (congrArg _ (K8 (v:=v) (wt:=0) O (by decide)))) (A1 (v:= .bool false) V V V (λρ h=>(Yl.neq (h _ _ V) (h _ _ V)).to (by simp)) ?_);refine JL.go 10 V (A1 V V V (λρ h=>Yl.fieldAddr H.underlying_tWg V (F6 H.sizeOf_tU32) (h _ _ V)) ?_);refine JL.go 1 V (Vn (vs:= [.pointer (some F.mA),.bool false]) K V V V V (U9 H) V V ?_);refine JL.go 5 V (A1 V V V (λρ h=>Yl.fieldAddr H.underlying_tWg V (F6 H.sizeOf_tAU) (h _ _ V)) ?_);refine JL.uLoad H (p:= .Hd) V K (by simp) V Vq V V V V λv wt sm r U=>?_;obtain⟨rfl,rfl,e⟩:=Wa U;refine⟨.F3,e,?_⟩;refine A1 (v:= .bool false) V V V (λρ h=>(Yl.neq (h _ _ V) (h _ _ V)).to (by simp [Fam.word])) (JL.go 6 V ?_);refine LL (p:= .F3) (q:= .Is) V K (by simp) (λ_ _ _=>V) V V V V V (by simp) (IX H) (JL.go 3 V ?_);refine LV (p:= .Is) (q:= .Gf) (ad:=F.sA) V K (by simp) (λ_ _ _=>V) V V V V V H.underlying_tWgP H.underlying_tUP H.room_tWg V (.inl V) ?_
   refine Sr (vs:= [.pointer (some F.sA)]) K V V V V (Ox H) V V λE' Y z1 Z ac ag T a2=>al _ _ ?_;revert T;refine(?_:JL (GK P) Q _ _ _ _ _ _ _);exact JL.go 8 V (JL.ret V V (By.none H.f_wait V) (back _ _ _ _ (h E' Y z1 Z ac ag)))
  ·refine JL.done (JL.go 3 V ?_);refine JL.again (DW (L':= [(0,.pointer (some F.sA))]) ⟨V,trivial⟩ ?_);exact a1 (v - 1) (by omega) (by omega)
theorem JO.bR(K:b.roundOf=none)(O:s.q=false)(h:JO (Ib P) (IM P 0) b n M ds cs .quiet):
  JO (AU P false) (Stop P F .HS) b n M (dcall L.done #[.pointer (some F.sA)]::ds) cs s:=by
 refine JO.enter (vs:= [.pointer (some F.sA)]) K H.f_done (nm_done L) V (Nat.le_of_ble_eq_true V) λT U todo=>JL.go 2 V (WB H O V V V V V ?_);exact JL.done (JL.out V (JO.leaveD V H.f_done V (.inl V) (h T U todo)))
end
end Pal
namespace Pal
open Go Go.Conc
variable {P:Program}{J:Judge P}{Q:Gs_}{g:Goroutine}{cs:Lf_}{c:Frame}{E:LH}{S S':List Seg}
section
variable {H:LH}
theorem Np(K:S.flatten.Perm S'.flatten)(O:Aq E H S)(h:Aq E H S'->J.ok Q g (Aj E H S')):J.ok Q g (Aj E H S):=by
 have U:Aj E H S=Aj E H S':=ET O K;rw [U];exact h (Nd.perm O K)
theorem O7(K:S'.flatten=S.flatten)(O:Aq E H S)(h:Aq E H S'->J.ok Q g (Aj E H S')):J.ok Q g (Aj E H S):=Np (by rw [K]) O h
theorem XI{f:FuncId}{vs:Lv_}{seg:Seg}{R:Value->LH->Seg->Prop}(j:Nat)(al:AL J f vs E seg R)(K:Aq E H S)(O:S[j]? =some seg)
  (am:∀v E' seg',Le E E'->R v E' seg'->Aq E' H (S.set j seg')->J.ok Q (G (c.finish v) cs) (Aj E' H (S.set j seg'))):
  J.ok Q (G (Frame.enter P f vs.toArray .normal) (c::cs)) (Aj E H S):=by
 have U:S.flatten.Perm (seg++(S.set j []).flatten):=(Ei (seg':=seg) O).1.trans List.perm_append_comm;have Y:Nd E H (seg++(S.set j []).flatten):=Nd.perm K U;have ap:Aj E H S=mk E (Be (S.set j []).flatten H) seg:=by
  rw [show Aj E H S=mk E H S.flatten from rfl,ET K U];unfold mk;rw [FE]
 have Z:=Ew.Kv (al (Be (S.set j []).flatten H) (Nd.front Y)) (by rintro v s' ⟨E',B',_,_,_,rfl⟩;rfl);rw [← ap] at Z;refine Z Q c cs ?_;rintro v a7 ⟨⟨E',B',hle,aq,aw,rfl⟩,w,a0⟩;have e2:mk E' (Be (S.set j []).flatten H) B'=mk E' H (B'++(S.set j []).flatten):=by unfold mk;rw [FE]
 have a1:Nd E H (S.set j []).flatten:=by
  have:=Y;rw [Nd.iff] at this ⊢;rw [List.map_append,List.nodup_append] at this;exact⟨this.1.2.1,λq a2=>this.2 q (List.mem_append_right _ a2)⟩
 have a3:Nd E' H (S.set j []).flatten:=a1.grow λx a4=>by
  have a5:=a0.d x a4;have a6:Be B' (Be (S.set j []).flatten H) x=none:=a5;exact(Hz a6).1
 have ac:Nd E' H (B'++(S.set j []).flatten):=Nd.glue aw a3;rw [e2];have ag:(B'++(S.set j []).flatten).Perm (S.set j B').flatten:=List.perm_append_comm.trans (Ei O).2.symm;rw [ET ac ag];exact am v E' B' hle aq (Nd.perm ac ag)
end
variable {b:Frame}{L:Env}{ds:Ld_}{k:Li_}{ops:Ao_}{i:Nat}{rest:List Nat}{d:Option Tmp}{t ty e:TypeId}{p:String}{af:Ae_}
section
variable {n:Nat}{H:LH}{g:On_}
end
theorem Ve{E H:LH}{a b c:Nat}{K O U:Obj}(ac:Aq E H [[(a,K)],[(b,O)],[(c,U)]]):(⟨E,JD (Aj E H [[(a,K)],[(b,O)],[(c,U)]]).H b a c,false⟩:St)=Aj E H []:=by
 have h:=Nd.iff.1 ac;have ag:H a=none:=(h.2 (a,K) (by simp)).2;have al:H b=none:=(h.2 (b,O) (by simp)).2;have am:H c=none:=(h.2 (c,U) (by simp)).2;unfold Aj mk;congr 1;funext x;simp only [JD,Aj,mk,List.flatten_cons,List.flatten_nil,List.append_nil,List.cons_append,List.nil_append,Be];by_cases Y:x=a
 ·subst Y;simp [ag]
 ·by_cases e2:x=b
  ·subst e2;simp [al]
  ·by_cases Z:x=c
   ·subst Z;simp [am]
   ·simp [Y,e2,Z]
theorem GJ{P:Program}{J:Judge P}{Q:Gs_}{b:Frame}{n:Nat}{L:Env}{ds:Ld_}{cs:Lf_}{E H:LH}{S:List Seg}{todo:Li_}{A B:Seg}(j K:Nat)(O:S[j]? =some A)(Z:(S.set j [])[K]? =some B)(ac:Aq E H S)
  (h:Aq E H (((S.set j []).set K []).set j (A++B))->JL J Q b n L ds todo cs (Aj E H (((S.set j []).set K []).set j (A++B)))):JL J Q b n L ds todo cs (Aj E H S):=by
 refine JS.perm ?_ ac h;have U:j<S.length:=(List.getElem?_eq_some_iff.1 O).1;have ag:=(Ei (seg':=A) O).1;have al:=(Ei (seg':=B) Z).1;have am:((S.set j []).set K [])[j]? =some []:=by
  by_cases e:K=j
  ·subst e;rw [List.getElem?_set_self (by simpa using U)]
  ·rw [List.getElem?_set_ne e,List.getElem?_set_self U]
 have Y:=(Ei (seg':=A++B) am).2;have ap:(((S.set j []).set K []).set j [])=(S.set j []).set K []:=by
  by_cases e:K=j
  ·subst e;simp
  ·rw [List.set_comm _ _ e];simp
 rw [ap] at Y;refine ag.trans (List.Perm.trans ?_ Y.symm);refine(List.Perm.append_right A al).trans ?_;rw [List.append_assoc];exact List.Perm.append_left _ List.perm_append_comm
def WL{α:Type}(e:TypeId)(pp:Rp α)(E:LH)(bk c n:Nat)(f:Av_)(xs:List α):Prop:=
 OL e pp E (some ⟨bk,0,none⟩) c [(bk,.cells f e (0,0))] xs/\xs.length=n
theorem WL.Ah{α:Type}{e:TypeId}{pp:Rp α}{E E':LH}{bk c n:Nat}{f:Av_}{xs:List α}(h:WL e pp E bk c n f xs)(hle:Le E E'):WL e pp E' bk c n f xs:=⟨h.1.Ah hle,h.2⟩
theorem WL.at{α:Type}{e:TypeId}{pp:Rp α}{E:LH}{bk c n:Nat}{f:Av_}{xs:List α}{m:Int}{x:α}(h:WL e pp E bk c n f xs)(hm:ix xs m=some x):
  ∃ws,pp.r E ws x/\(∀j w,ws[j]? =some w->f[m.toNat*pp.n+j]? =some w):=by
 obtain⟨ws,K,O,_,_⟩:=OL.again h.1 hm V;exact⟨ws,K,O⟩
theorem WL.put{α:Type}{e:TypeId}{pp:Rp α}{E:LH}{bk c n:Nat}{f:Av_}{xs O:List α}{m:Int}{x0 x':α}{ws':Lv_}(h:WL e pp E bk c n f xs)(U:O.length=n)(hm:ix O m=some x0)(Y:pp.r E ws' x'):
  WL e pp E bk c n (A4 f (m.toNat*pp.n) ws') (xs.set m.toNat x')/\m.toNat*pp.n+pp.n<=f.size:=by
 obtain⟨K,rfl,Z⟩:=FV hm;have ac:K<xs.length:=by rw [h.2,← U];exact(List.getElem?_eq_some_iff.1 Z).1
 have ag:ix xs (K:Int)=some xs[K]:=by simp [ix,ac]
 obtain⟨ws,ap,aq,al,am⟩:=OL.again h.1 ag V;exact⟨⟨am x' ws' Y,by rw [List.length_set];exact h.2⟩,al⟩
theorem OL.cases{α:Type}{e:TypeId}{pp:Rp α}{E:LH}{a:Option Addr}{c:Nat}{seg:Seg}{xs:List α}(h:OL e pp E a c seg xs):
  (a=none/\c=0/\seg= []/\xs= [])∨∃bk f,a=some ⟨bk,0,none⟩/\seg= [(bk,.cells f e (0,0))]/\WL e pp E bk c xs.length f xs:=by
 have Y:=h;obtain⟨wss,Z,ag,al⟩:=h;rcases Z with⟨K,O,U,ac,am⟩ | ⟨bk,f,K,O,U⟩
 ·exact .inl ⟨K,U,ac,List.length_eq_zero_iff.1 O⟩
 ·subst K O;exact .inr ⟨bk,f,V,V,Y,V⟩
theorem WL.of{α:Type}{e:TypeId}{pp:Rp α}{E:LH}{a:Option Addr}{c:Nat}{seg:Seg}{xs:List α}{m:Int}{x:α}(h:OL e pp E a c seg xs)(hm:ix xs m=some x):
  ∃bk f,(a=some ⟨bk,0,none⟩/\seg= [(bk,.cells f e (0,0))])/\WL e pp E bk c xs.length f xs:=by
 rcases OL.cases h with⟨_,_,_,rfl⟩ | ⟨bk,f,K,O,U⟩
 ·obtain⟨k,_,h⟩:=FV hm;simp at h
 ·exact⟨bk,f,⟨K,O⟩,U⟩
theorem Fs{P:Program}{s:St}{ρ:Operand->Value}{x y:Operand}{d:Option Tmp}{t ty e:TypeId}{p:String}{af:Ae_}{g:On_}{kd:IntKind}{α:Type}{xs:List α}{xv:α}{m:Int}{bk c K n:Nat}(O:xs.length=n)(hm:ix xs m=some xv)(U:P.underlying t=some (.slice e))(Y:Bj P e=some K)(Z:ρ x= .slice (some ⟨bk,0,none⟩) n c)(ac:ρ y= .int kd m):
  Yl P ⟨d,.indexAddr t x y,ty,p,af,g⟩ ρ s (.pointer (some ⟨bk,m.toNat*K,none⟩)):=by
 subst O;exact Xy hm U Y Z ac
theorem R4{P:Program}{s:St}{ρ:Operand->Value}{x:Operand}{d:Option Tmp}{t ty e:TypeId}{p:String}{af:Ae_}{g:On_}{α:Type}{xs:List α}{a:Option Addr}{n c:Nat}{ats:Array TypeId}(K:xs.length=n)(O:ats[0]? =some t)(U:P.underlying t=some (.slice e))(Y:ρ x= .slice a n c):
  Yl P ⟨d,.call ⟨.builtin .len,#[x],ats⟩,ty,p,af,g⟩ ρ s (.int .i64 (xs.length:Int)):=by
 subst K;exact Yl.len O U Y
variable {fuel:Nat}{D:Nat->Bool}{listed:Array Bool}{s:St}{E':LH}
variable {x y:Operand}{u:TypeId}{v:Value}{kd:IntKind}
section
variable {n:Nat}{m:Nat}{H:LH}
variable {g:On_}
theorem Wb{f:FuncId}{args:Array Operand}{ats:Array TypeId}{vs:Lv_}{R:Value->St->Prop}(U:s.q=false)(Y:Region.ready .any ops listed= [i])
  (Z:ops[i]? =some ⟨d,.call ⟨.value x,args,ats⟩,ty,p,af,g⟩) (ac:ev L x=some (.func (.func f) #[] #[])) (ag:Bf n d=true) (hw:AM L ops ⟨d,.call ⟨.value x,args,ats⟩,ty,p,af,g⟩=some true) (hb:Dm P f=true) (al:evs L args.toList=some vs)
  (am:Ew J f vs.toArray s R) (h:∀v K,R v K->K.q=false/\(∀x o,(Bl D s).E x=some o->(Bl D K).E x=some o)/\AO J Q b n ds ops k cs m D fuel (A8 listed i) (Au L d v) K):
  AO J Q b n ds ops k cs m D (fuel+1) listed L s:=by
 refine AO.one U Y Z (by simp [DY,ag]) hw λρ O=>?_;have ap:args.map ρ=vs.toArray:=by
  rw [← FR O al];apply Array.ext';simp
 have aq:ρ x= .func (.func f) #[] #[]:=O _ _ ac;simp only [execOp,resolve,bind,Sem.bind,Deferred.ofValue,aq,pure,invoke];have e: #[]++args.map ρ++ #[]=vs.toArray:=by rw [ap];simp
 rw [e];refine IW hb ?_;rw [KO];exact⟨R,am,h⟩
theorem Jx{bks:List Nat}{f:FuncId}{args:Array Operand}{ats:Array TypeId}{vs:Lv_}{R:Value->LH->Seg->Prop}(am:Hh S bks)(ap:AL J f vs E [] R)(aq:Region.ready .any ops listed= [i])
  (aw:ops[i]? =some ⟨d,.call ⟨.value x,args,ats⟩,ty,p,af,g⟩) (K:ev L x=some (.func (.func f) #[] #[])) (a0:Bf n d=true) (hw:AM L ops ⟨d,.call ⟨.value x,args,ats⟩,ty,p,af,g⟩=some true) (hb:Dm P f=true) (a1:evs L args.toList=some vs) (Z:Aq E H S)
  (a2:∀v E' seg',Le E E'->R v E' seg'->Aq E' H (S++ [seg'])->AO J Q b n ds ops k cs m (Az bks) fuel (A8 listed i) (Au L d v) (Aj E' H (S++ [seg']))):
  AO J Q b n ds ops k cs m (Az bks) (fuel+1) listed L (Aj E H S):=by
 have a3:=Ew.Kv (ap (Be S.flatten H) trivial) (by rintro v s' ⟨E',B',_,_,_,rfl⟩;rfl);refine Wb V aq aw K a0 hw hb a1 a3 ?_;rintro v be ⟨⟨E',B',hle,a4,a5,rfl⟩,w,a6⟩;have e2:mk E' (Be S.flatten H) B'=mk E' H (B'++S.flatten):=by unfold mk;rw [FE]
 have a7:Nd E' H S.flatten:=Nd.grow Z λx K=>by
  have a8:=a6.d x K;have U:Be B' (Be S.flatten H) x=none:=a8;exact(Hz U).1
 have ac:Nd E' H (B'++S.flatten):=Nd.glue a5 a7;have ag:(B'++S.flatten).Perm (S++ [B']).flatten:=by rw [GI];exact List.perm_append_comm
 have al:Aq E' H (S++ [B']):=Nd.perm ac ag;rw [e2,ET ac ag];refine⟨V,λx o K=>?_,a2 v E' B' hle a4 al⟩;by_cases hd:Az bks x=true
 ·obtain⟨j,o',Y⟩:=am.mem x (by simpa [Az] using hd);have U:(Aj E H S).get x=some o':=Dh (i:=0) Z Y V;have a9:j<S.length:=(List.getElem?_eq_some_iff.1 Y).1;have bb:(Aj E' H (S++ [B'])).get x=some o':=Dh (i:=0) al (by rw [List.getElem?_append_left a9];exact Y) rfl;have O:(if Az bks x then(Aj E H S).get x else E x)=some o:=K
  show(if Az bks x then(Aj E' H (S++ [B'])).get x else E' x)=some o
  rw [if_pos hd] at O ⊢;rw [bb,← U];exact O
 ·have O:(if Az bks x then(Aj E H S).get x else E x)=some o:=K
  show(if Az bks x then(Aj E' H (S++ [B'])).get x else E' x)=some o
  rw [if_neg hd] at O ⊢;exact hle _ _ O
end
section
variable {n:Nat}{H:LH}
variable {g:On_}
theorem KW{f:FuncId}{args:Array Operand}{ats:Array TypeId}{vs:Lv_}{R:Value->LH->Seg->Prop}
  (O:AL J f vs E [] R) (U:ops[i]? =some ⟨d,.call ⟨.value x,args,ats⟩,ty,p,af,g⟩) (Y:ev L x=some (.func (.func f) #[] ([]:Lv_).toArray)) (hw:AM L ops ⟨d,.call ⟨.value x,args,ats⟩,ty,p,af,g⟩=some true) (Z:((b.kind != .early)&&Bf n d)=true) (hb:Dm P f=true)
  (ac:evs L args.toList=some vs) (ag:Aq E H S) (al:∀v E' seg',Le E E'->R v E' seg'->Aq E' H (S++ [seg'])->JL J Q b n (Au L d v) ds (.inRegion ops rest::k) cs (Aj E' H (S++ [seg']))):
  JL J Q b n L ds (.inRegion ops (i::rest)::k) cs (Aj E H S):=by
 have am:F2 J (.func (.func f) #[] ([]:Lv_).toArray) vs E [] R:=F2.ofFn hb (by rw [List.append_nil];exact O);have ap:Aq E H (S++ [[]]):=by unfold Aq at*;rw [GI,List.append_nil];exact ag
 have aq:Aj E H S=Aj E H (S++ [[]]):=by unfold Aj;rw [GI,List.append_nil]
 rw [aq];refine KY (seg:= []) S.length am U hw Z Y ac ap (by simp) λv E' seg' hle aw K=>?_;have a0:(S++ [([]:Seg)]).set S.length seg'=S++ [seg']:=IB _ _ _ _;rw [a0] at K ⊢;exact al v E' seg' hle aw K
end
def Lj(a b:Int):Option Int:=if b=0 then none else Av (a.tdiv b)
def Qa(l:List Nat)(i:Int):Option Nat:=if 0<=i then l[i.toNat]? else none
variable {ρ:Operand->Value}{z:Operand}{kd':IntKind}{m':Int}{a:Nat}
section
variable {g:On_}{m:Int}{b:Nat}
theorem M8{r:Int}(K:ρ x=iV m)(O:ρ y=iV m')(h:Lj m m'=some r):Yl P ⟨d,.binOp .quo t x y u,ty,p,af,g⟩ ρ s (iV r):=by
 unfold Lj at h;split at h
 ·cases h
 ·rename_i U;obtain⟨rfl,hb⟩:=KQ h;have:=Yl.quo (P:=P) (s:=s) (d:=d) (t:=t) (u:=u) (ty:=ty) (p:=p) (af:=af) (g:=g) K O U
  rwa [Jy hb] at this
theorem cI{a:Nat}:IntKind.u8.wrap (a:Int)=((a % 256:Nat):Int):=by
 simp only [IntKind.wrap,IntKind.bits,IntKind.signed];simp
theorem XR(K:P.underlying t=some (.int .u64))(hu:P.underlying u=some (.int .u8))(O:ρ x= .int .u64 (a:Int)):Yl P ⟨d,.convert t u x,ty,p,af,g⟩ ρ s (.int .u8 ((a % 256:Nat):Int)):=by
 have h:=Fb (P:=P) (s:=s) (d:=d) (ty:=ty) (p:=p) (af:=af) (g:=g) K hu O
 rw [cI] at h;exact h
theorem X1{r:Int}(K:P.underlying t=some (.int .u8))(hu:P.underlying u=some (.int .i64))(O:ρ x= .int .u8 (a:Int))(h:Av ((a:Nat):Int)=some r):Yl P ⟨d,.convert t u x,ty,p,af,g⟩ ρ s (iV r):=by
 obtain⟨rfl,hb⟩:=KQ h;have h:=Fb (P:=P) (s:=s) (d:=d) (ty:=ty) (p:=p) (af:=af) (g:=g) K hu O
 rwa [Jy hb] at h
theorem VM{l:List Nat}{bs:ByteArray}{r:Nat}(O:(bs.data.toList.map UInt8.toNat==l)=true)(U:P.underlying t=some .string)(Y:ρ y= .int kd m)(Z:ρ (.const (.string bs))= .string bs)(h:Qa l m=some r):Yl P ⟨d,.index t (.const (.string bs)) y,ty,p,af,g⟩ ρ s (.int .u8 (r:Int)):=by
 unfold Qa at h;split at h
 ·rename_i ac;have ag:=eq_of_beq O;rw [← ag,List.getElem?_map] at h;obtain⟨K,hb,rfl⟩:=Option.map_eq_some_iff.1 h;have al:bs[m.toNat]? =some K:=by
   have am:bs.data[m.toNat]? =some K:=by rw [← Array.getElem?_toList];exact hb
   obtain⟨ap,aq⟩:=Array.getElem?_eq_some_iff.1 am;rw [getElem?_pos bs m.toNat ap];exact congrArg some aq
  simp [Yl,execOp,lp,pure,bind,Sem.bind,Z,Y,Instr.index,underlying,program,U,ac,al,asIntOf]
 ·cases h
end
end Pal
