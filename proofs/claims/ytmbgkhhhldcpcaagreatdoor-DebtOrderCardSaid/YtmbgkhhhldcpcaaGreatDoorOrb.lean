/- DebtOrder: a part (2 of 9) of the proof of its row. -/
import Derived.Test.YtmbgkhhhldcpcaaGreatDoorOra
import Derived.Conc.CrowdComm
import Derived.Conc.TokenWalk
import Derived.Conc.MarkLaws
import Derived.Conc.AtomicLaws2
import Derived.Conc.ClockLaws
import Derived.Conc.WgLib
import Derived.Conc.WgArith
import Derived.Conc.WgGenW
set_option linter.all false
set_option maxRecDepth 100000
namespace Pal
open Go Go.Conc
open Go.ConcN (upd upd_same upd_ne sumTo sumTo_upd)
abbrev GP:=Gs_
structure M4 where
 l:Bool
 k:Bool
 s:Bool
 w:Nat
instance:DecidableEq M4:=λa b=>decidable_of_iff (a.l=b.l/\a.k=b.k/\a.s=b.s/\a.w=b.w) ⟨λh=>by cases a;cases b;simp_all,λh=>by subst h;simp⟩
def M4.zero:M4:=⟨false,false,false,0⟩
def M4.num(m:M4):Int:=((m.l.toNat+2*m.k.toNat+4*m.s.toNat+8*m.w:Nat):Int)
inductive LP where
 | GL | H9 | ER (sv aw:Bool) (it:Nat) | Cz (sv aw:Bool) (it:Nat) (old:M4) | Jl (sv:Bool) | CL (sv:Bool) | GH | Fi (sv:Bool) | EO (ex:Bool) | len | Mx | Lm | Ge
 | Hs | Lu | Ls | Lp | IS | Fz (old:M4) | Ik | FP (st:Bool) | FQ
inductive Ph where
 | Ia (k:Nat) | Hp | Kb | Il | HE | H5 | F0
 | DZ | GK (m:Nat) | Ih (v:Nat) | IZ | Gc | H6 | GN | G3 | IJ
 | GZ (j:Nat) | Jv (j:Nat) | IQ (j:Nat) | HO (j:Nat) | Gu (j:Nat) | HG | Gr (K:List Nat) (vs:Lv_)
 | I1 | JF | Ju | JE (j:Nat)
 | lk (k:Nat) (p:LP)
inductive Nx where
 | ph (p:Ph) | gone (d:Nat)
structure Fam where
 wg:Nat
 mu:Nat
 fd:Nat
 ty:TypeId
 mG:TypeId
 mC:TypeId
 n:Nat
 msg:Nat->Value->LH->Prop
 fin:GP
namespace Fam
variable (F:Fam)
def has(_:Fam)(_:Nat):Bool:=false
def KK:Int:=4294967296
def IV(st sm:Int):Obj:=.cells #[.int .u64 st,.int .u32 sm] F.ty (0,0)
def word(v wt:Nat):Int:=(v:Int)*KK+wt
def WG(w:World)(v wt sm:Nat):Prop:=w.heap[F.wg]?=some (F.IV (word v wt) sm)
def put(w:World)(v wt sm:Nat):World:={w with heap:=w.heap.setIfInBounds F.wg (F.IV (word v wt) sm)}
def sA:Addr:=⟨F.wg,0,none⟩
def mA:Addr:=⟨F.wg,1,none⟩
def IU(st sm:Int):Obj:=.cells #[.int .i32 st,.int .u32 sm] F.mG (0,0)
def MU(w:World)(m:M4)(q:Nat):Prop:=w.heap[F.mu]?=some (F.IU m.num q)
def Gt(w:World)(m:M4)(q:Nat):World:={w with heap:=w.heap.setIfInBounds F.mu (F.IU m.num q)}
def uA:Addr:=⟨F.mu,0,none⟩
def qA:Addr:=⟨F.mu,1,none⟩
def JD(f:Nat->Value):Obj:=.cells (Array.ofFn λi:Fin F.n=>f i) F.mC (0,0)
def FD(w:World)(f:Nat->Value):Prop:=w.heap[F.fd]?=some (F.JD f)
def Ii(w:World)(f:Nat->Value):World:={w with heap:=w.heap.setIfInBounds F.fd (F.JD f)}
def Cu(a:Addr):Event:=⟨.cell a,false,true⟩
def Fa(a:Addr):Event:=⟨.cell a,true,true⟩
def CX(m:Mark):Event:=⟨.mark m,false,true⟩
def act:Ph->Nat->Nat->Nat->Option ((Nat×Nat×Nat)×Array Event×Nx)
 | .Hp,v,wt,sm=>some ((v,wt,sm),#[CX (.releaseMerge F.sA)],.ph .Kb)
 | .Kb,v,wt,sm=>some ((v,wt,sm),#[CX .disable],.ph .Il)
 | .Il,v,wt,sm=>if 1<=v/\v<2147483648/\wt<=1 then some ((v - 1,wt,sm),#[Cu F.sA,Fa F.sA],if v=1/\wt=1 then .ph .HE else .gone 1) else none
 | .HE,v,wt,sm=>if v=0/\wt=1 then some ((0,1,sm),#[Cu F.sA],.ph .H5) else none
 | .H5,v,wt,sm=>if v=0/\wt=1 then some ((0,0,sm),#[Fa F.sA],.ph .F0) else none
 | .F0,v,wt,sm=>if sm=0 then some ((v,wt,1),semEvents F.mA,.gone 1) else none
 | .DZ,v,wt,sm=>some ((v,wt,sm),#[CX .disable],.ph (.GK F.n))
 | .GK m,v,wt,sm=>if v<=m/\wt=0 then some ((v,0,sm),#[Cu F.sA],if v=0 then .ph .GN else .ph (.Ih v)) else none
 | .Ih m,v,wt,sm=>if v<=m/\1<=m/\wt=0 then some (if v=m then((v,1,sm),#[Cu F.sA,Fa F.sA],.ph .JF) else((v,0,sm),#[Cu F.sA],.ph (.GK (m - 1)))) else none
 | .IZ,v,wt,sm=>some ((v,wt,sm),#[CX (.write F.mA)],.ph .Gc)
 | .Gc,v,wt,sm=>if sm=1 then some ((v,wt,0),semEvents F.mA,.ph .H6) else none
 | .H6,v,wt,sm=>if v=0/\wt=0 then some ((0,0,sm),#[Cu F.sA],.ph .GN) else none
 | .GN,v,wt,sm=>some ((v,wt,sm),#[CX .enable],.ph .Ju)
 | .I1,v,wt,sm=>some ((v,wt,sm),#[],.ph .Hp)
 | .JF,v,wt,sm=>some ((v,wt,sm),#[],.ph .IZ)
 | .Ju,v,wt,sm=>some ((v,wt,sm),#[],.ph .G3)
 | .JE j,v,wt,sm=>some ((v,wt,sm),#[],.ph (.IQ j))
 | .GZ j,v,wt,sm=>some ((v,wt,sm),#[CX .disable],.ph (.Jv j))
 | .Jv j,v,wt,sm=>if v<2147483647/\wt=0 then some ((v+1,0,sm),#[Cu F.sA,Fa F.sA],if v=0 then .ph (.JE j) else .ph (.HO j)) else none
 | .IQ j,v,wt,sm=>some ((v,wt,sm),#[CX (.read F.mA)],.ph (.HO j))
 | .HO j,v,wt,sm=>some ((v,wt,sm),#[CX .enable],.ph (.Gu j))
 | _,_,_,_=>none
abbrev LO:=M4×Nat×Array Event×Option LP
def Gd(sv aw:Bool)(it:Nat)(old m:M4)(q:Nat):List LO:=
 (if old.l=true/\old.s=false/\it<4 then
  (if aw=false/\old.k=false/\old.w≠0 then
   [if m=old then({m with k:=true},q,#[Cu F.uA,Fa F.uA],some (.ER sv true (it+1))) else(m,q,#[Cu F.uA],some (.ER sv aw (it+1)))]
  else [(m,q,#[],some (.Cz sv aw (it+1) m))])
 else [])++
 (if m=old then
  (if old.l=false/\old.s=false then [({m with l:=true,k:= !aw&&m.k},q,#[Cu F.uA,Fa F.uA],some .len)]
  else [({m with k:= !aw&&m.k,s:=m.s || (sv&&m.l),w:=m.w+1},q,#[Cu F.uA,Fa F.uA],some (.Jl sv)),({m with k:= !aw&&m.k,s:=m.s || (sv&&m.l),w:=m.w+1},q,#[Cu F.uA,Fa F.uA],some (.CL sv))])
 else [(m,q,#[Cu F.uA],some (.ER sv aw it))])
def Ce:LP->M4->Nat->List LO
 | .GL,m,q=>[(m,q,#[CX .disable],some .H9)]
 | .H9,m,q=>if m=M4.zero then [(⟨true,false,false,0⟩,q,#[Cu F.uA,Fa F.uA],some .len)] else [(m,q,#[Cu F.uA],some (.ER false false 0))]
 | .ER sv aw it,m,q=>[(m,q,#[],some (.Cz sv aw it m))]
 | .Cz sv aw it old,m,q=>F.Gd sv aw it old m q
 | .Jl sv,m,q=>[(m,q,#[],some (.CL sv))]
 | .CL sv,m,q=>[(m,q - 1,semEvents F.qA,some (if sv then .Fi true else .GH))]
 | .GH,m,q=>[(m,q,#[],some (.Fi false)),(m,q,#[],some (.Fi true))]
 | .Fi sv,m,q=>if m.s=true then [(m,q,#[],some (.EO (!sv || m.w==1)))] else [(m,q,#[],some (.Cz sv true 0 m))]
 | .EO ex,m,q=>[(⟨true,m.k,!ex,m.w - 1⟩,q,#[Cu F.uA,Fa F.uA],some .len)]
 | .len,m,q=>[(m,q,#[CX .enable],some .Mx)]
 | .Mx,m,q=>[(m,q,#[],some .Lm)]
 | .Lm,m,q=>[(m,q,#[CX (.acquire F.uA)],some .Ge)]
 | .Ge,_,_=>[]
 | .Hs,m,q=>[(m,q,#[],some .Lu)]
 | .Lu,m,q=>[(m,q,#[],some .Ls)]
 | .Ls,m,q=>[(m,q,#[CX (.releaseMerge F.uA)],some .Lp)]
 | .Lp,m,q=>[(m,q,#[CX .disable],some .IS)]
 | .IS,m,q=>[({m with l:=false},q,#[Cu F.uA,Fa F.uA],some (if m.s=true then .FP true else if m.k=false/\m.w≠0 then .Fz {m with l:=false} else .FQ))]
 | .Fz old,m,q=>if m=old then [(⟨false,true,false,old.w - 1⟩,q,#[Cu F.uA,Fa F.uA],some (.FP false))] else [(m,q,#[Cu F.uA],some .Ik)]
 | .Ik,m,q=>[(m,q,#[],some (if m.l=false/\m.k=false/\m.s=false/\m.w≠0 then .Fz m else .FQ))]
 | .FP _,m,q=>[(m,q+1,semEvents F.qA,some .FQ)]
 | .FQ,m,q=>[(m,q,#[CX .enable],none)]
def CU:Ph->Bool
 | .GZ _ | .Jv _ | .IQ _ | .HO _ | .Gu _ | .HG | .Gr _ _ | .JE _=>true
 | .DZ | .GK _ | .Ih _ | .IZ | .Gc | .H6 | .GN | .G3 | .IJ | .JF | .Ju=>true
 | _=>false
def Dd:Ph->Bool
 | .Kb | .Il | .HE | .H5 | .F0=>true
 | _=>false
def KJ:Ph->St->St
 | .Hp,_=>.quiet
 | _,s=>s
def start(_:Fam)(k:Nat):Ph:=.lk k .GL
def F8(j:Nat):Ph:=if j+1=F.n then .HG else .GZ (j+1)
def Fp(j:Nat):Ph:=if j+1=F.n then .DZ else .GZ (j+1)
def DJ(k:Nat):Option LP->Ph
 | some p=>.lk k p
 | none=>.I1
end Fam
def Dz(m:M4):Prop:=m.w<134217728
def En:LP->M4->Nat->Prop
 | .Cz sv aw it old,m,_=>(aw=true->old.k=true)/\(sv=true->aw=true)/\it<=4/\Dz old/\Dz m/\(aw=true->m.k=true)
 | .ER sv aw it,m,_=>(sv=true->aw=true)/\it<=4/\Dz m/\(aw=true->m.k=true)
 | .CL _,_,q=>q≠0
 | .Fi _,m,_=>(m.s=true->m.l=false/\m.k=false/\m.w≠0)/\(m.s=false->m.k=true)/\Dz m
 | .EO ex,m,_=>m.s=true/\m.l=false/\m.k=false/\1<=m.w/\(ex=false->2<=m.w)/\Dz m
 | .IS,m,_=>m.l=true/\Dz m
 | .Fz old,m,_=>old.l=false/\old.k=false/\old.s=false/\old.w≠0/\Dz old/\Dz m
 | .FP _,m,q=>q<=1/\Dz m
 | _,m,_=>Dz m
def Way(P:Program)(main:Bool)(X:GP):GP:=(A9 P main).ok X
theorem Jr.M{P:Program}{main:Bool}{Q K:GP}(h:∀g s,Q g s->K g s):∀{r:Rk}{g:Goroutine}{s:St},Jr P main Q r g s->Jr P main K r g s
 | .leaf,_,_,x=>h _ _ x
 | .node _,_,_,.inl x=>.inl (h _ _ x)
 | .node _,_,_,.inr ⟨O,x⟩=>.inr ⟨O,λw f=>let ⟨g',s',w',es,U,Y,Z⟩:=x w f;⟨g',s',w',es,U,Jr.M h Y,Z⟩⟩
variable{g:Goroutine}{s:St}
theorem Way.M{P:Program}{main:Bool}{Q K:GP}(h:∀g s,Q g s->K g s)(x:Way P main Q g s):Way P main K g s:=
 let ⟨r,O⟩:=x;⟨r,Jr.M (λg s ⟨s₀,a,b⟩=>⟨s₀,a,h g s₀ b⟩) O⟩
def Hn(w K w':World):Prop:=w'.heap=K.heap/\w'.tape=w.tape/\G6 w.os w'.os/\w'.output=w.output
variable{X:Ph->GP}{p:Ph}
section
variable (P:Program)(F:Fam)
def OE(X:Ph->GP)(main:Bool):Nx->GP
 | .ph p,g,s=>Way P main (X p) g s
 | .gone d,g,_=>∃q,QuitsD P q d g
def Fam.K9(H:LH)(f:Nat->Value):LH:=λb=>if b=F.fd then some (F.JD f) else H b
structure HQ (X:Ph->GP) (p:Ph) (g:Goroutine) (s:St):Prop where
 run:g.status=.running
 offers:g.offers=none
 quiet:Fam.Dd p=true->s=.quiet
 live:Fam.Dd p=false->s.q=false
 act:∀v wt sm v' wt' sm' es K,F.act p v wt sm=some ((v',wt',sm'),es,K)->
  ∃g',(∀w,F.WG w v wt sm->stepG P (Fam.CU p) g w=.go g' (F.put w v' wt' sm') es)/\g'.status=.running/\OE P X (Fam.CU p) K g' (Fam.KJ p s)
 J8:(p=.F0∨∃k b,p=.lk k (.FP b))->mayWake P g=true
 FU:p=.Gc->∀w v wt,F.WG w v wt 0->stepG P true g w=.go {g with status:=.blocked} w #[]
 go:∀j,p=.Gu j->∃g' child,g'.status=.running/\child.status=.running/\(∀w,stepG P true g w=.spawn g' child w #[])/\Way P false (X (F.start j)) child ⟨s.E,λ_=>none,false⟩/\Way P true (X (F.Fp j)) g' s
 lk:∀k l,p=.lk k l->l≠ .Ge->∀w m q,F.MU w m q->En l m q->∃m' q' es x g' w',(m',q',es,x)∈F.Ce l m q/\stepG P false g w=.go g' w' es/\Hn w (F.Gt w m' q') w'/\g'.status=.running/\Way P false (X (Fam.DJ k x)) g' s
 CL:∀k sv,p=.lk k (.CL sv)->∀w m,F.MU w m 0->stepG P false g w=.go {g with status:=.blocked} w #[]
 store:∀k,p=.lk k .Ge->∃v,F.msg k v s.E/\∃g',g'.status=.running/\(∀w f,F.FD w f->stepG P false g w=.go g' (F.Ii w (upd f k v)) #[⟨.cell ⟨F.fd,k,none⟩,true,false⟩])/\Way P false (X (.lk k .Hs)) g' s
 fin:p=.G3->∃g',(∀w,stepG P true g w=.go g' w #[Fam.CX (.acquire F.sA)])/\∀E' f,Le s.E E'->E' F.fd=none->(∀b,E' b≠none->s.H b=none)->(∀k,k<F.n->F.msg k (f k) E')->F.fin g' ⟨E',F.K9 s.H f,false⟩
theorem OE.M{O:Ph->GP}(h:∀p g s,X p g s->O p g s){main:Bool}{K:Nx}(x:OE P X main K g s):OE P O main K g s:=by
 cases K with
 | ph p=>exact Way.M (h p) x
 | gone d=>exact x
theorem HQ.M{ac:Ph->GP}(h:∀p g s,X p g s->ac p g s)(x:HQ P F X p g s):HQ P F ac p g s where
 run:=x.run
 offers:=x.offers
 quiet:=x.quiet
 live:=x.live
 act v wt sm v' wt' sm' es ag e:=let ⟨g',K,O,U⟩:=x.act v wt sm v' wt' sm' es ag e;⟨g',K,O,U.M P h⟩
 J8:=x.J8
 FU:=x.FU
 go j e:=let ⟨g',c,K,O,U,Y,Z⟩:=x.go j e;⟨g',c,K,O,U,Y.M (h _),Z.M (h _)⟩
 lk k l e al w m q hm am:=let ⟨m',q',es,y,g',w',K,O,U,Y,Z⟩:=x.lk k l e al w m q hm am;⟨m',q',es,y,g',w',K,O,U,Y,Z.M (h _)⟩
 CL:=x.CL
 store k e:=let ⟨v,K,g',O,U,Y⟩:=x.store k e;⟨v,K,g',O,U,Y.M (h _)⟩
 fin:=x.fin
def Stop(p:Ph)(g:Goroutine)(s:St):Prop:=∃X:Ph->GP,(∀p g s,X p g s->HQ P F X p g s)/\X p g s
variable {P F}
theorem Stop.law(h:Stop P F p g s):HQ P F (Stop P F) p g s:=by
 obtain⟨X,O,K⟩:=h;exact(O p g s K).M P F λp g s K=>⟨X,O,K⟩
theorem HQ.stop(h:HQ P F (Stop P F) p g s):Stop P F p g s:=
 ⟨λp g s=>HQ P F (Stop P F) p g s,λ_ _ _ x=>x.M P F λ_ _ _ y=>y.law,h⟩
end
end Pal
namespace Pal
open Go Go.Conc
open Go.ConcN (upd upd_same upd_ne sumTo sumTo_upd sumTo_upd_out sumTo_congr le_sumTo sumTo_le)
def cU:Nx->Nat
 | .ph (.Ia _) | .ph .I1 | .ph .Hp | .ph .Kb | .ph .Il | .ph (.lk _ _)=>1
 | _=>0
def cL:Nx->Nat
 | .ph .HE | .ph .H5=>1
 | _=>0
def cS:Nx->Nat
 | .ph .F0=>1
 | _=>0
def pend:Nx->Nat
 | .ph (.JE _) | .ph (.IQ _) | .ph (.HO _) | .ph (.Gu _)=>1
 | _=>0
def got:Nx->List Nat
 | .ph (.Gr K _)=>K
 | _=>[]
def Qk:Nx->Prop
 | .gone _=>True
 | _=>False
def II(n j:Nat)(c:Bool):Ph->Prop
 | .GZ K | .Jv K | .JE K | .IQ K | .HO K | .Gu K=>K=j/\j<n/\c=false
 | .HG=>j=n/\c=false
 | .Gr _ _=>j=n/\c=true
 | _=>False
def HC(F:Fam)(k:Nat):Nx->Prop
 | .gone _=>True
 | .ph (.Ia k')=>k'=k/\F.has k=true
 | .ph (.lk k' _)=>k'=k
 | .ph .I1 | .ph .Hp | .ph .Kb | .ph .Il | .ph .HE | .ph .H5 | .ph .F0=>True
 | _=>False
def KA:Nx->Prop
 | .gone _=>True
 | .ph .DZ | .ph (.GK _) | .ph (.Ih _) | .ph .JF | .ph .IZ | .ph .Gc | .ph .H6 | .ph .GN | .ph .Ju | .ph .G3 | .ph .IJ=>True
 | _=>False
def Em(x:Nx)(v wt sm L S:Nat)(cl:Bool):Prop:=
 match x with
 | .ph .DZ=>L=0/\S=0/\sm=0/\wt=0/\cl=false
 | .ph (.GK m)=>L=0/\S=0/\sm=0/\wt=0/\cl=false/\v<=m
 | .ph (.Ih m)=>L=0/\S=0/\sm=0/\wt=0/\cl=false/\v<=m/\1<=m
 | .ph .JF | .ph .IZ | .ph .Gc=>L+S+sm+min v 1=1/\wt=L+min v 1/\cl=false
 | .ph .H6 | .ph .GN | .ph .Ju | .ph .G3 | .ph .IJ=>L=0/\S=0/\sm=0/\wt=0/\v=0/\cl=false
 | .gone _=>L=0/\S=0/\sm=0/\wt=0/\v=0/\cl=true
 | _=>False
structure CV (F:Fam) (N0 N j:Nat) (c:Bool) (φ:Nat->Nx) (v wt sm:Nat) (cl:Bool):Prop where
 pos:0<N0
 n1:1<=F.n
 IX:F.n<2147483647
 size:N=N0+j+c.toNat
 jn:j<=F.n
 cj:c=true->j=F.n
 main:∃p,φ 0=.ph p/\II F.n j c p
 old:∀i,0<i->i<N0->Qk (φ i)
 work:∀k,k<j->HC F k (φ (N0+k))
 cls:c=true->KA (φ (N0+F.n))
 cnt:v=sumTo N (λi=>cU (φ i))+pend (φ 0)
 Lq:v<=j+pend (φ 0)
 mode:Em (if c=true then φ (N0+F.n) else .ph .DZ) v wt sm (sumTo N λi=>cL (φ i)) (sumTo N λi=>cS (φ i)) cl
 Mw:∀k,k<j->F.has k=true->(φ (N0+k)=.ph (.Ia k)↔k ∉ got (φ 0))
 nd:(got (φ 0)).Nodup
 sub:∀k∈got (φ 0),k<j/\F.has k=true
variable{i:Nat}{x:Nx}{p:Ph}{es:Array Event}
section
variable {F:Fam}{N0 N j:Nat}{c:Bool}{φ:Nat->Nx}{v wt sm v' wt' sm':Nat}{cl cl':Bool}
theorem CV.Fq(h:CV F N0 N j c φ v wt sm cl)(hi:i<N):i=0∨(0<i/\i<N0)∨(∃k,k<j/\i=N0+k)∨(c=true/\i=N0+F.n):=by
 have:=h.size;rcases sF i with K | K;exact .inl K
 rcases jH i N0 with U | U;exact .inr (.inl ⟨K,U⟩)
 rcases jH i (N0+j) with Y | Y;exact .inr (.inr (.inl ⟨i - N0,by omega,by omega⟩))
 .cases O:c with
  | false=>rw[O] at this;simp at this;omega
  | true=>have e:=h.cj O;rw[O] at this;simp at this;exact .inr (.inr (.inr ⟨rfl,by omega⟩))
theorem CV.TO(h:CV F N0 N j c φ v wt sm cl):v<=F.n:=by
 have K:=h.Lq;obtain⟨p,O,hm⟩:=h.main;have:=h.jn;rw[O] at K;cases p<;>simp[II] at hm<;>simp[pend] at K<;>omega
theorem CV.JC(h:CV F N0 N j c φ v wt sm cl){k:Nat}(ag:k<j)(al:HC F k x)(am:∀k',φ (N0+k)≠ .ph (.Ia k'))(ap:∀k',x≠ .ph (.Ia k'))
  (a3:v'+cU (φ (N0+k))=v+cU x)
  (hm:∀L S,L+cL (φ (N0+k))=(sumTo N λi=>cL (φ i))+cL x->S+cS (φ (N0+k))=(sumTo N λi=>cS (φ i))+cS x->Em (if c=true then φ (N0+F.n) else .ph .DZ) v' wt' sm' L S cl'):
  CV F N0 N j c (upd φ (N0+k) x) v' wt' sm' cl':=by
 have a4:=h.size;have a5:=h.jn;have a6:=h.pos;have Y:N0+k<N:=by omega
 have K:upd φ (N0+k) x 0=φ 0:=upd_ne _ _ (by omega);have aq:(if c=true then upd φ (N0+k) x (N0+F.n) else .ph .DZ)=(if c=true then φ (N0+F.n) else .ph .DZ):=by
  cases O:c with
  | false=>rfl
  | true=>have:=h.cj O;simp only[sO];exact upd_ne _ _ (by omega)
 have s1:=sumTo_upd φ x cU Y;have s2:=sumTo_upd φ x cL Y;have av:=sumTo_upd φ x cS Y;have a7:=h.cnt;have a8:=h.Lq;refine⟨h.pos,h.n1,h.IX,h.size,h.jn,h.cj,by rw[K];exact h.main,λi aw ay=>by rw[upd_ne _ _ (by omega)];exact h.old i aw ay,λk' U=>?_,λO=>?_,by rw[K];omega,?_,?_,λk' U hh=>?_,by rw[K];exact h.nd,by rw[K];exact h.sub⟩;by_cases e:k'=k;subst e;rw[upd_same];exact al;rw[upd_ne _ _ (by omega)];exact h.work k' U;have:=h.cj O;rw[upd_ne _ _ (by omega)];exact h.cls O
 .rw [K];have:cU x<=1:=by cases x with
   | gone d=>simp[cU]
   | ph p=>cases p<;>simp[cU]
  have hw:=h.work k ag;have key:cU x<=cU (φ (N0+k))∨cU (φ (N0+k))<cU x:=by omega
  rcases key with hle | a9;omega
  ·
   have:(sumTo N λa=>cU (upd φ (N0+k) x a))<=j:=by
    have hb:∀M,M<=N->(sumTo M λa=>cU (upd φ (N0+k) x a))<=min (M - N0) j:=by
     intro M
     induction M with
     | zero=>intro _;simp[sumTo]
     | succ M az=>
      intro bb;have:=az (by omega);simp only[sumTo];have be:cU (upd φ (N0+k) x M)<=1:=by
       generalize upd φ (N0+k) x M=y;cases y with
       | gone d=>simp[cU]
       | ph p=>cases p<;>simp[cU]
      have ac:(M<N0∨N0+j<=M)->cU (upd φ (N0+k) x M)=0:=by
       intro bi;rw[upd_ne _ _ (by omega)];rcases h.Fq (i:=M) (by omega) with rfl | ⟨a,b⟩ | ⟨k',a,rfl⟩ | ⟨a,rfl⟩;obtain⟨p,a0,hm⟩:=h.main;rw[a0];cases p<;>simp[II] at hm<;>rfl
       .have:=h.old M a b;cases Z:φ M with
        | gone d=>rfl
        | ph p=>rw[Z] at this;exact this.elim
       .omega
       .have:=h.cls a;cases Z:φ (N0+F.n) with
        | gone d=>rfl
        | ph p=>rw[Z] at this;cases p<;>simp[KA] at this<;>rfl
      rcases jH M N0 with q | q;rw[ac (.inl q)];omega;rcases jH M (N0+j) with q' | q';omega;rw[ac (.inr q')];omega
    have:=hb N (rJ _);omega
   omega
 rw[aq];exact hm _ _ s2 av;rw[K];by_cases e:k'=k;subst e;rw[upd_same];have:=h.Mw k' U hh;constructor;intro a1;exact absurd a1 (ap k');intro a2;exact absurd (this.2 a2) (am k');rw[upd_ne _ _ (by omega)];exact h.Mw k' U hh
theorem CV.IT(h:CV F N0 N j c φ v wt sm cl)(O:c=true)(Z:KA x)
  (hm:Em x v wt' sm' (sumTo N λi=>cL (φ i)) (sumTo N λi=>cS (φ i)) cl'):
  CV F N0 N j c (upd φ (N0+F.n) x) v wt' sm' cl':=by
 have ac:=h.size;have aq:=h.pos;have av:=h.cj O;have U:N0+F.n<N:=by rw[O] at ac;simp at ac;omega
 have K:upd φ (N0+F.n) x 0=φ 0:=upd_ne _ _ (by omega);have z:∀y,KA y->cU y=0/\cL y=0/\cS y=0:=by
  intro y ag;cases y with
  | gone d=>exact⟨rfl,rfl,rfl⟩
  | ph p=>cases p<;>simp[KA] at ag<;>exact⟨rfl,rfl,rfl⟩
 have z1:=z _ (h.cls O);have aw:=z x Z;have s1:=sumTo_upd φ x cU U;have s2:=sumTo_upd φ x cL U;have ay:=sumTo_upd φ x cS U;have az:=h.cnt;refine⟨h.pos,h.n1,h.IX,h.size,h.jn,h.cj,by rw[K];exact h.main,λi al am=>by rw[upd_ne _ _ (by omega)];exact h.old i al am,λk' Y=>?_,λO=>?_,by rw[K];omega,by rw[K];exact h.Lq,?_,λk' Y hh=>?_,by rw[K];exact h.nd,by rw[K];exact h.sub⟩;rw[upd_ne _ _ (by omega)];exact h.work k' Y;rw[upd_same];exact Z
 .rw [d6 O,upd_same];have e2:(sumTo N λi=>cL (upd φ (N0+F.n) x i))=sumTo N λi=>cL (φ i):=by omega
  have ap:(sumTo N λi=>cS (upd φ (N0+F.n) x i))=sumTo N λi=>cS (φ i):=by omega
  rw[e2,ap];exact hm
 .rw [K,upd_ne _ _ (by omega)];exact h.Mw k' Y hh
theorem UJ{n j:Nat}{c:Bool}(h:II n j c p):cU (.ph p)=0/\cL (.ph p)=0/\cS (.ph p)=0:=by
 cases p<;>simp[II] at h<;>exact⟨rfl,rfl,rfl⟩
theorem CV.Nh(h:CV F N0 N j c φ v wt sm cl)(Y:II F.n j c p)(K:got (.ph p)=got (φ 0))(aw:v'+pend (φ 0)=v+pend (.ph p))(Z:v'<=j+pend (.ph p))
  (hm:Em (if c=true then φ (N0+F.n) else .ph .DZ) v' wt' sm' (sumTo N λi=>cL (φ i)) (sumTo N λi=>cS (φ i)) cl'):
  CV F N0 N j c (upd φ 0 (.ph p)) v' wt' sm' cl':=by
 have ay:=h.size;have az:=h.pos;have O:0<N:=by omega
 obtain⟨a0,ac,ag⟩:=h.main;have z1:=UJ ag;have a1:=UJ Y;rw[← ac] at z1;have s1:=sumTo_upd φ (.ph p) cU O;have s2:=sumTo_upd φ (.ph p) cL O;have a2:=sumTo_upd φ (.ph p) cS O;have a3:=h.cnt;have al:(if c=true then upd φ 0 (.ph p) (N0+F.n) else .ph .DZ)=(if c=true then φ (N0+F.n) else .ph .DZ):=by rw[upd_ne _ _ (by omega)]
 refine⟨h.pos,h.n1,h.IX,h.size,h.jn,h.cj,⟨p,upd_same _ _ _,Y⟩,λi am ap=>by rw[upd_ne _ _ (by omega)];exact h.old i am ap,λk' U=>by rw[upd_ne _ _ (by omega)];exact h.work k' U,λaq=>by rw[upd_ne _ _ (by omega)];exact h.cls aq,by rw[upd_same];omega,by rw[upd_same];exact Z,?_,λk' U hh=>?_,by rw[upd_same,K];exact h.nd,by rw[upd_same,K];exact h.sub⟩
 .rw [al];have e2:(sumTo N λi=>cL (upd φ 0 (.ph p) i))=sumTo N λi=>cL (φ i):=by omega
  have av:(sumTo N λi=>cS (upd φ 0 (.ph p) i))=sumTo N λi=>cS (φ i):=by omega
  rw[e2,av];exact hm
 .rw [upd_same,K,upd_ne _ _ (by omega)];exact h.Mw k' U hh
theorem CV.act(h:CV F N0 N j c φ v wt sm cl)(hi:i<N)(K:φ i=.ph p){a3:Nx}(O:F.act p v wt sm=some ((v',wt',sm'),es,a3)):
  CV F N0 N j c (upd φ i a3) v' wt' sm' cl:=by
 have U:=h.mode;have a5:=h.TO;rcases h.Fq hi with rfl | ⟨a,b⟩ | ⟨k,aq,rfl⟩ | ⟨ac,rfl⟩
 ·
  obtain⟨az,a4,av⟩:=h.main;have:az=p:=by rw[a4] at K;exact Nx.ph.inj K
  subst this;have a7:∀q,II F.n j c q->(∀a6 vs,q≠ .Gr a6 vs)->c=false:=by
   intro q a0 a1;cases q<;>simp[II] at a0<;>first | exact a0.2.2 | exact a0.2 | exact absurd rfl (a1 _ _)
  have am:=h.Lq;cases az<;>simp only[II] at av<;>(try exact av.elim)<;>simp only[Fam.act] at O<;>(try (cases O;done));cases O;obtain⟨rfl,ap,rfl⟩:=av;exact h.Nh (p:=.Jv _) ⟨V,ap,V⟩ (by rw[K];rfl) (by rw[K];rfl) (by rw[K] at am;exact am) (by simpa [Em] using U);split at O;rename_i ag;cases O;obtain⟨rfl,ap,rfl⟩:=av;rw[K] at am;simp only[pend,sY] at am;simp only[rY,sI,Em] at U;split;exact h.Nh (p:=.JE _) ⟨V,ap,V⟩ (by rw[K];rfl) (by rw[K];simp[pend]) (by simp[pend];omega) ⟨U.1,U.2.1,U.2.2.1,V,U.2.2.2.2⟩;exact h.Nh (p:=.HO _) ⟨V,ap,V⟩ (by rw[K];rfl) (by rw[K];simp[pend]) (by simp[pend];omega) ⟨U.1,U.2.1,U.2.2.1,V,U.2.2.2.2⟩;cases O;cases O;obtain⟨rfl,ap,rfl⟩:=av;exact h.Nh (p:=.HO _) ⟨V,ap,V⟩ (by rw[K];rfl) (by rw[K];rfl) (by rw[K] at am;exact am) (by simpa [Em] using U);cases O;obtain⟨rfl,ap,rfl⟩:=av;exact h.Nh (p:=.Gu _) ⟨V,ap,V⟩ (by rw[K];rfl) (by rw[K];rfl) (by rw[K] at am;exact am) (by simpa [Em] using U);cases O;obtain⟨rfl,ap,rfl⟩:=av;exact h.Nh (p:=.IQ _) ⟨V,ap,V⟩ (by rw[K];rfl) (by rw[K];rfl) (by rw[K] at am;exact am) (by simpa [Em] using U)
 .have:=h.old i a b;rw[K] at this;exact this.elim
 ·
  have hw:=h.work k aq;rw[K] at hw;have a8:∀q k',q=Nx.ph p->(∀k',p≠ .Ia k')->q≠ .ph (.Ia k'):=by
   rintro q k' rfl a1 e;exact a1 k' (Nx.ph.inj e)
  cases p<;>simp only[HC] at hw<;>(try exact hw.elim)<;>simp only[Fam.act] at O<;>(try (cases O;done));cases O;refine h.JC aq (x:=.ph .Kb) trivial (λk'=>by rw[K];simp) (by simp) (by rw[K];rfl) λL S Y Z=>?_;rw[K] at Y Z;simp only[cL,cS,sY] at Y Z;subst Y Z;exact U;cases O;refine h.JC aq (x:=.ph .Il) trivial (λk'=>by rw[K];simp) (by simp) (by rw[K];rfl) λL S Y Z=>?_;rw[K] at Y Z;simp only[cL,cS,sY] at Y Z;subst Y Z;exact U
  .split at O
   .rename_i ag;cases O;have ay:∀y al S0 L S,y=(if c=true then φ (N0+F.n) else .ph .DZ)->Em y v wt sm al S0 cl->(if v=1/\wt=1 then L=al+1 else L=al)->S=S0->Em y (v - 1) wt sm L S cl:=by
     intro y al S0 L S a9 hm Y Z;cases y with
     | gone d=>simp only[Em] at hm ⊢;split at Y<;>omega
     | ph q=>
      cases q<;>simp only[Em] at hm ⊢<;>(try exact hm)<;>(try (split at Y<;>omega));split at Y;exfalso;omega;exact⟨by omega,by omega,by omega,by omega,hm.2.2.2.2⟩;split at Y;exfalso;omega;exact⟨by omega,by omega,by omega,by omega,hm.2.2.2.2.1,by omega⟩;split at Y;exfalso;omega;exact⟨by omega,by omega,by omega,by omega,hm.2.2.2.2.1,by omega,by omega⟩;split at Y;exact⟨by omega,by omega,hm.2.2⟩;exact⟨by omega,by omega,hm.2.2⟩;split at Y;exact⟨by omega,by omega,hm.2.2⟩;exact⟨by omega,by omega,hm.2.2⟩;split at Y;exact⟨by omega,by omega,hm.2.2⟩;exact⟨by omega,by omega,hm.2.2⟩
    split;rename_i aw;refine h.JC aq (x:=.ph .HE) trivial (λk'=>by rw[K];simp) (by simp) (by rw[K];simp[cU];omega) λL S Y Z=>?_;rw[K] at Y Z;simp only[cL,cS,sY] at Y Z;exact ay _ _ _ L S V U (by rw[d6 aw];exact Y) Z;rename_i aw;refine h.JC aq (x:=.gone 1) trivial (λk'=>by rw[K];simp) (by simp) (by rw[K];simp[cU];omega) λL S Y Z=>?_;rw[K] at Y Z;simp only[cL,cS,sY] at Y Z;exact ay _ _ _ L S V U (by rw[d0 aw];exact Y) Z
   .cases O
  .split at O
   .rename_i ag;cases O;refine h.JC aq (x:=.ph .H5) trivial (λk'=>by rw[K];simp) (by simp) (by rw[K];simp[cU];omega) λL S Y Z=>?_;rw[K] at Y Z;simp only[cL,cS,sY] at Y Z;have e:L=sumTo N λi=>cL (φ i):=by
     have bb:L+1=(sumTo N λi=>cL (φ i))+1:=Y;omega
    obtain⟨aw,a2⟩:=ag;subst e Z aw a2;exact U
   .cases O
  .split at O
   .rename_i ag;cases O;obtain⟨aw,a2⟩:=ag;subst aw a2;refine h.JC aq (x:=.ph .F0) trivial (λk'=>by rw[K];simp) (by simp) (by rw[K];simp[cU]) λL S Y Z=>?_;rw[K] at Y Z;simp only[cL,cS,sY] at Y Z;have ay:∀y al S0,Em y 0 1 sm al S0 cl->L+1=al->S=S0+1->Em y 0 0 sm L S cl:=by
     intro y al S0 hm Y Z;cases y with
     | gone d=>simp only[Em] at hm ⊢;omega
     | ph q=>
      cases q<;>simp only[Em] at hm ⊢<;>(try exact hm)<;>(try (exfalso;omega));exact⟨by omega,by omega,hm.2.2⟩;exact⟨by omega,by omega,hm.2.2⟩;exact⟨by omega,by omega,hm.2.2⟩
    exact ay _ _ _ U Y Z
   .cases O
  .split at O
   .rename_i ag;cases O;subst ag;refine h.JC aq (x:=.gone 1) trivial (λk'=>by rw[K];simp) (by simp) (by rw[K];simp[cU]) λL S Y Z=>?_;rw[K] at Y Z;simp only[cL,cS,sY] at Y Z;have ay:∀y al S0,Em y v wt 0 al S0 cl->L=al->S+1=S0->Em y v wt 1 L S cl:=by
     intro y al S0 hm Y Z;cases y with
     | gone d=>simp only[Em] at hm ⊢;omega
     | ph q=>
      cases q<;>simp only[Em] at hm ⊢<;>(try exact hm)<;>(try (exfalso;omega));exact⟨by omega,by omega,hm.2.2⟩;exact⟨by omega,by omega,hm.2.2⟩;exact⟨by omega,by omega,hm.2.2⟩
    exact ay _ _ _ U Y Z
   .cases O
  .cases O;refine h.JC aq (x:=.ph .Hp) trivial (λk'=>by rw[K];simp) (by simp) (by rw[K];rfl) λL S Y Z=>?_;rw[K] at Y Z;simp only[cL,cS,sY] at Y Z;subst Y Z;exact U
 ·
  have hw:=h.cls ac;rw[d6 ac,K] at U;rw[K] at hw;obtain⟨az,a4,av⟩:=h.main;cases p<;>simp only[KA] at hw<;>(try exact hw.elim)<;>simp only[Fam.act] at O<;>(try (cases O;done))<;>simp only[Em] at U;cases O;exact h.IT ac (x:=.ph (.GK F.n)) trivial ⟨U.1,U.2.1,U.2.2.1,U.2.2.2.1,U.2.2.2.2,a5⟩;split at O;rename_i m ag;cases O;split;exact h.IT ac (x:=.ph .GN) trivial ⟨U.1,U.2.1,U.2.2.1,V,by assumption,U.2.2.2.2.1⟩;exact h.IT ac (x:=.ph (.Ih _)) trivial ⟨U.1,U.2.1,U.2.2.1,V,U.2.2.2.2.1,rJ _,by omega⟩;cases O;split at O;rename_i m ag;split at O;cases O;exact h.IT ac (x:=.ph .JF) trivial ⟨by omega,by omega,U.2.2.2.2.1⟩;cases O;exact h.IT ac (x:=.ph (.GK _)) trivial ⟨U.1,U.2.1,U.2.2.1,V,U.2.2.2.2.1,by omega⟩;cases O;cases O;exact h.IT ac (x:=.ph .Gc) trivial U;split at O;rename_i ag;cases O;exact h.IT ac (x:=.ph .H6) trivial ⟨by omega,by omega,V,by omega,by omega,U.2.2⟩;cases O;split at O;rename_i ag;obtain⟨rfl,rfl⟩:=ag;cases O;exact h.IT ac (x:=.ph .GN) trivial U;cases O;cases O;exact h.IT ac (x:=.ph .Ju) trivial U;cases O;exact h.IT ac (x:=.ph .IZ) trivial U;cases O;exact h.IT ac (x:=.ph .G3) trivial U
end
open Go.ConcN (fork_knows)
section
variable {F:Fam}{N0 N j:Nat}{c:Bool}{φ:Nat->Nx}{v wt sm:Nat}{cl:Bool}
theorem CV.spawn(h:CV F N0 N j c φ v wt sm cl)(U:φ 0=.ph (.Gu j)):
  CV F N0 (N+1) (j+1) c (upd (upd φ N (.ph (F.start j))) 0 (.ph (F.F8 j))) v wt sm cl:=by
 obtain⟨av,aw,ay⟩:=h.main;obtain rfl:av=.Gu j:=by rw[aw] at U;exact Nx.ph.inj U
 obtain⟨_,a3,rfl⟩:=ay;have az:=h.size;have a4:=h.pos;simp only[rU,sY] at az;have Y:cU (.ph (F.start j))=1/\cL (.ph (F.start j))=0/\cS (.ph (F.start j))=0:=by
  exact⟨V,V,V⟩
 have K:cU (.ph (F.F8 j))=0/\cL (.ph (F.F8 j))=0/\cS (.ph (F.F8 j))=0/\pend (.ph (F.F8 j))=0/\got (.ph (F.F8 j))=[]:=by
  unfold Fam.F8;split<;>exact⟨rfl,rfl,rfl,rfl,rfl⟩
 have Z:cU (φ 0)=0/\cL (φ 0)=0/\cS (φ 0)=0:=by rw[U];exact⟨V,V,V⟩
 let φ':Nat->Nx:=upd (upd φ N (.ph (F.start j))) 0 (.ph (F.F8 j));have O:φ' 0=.ph (F.F8 j):=upd_same _ _ _;have aq:φ' N=.ph (F.start j):=by show upd _ _ _ _=_;rw[upd_ne _ _ (by omega),upd_same]
 have ac:∀i,0<i->i≠N->φ' i=φ i:=λi ag al=>by show upd _ _ _ _=_;rw[upd_ne _ _ (by omega),upd_ne _ _ al]
 have sum:∀f:Nx->Nat,f (φ 0)=0->f (.ph (F.F8 j))=0->(sumTo (N+1) λi=>f (φ' i))=(sumTo N λi=>f (φ i))+f (.ph (F.start j)):=by
  intro f f0 f1;simp only[sumTo,aq];congr 1;have a0:0<N:=by omega
  have:=sumTo_upd (upd φ N (.ph (F.start j))) (.ph (F.F8 j)) f a0;have e2:upd φ N (.ph (F.start j)) 0=φ 0:=upd_ne _ _ (by omega);rw[e2,f0,f1] at this;have a5:=sumTo_upd_out φ (.ph (F.start j)) f (i:=N) (j:=N) (rJ _);show sumTo N (λi=>f (upd (upd φ N (.ph (F.start j))) 0 (.ph (F.F8 j)) i))=_;omega
 have am:=h.cnt;have ap:=h.Lq;rw[U] at am ap;simp only[pend] at am ap;show CV F N0 (N+1) (j+1) false φ' v wt sm cl;have a1:got (φ 0)=[]:=by rw[U];rfl
 refine⟨h.pos,h.n1,h.IX,by simp;omega,by omega,by simp,⟨F.F8 j,O,?_⟩,λi ag al=>by rw[ac i ag (by omega)];exact h.old i ag al,λk a2=>?_,by simp,?_,?_,?_,λk a2 hh=>?_,by rw[O,K.2.2.2.2];exact .nil,by rw[O,K.2.2.2.2];simp⟩;unfold Fam.F8;split;exact⟨by assumption,V⟩;exact⟨V,by omega,V⟩;by_cases e:k=j;subst e;rw[show N0+k=N by omega,aq];exact V;rw[ac _ (by omega) (by omega)];exact h.work k (by omega);rw[O,K.2.2.2.1,sum cU Z.1 K.1,Y.1];exact am;rw[O,K.2.2.2.1];exact ap;have hm:=h.mode;simp only[rY,sI] at hm ⊢;rw[sum cL Z.2.1 K.2.1,sum cS Z.2.2 K.2.2.1,Y.2.1,Y.2.2];exact hm
 .rw [O,K.2.2.2.2];by_cases e:k=j;exact absurd hh tI
  .rw [ac _ (by omega) (by omega)];have:=h.Mw k (by omega) hh
   rwa[a1] at this
theorem CV.jL(h:CV F N0 N j c φ v wt sm cl)(O:φ 0=.ph .HG):
  CV F N0 (N+1) j true (upd (upd φ N (.ph .DZ)) 0 (.ph (.Gr [] []))) v wt sm cl:=by
 obtain⟨av,aw,ay⟩:=h.main;obtain rfl:av=.HG:=by rw[aw] at O;exact Nx.ph.inj O
 obtain⟨aq,rfl⟩:=ay;have az:=h.size;have a2:=h.pos;simp only[rU,sY] at az;have U:cU (φ 0)=0/\cL (φ 0)=0/\cS (φ 0)=0:=by rw[O];exact⟨V,V,V⟩
 let φ':Nat->Nx:=upd (upd φ N (.ph .DZ)) 0 (.ph (.Gr [] []));have K:φ' 0=.ph (.Gr [] []):=upd_same _ _ _;have Y:φ' N=.ph .DZ:=by show upd _ _ _ _=_;rw[upd_ne _ _ (by omega),upd_same]
 have Z:∀i,0<i->i≠N->φ' i=φ i:=λi ac ag=>by show upd _ _ _ _=_;rw[upd_ne _ _ (by omega),upd_ne _ _ ag]
 have sum:∀f:Nx->Nat,f (φ 0)=0->f (.ph (.Gr [] []))=0->f (.ph .DZ)=0->(sumTo (N+1) λi=>f (φ' i))=(sumTo N λi=>f (φ i)):=by
  intro f f0 f1 f2;simp only[sumTo,Y,f2];have a0:0<N:=by omega
  have:=sumTo_upd (upd φ N (.ph .DZ)) (.ph (.Gr [] [])) f a0;have e2:upd φ N (.ph .DZ) 0=φ 0:=upd_ne _ _ (by omega);rw[e2,f0,f1] at this;have a3:=sumTo_upd_out φ (.ph .DZ) f (i:=N) (j:=N) (rJ _);show sumTo N (λi=>f (upd (upd φ N (.ph .DZ)) 0 (.ph (.Gr [] [])) i))+0=_;omega
 have al:=h.cnt;have am:=h.Lq;rw[O] at al am;simp only[pend] at al am;show CV F N0 (N+1) j true φ' v wt sm cl;have a1:got (φ 0)=[]:=by rw[O];rfl
 refine⟨h.pos,h.n1,h.IX,by simp;omega,h.jn,λ_=>aq,⟨.Gr [] [],K,aq,V⟩,λi ac ag=>by rw[Z i ac (by omega)];exact h.old i ac ag,λk ap=>?_,λ_=>by rw[show N0+F.n=N by omega,Y];trivial,?_,?_,?_,λk ap hh=>?_,by rw[K];exact .nil,by rw[K];simp[got]⟩;rw[Z _ (by omega) (by omega)];exact h.work k ap;rw[K,sum cU U.1 rfl rfl];exact al;rw[K];exact am;have hm:=h.mode;simp only[rY,sI,sO] at hm ⊢;rw[show N0+F.n=N by omega,Y,sum cL U.2.1 rfl rfl,sum cS U.2.2 rfl rfl];exact hm
 .rw [K];rw[Z _ (by omega) (by omega)];have:=h.Mw k ap hh
  rwa[a1] at this
theorem CV.leave(h:CV F N0 N j c φ v wt sm cl){d d':Nat}(hi:i<N)(K:φ i=.gone d):CV F N0 N j c (upd φ i (.gone d')) v wt sm cl:=by
 rcases h.Fq hi with rfl | ⟨a,b⟩ | ⟨k,U,rfl⟩ | ⟨Y,rfl⟩;obtain⟨p,Z,_⟩:=h.main;rw[K] at Z;cases Z
 .have am:=hi;have z:∀f:Nx->Nat,f (.gone d)=0->f (.gone d')=0->(sumTo N λa=>f (upd φ i (.gone d') a))=sumTo N λa=>f (φ a):=by
   intro f f0 f1;have:=sumTo_upd φ (.gone d') f am;rw[K] at this;omega
  have aw:=h.size;have O:upd φ i (.gone d') 0=φ 0:=upd_ne _ _ (by omega);refine⟨h.pos,h.n1,h.IX,h.size,h.jn,h.cj,by rw[O];exact h.main,λac ap aq=>?_,λk U=>by rw[upd_ne _ _ (by omega)];exact h.work k U,λY=>by rw[upd_ne _ _ (by omega)];exact h.cls Y,by rw[O,z cU rfl rfl];exact h.cnt,by rw[O];exact h.Lq,?_,λk U hh=>by rw[O,upd_ne _ _ (by omega)];exact h.Mw k U hh,by rw[O];exact h.nd,by rw[O];exact h.sub⟩;by_cases e:ac=i;subst e;rw[upd_same];trivial;rw[upd_ne _ _ e];exact h.old ac ap aq;rw[z cL rfl rfl,z cS rfl rfl,upd_ne _ _ (by omega)];exact h.mode
 refine h.JC U (x:=.gone d') trivial (by rw[K];simp) (by simp) (by rw[K];rfl) λL S ag al=>?_;rw[K] at ag al;have av:L=sumTo N λi=>cL (φ i):=ag;have e2:S=sumTo N λi=>cS (φ i):=al;subst av e2;exact h.mode;have hm:=h.mode;rw[d6 Y,K] at hm;exact h.IT Y (x:=.gone d') trivial hm
theorem CV.fH(h:CV F N0 N j c φ v wt sm cl)(O:c=true)(U:φ (N0+F.n)=.ph .H6∨φ (N0+F.n)=.ph .GN∨φ (N0+F.n)=.ph .G3∨φ (N0+F.n)=.ph .IJ∨Qk (φ (N0+F.n))):∀k,k<j->Qk (φ (N0+k)):=by
 intro k Y;have hm:=h.mode;rw[d6 O] at hm;have Z:=h.size;have ac:=h.cnt;have ag:cU (φ (N0+k))<=sumTo N λi=>cU (φ i):=le_sumTo (f:=λi=>cU (φ i)) (show N0+k<N by omega);have al:cL (φ (N0+k))<=sumTo N λi=>cL (φ i):=le_sumTo (f:=λi=>cL (φ i)) (show N0+k<N by omega);have am:cS (φ (N0+k))<=sumTo N λi=>cS (φ i):=le_sumTo (f:=λi=>cS (φ i)) (show N0+k<N by omega);have ap:v=0/\(sumTo N λi=>cL (φ i))=0/\(sumTo N λi=>cS (φ i))=0:=by
  rcases U with e | e | e | e | e;rw[e] at hm;exact⟨hm.2.2.2.2.1,hm.1,hm.2.1⟩;rw[e] at hm;exact⟨hm.2.2.2.2.1,hm.1,hm.2.1⟩;rw[e] at hm;exact⟨hm.2.2.2.2.1,hm.1,hm.2.1⟩;rw[e] at hm;exact⟨hm.2.2.2.2.1,hm.1,hm.2.1⟩
  .cases K:φ (N0+F.n) with
   | gone d=>rw[K] at hm;exact⟨hm.2.2.2.2.1,hm.1,hm.2.1⟩
   | ph p=>rw[K] at e;exact e.elim
 have hw:=h.work k Y;cases K:φ (N0+k) with
 | gone d=>trivial
 | ph p=>
  have aq:1<=cU (φ (N0+k))+cL (φ (N0+k))+cS (φ (N0+k)):=by
   rw[K] at hw ⊢;cases p<;>simp only[HC] at hw<;>simp[cU,cL,cS]
  exfalso;omega
end
open Go.ConcN (RelBy)
def dl:LP->Nat
 | .H9 | .ER _ _ _ | .Cz _ _ _ _ | .Jl _ | .CL _ | .GH | .Fi _ | .EO _ | .len=>1
 | .IS | .Fz _ | .Ik | .FP _ | .FQ=>1
 | _=>0
def Gv:Nx->Nat
 | .gone d=>d
 | .ph .Il | .ph .HE | .ph .H5 | .ph .F0=>1
 | .ph (.GK _) | .ph (.Ih _) | .ph .JF | .ph .IZ | .ph .Gc | .ph .H6 | .ph .GN=>1
 | .ph (.Jv _) | .ph (.JE _) | .ph (.IQ _) | .ph (.HO _)=>1
 | .ph (.lk _ p)=>dl p
 | _=>0
def late:Nx->Prop
 | .ph (.Ia _) | .ph .I1 | .ph .Hp | .ph (.lk _ _)=>False
 | _=>True
def KE(t:Trace)(E:LH)(ρ:Nat):Prop:=∀b,E b≠none->∀x a,touchAt t x=some a->Df a.loc=some b->a.write=true->Before t x ρ
structure FM (F:Fam) (N0 t0 N j:Nat) (φ:Nat->Nx) (S:Nat->St) (t:Trace):Prop where
 deaf:∀i,i<N->Deaf t i=Gv (φ i)
 above:∀i,N<=i->Deaf t i=0
 plain:∀x a b,touchAt t x=some a->Df a.loc=some b->(b=F.wg∨b=F.mu)->a.kind=.plain->∀i,i<N->(i=0∨N0<=i)->Knows t i x
 said:∀x a b,touchAt t x=some a->Df a.loc=some b->(b=F.wg∨b=F.mu)->a.kind=.said->Knows t 0 x
 G8:∀x a,touchAt t x=some a->Df a.loc=some F.fd->(∀i,i<N->(i=0∨N0<=i)->Knows t i x)∨∃k,k<j/\t.g? x=some (N0+k)/\t.counts x/\a.loc=.cell ⟨F.fd,k,none⟩
 over:∀x g,t.g? x=some g->g≠0->t.counts x->(∃y,t.g? y=some 0/\HappensBefore t x y)∨(N0<=g/\g<N)
 norel:∀x,t0<=x->t.act? x≠some (.mark (.release F.sA))
 Ot:t0<=t.size
 rel:∀k,k<j->late (φ (N0+k))->∃ρ,t0<=ρ/\RelBy F.sA t (N0+k) ρ/\KE t (S (N0+k)).E ρ
variable{fn:FuncId}{pos:String}
section
variable {F:Fam}{N0 t0 N j:Nat}{φ:Nat->Nx}{S:Nat->St}{t u:Trace}
def EvS(F:Fam)(N0 j i:Nat)(e:Event):Prop:=
 (∀a,(MemAct.ofEvent e).touch?=some a->∃b,Df a.loc=some b/\(((b=F.wg∨b=F.mu)/\a.kind≠ .plain/\(a.kind=.said->i=0))∨(b=F.fd/\∃k,k<j/\i=N0+k/\a.loc=.cell ⟨F.fd,k,none⟩/\a.kind=.plain)))/\e.loc≠ .mark (.release F.sA)
theorem FM.noRace(h:FM F N0 t0 N j φ S t)(am:∀said,¬Race said t)(hi:i<N)(Z:i=0∨N0<=i)
  (ap:∀e∈es,EvS F N0 j i e):∀said,¬Race said (t++MemOp.ofEvents i fn pos es):=by
 intro said;refine noRace_append (g:=i) (am said) (λop O=>by obtain⟨e,_,rfl⟩:=mem_ofEvents O;rfl) λx a U op O d hd aq=>?_;obtain⟨e,he,rfl⟩:=mem_ofEvents O;let⟨b,hb,K⟩:=(ap e he).1 d hd;obtain⟨ac,hm,a3,av⟩:=aq;have Y:Df a.loc=some b:=by rw[ac];exact hb
 rcases K with⟨K,ag,aw⟩ | ⟨rfl,k,ag,ay,az,_⟩
 .rcases av with q | q | ⟨_,q,q'⟩;exact h.plain x a b U Y K q i hi Z;exact absurd q ag
  .have:=h.said x a b U Y K q
   rwa[← aw q'] at this
 .rcases h.G8 x a U Y with q | ⟨k',_,a0,_,al⟩;exact q i hi Z
  .rw [ac,az] at al;have:k=k':=by simpa using al
   subst this;let⟨z,a1,a2⟩:=sr.1 a0;have:=knows_own a1;rw[a2,← ay] at this;exact this
theorem Sa(h:∀x g,t.g? x=some g->g≠0->t.counts x->(∃y,t.g? y=some 0/\HappensBefore t x y)∨(N0<=g/\g<N))(hu:∀op∈u,op.g=0∨(N0<=op.g/\op.g<N)∨op.act.touch?=none):
  ∀x g,(t++u).g? x=some g->g≠0->(t++u).counts x->(∃y,(t++u).g? y=some 0/\HappensBefore (t++u) x y)∨(N0<=g/\g<N):=by
 intro x g O U Y;rcases jH x t.size with q | q
 .rcases h x g (by rw[← g?_old (u:=u) q];exact O) U ((counts_old q).1 Y) with⟨y,K,hb⟩ | hh
  .have al:y<t.size:=by
    unfold Trace.g? at K;let⟨z,am,_⟩:=sr.1 K;exact lt_size_of_getElem? am
   exact .inl ⟨y,by rw[g?_old al];exact K,hb_app u hb⟩
  .exact .inr hh
 .obtain⟨a,ap,_⟩:=Y;let⟨op,Z,ac⟩:=touch_of ap;have ag:op.g=g:=by simpa [Trace.g?,Z] using O
  rcases getElem?_append_cases Z with⟨av,_⟩ | ⟨_,aq⟩;omega;rcases hu op aq with z | z | z;exact absurd (ag▸z) U;exact .inr (ag▸z);rw[z] at ac;cases ac
theorem R0(h:∀x,t0<=x->t.act? x≠some (.mark (.release F.sA)))(hu:∀op∈u,op.act≠ .mark (.release F.sA)):∀x,t0<=x->(t++u).act? x≠some (.mark (.release F.sA)):=by
 intro x O e;let⟨op,U,K⟩:=sr.1 e;rcases getElem?_append_cases U with⟨_,Y⟩ | ⟨_,Z⟩;exact h x O (by rw[act?_of Y,K]);exact hu op Z K
theorem YP{g:Nat}(hu:∀op∈u,op.g=g->op.act.touch?=none):∀x,t.size<=x->(t++u).g? x=some g->¬(t++u).counts x:=by
 intro x ag U Y;obtain⟨a,Z,_⟩:=Y;let⟨op,K,O⟩:=touch_of Z;rcases getElem?_append_cases K with⟨al,_⟩ | ⟨_,ac⟩;omega;rw[hu op ac (by simpa [Trace.g?,K] using U)] at O;cases O
theorem KE.app{E:LH}{ρ:Nat}(h:KE t E ρ)(hu:∀op∈u,∀a b,op.act.touch?=some a->Df a.loc=some b->a.write=true->E b=none):KE (t++u) E ρ:=by
 intro b hb x a U K hw;let⟨op,Y,O⟩:=touch_of U;rcases getElem?_append_cases Y with⟨ag,Z⟩ | ⟨_,ac⟩;exact(h b hb x a (by rw[touchAt_of Z];exact O) K hw).app u;exact absurd (hu op ac a b O K hw) hb
theorem FM.app(h:FM F N0 t0 N j φ S t)(hi:i<N){s':St}
  (hd:deafBehind (Gv (φ i)) es=Gv x)
  (aq:∀e∈es,(∀a b,(MemAct.ofEvent e).touch?=some a->Df a.loc=some b->(b=F.wg∨b=F.mu)->a.kind≠ .plain/\(a.kind=.said->i=0))/\
   (∀a,(MemAct.ofEvent e).touch?=some a->Df a.loc=some F.fd->∃k,k<j/\i=N0+k/\a.loc=.cell ⟨F.fd,k,none⟩/\a.kind=.plain)/\e.loc≠ .mark (.release F.sA))
  (a7:(i=0∨N0<=i)∨∀e∈es,(MemAct.ofEvent e).touch?=none)
  (a8:∀k,k<j->late (φ (N0+k))->∀e∈es,∀a b,(MemAct.ofEvent e).touch?=some a->Df a.loc=some b->a.write=true->(S (N0+k)).E b=none)
  (aw:∀k,k<j->i=N0+k->late x->(late (φ i)/\s'.E=(S i).E/\∀ρ,RelBy F.sA t i ρ->RelBy F.sA (t++MemOp.ofEvents i fn pos es) i ρ)∨∃ρ,t0<=ρ/\RelBy F.sA (t++MemOp.ofEvents i fn pos es) i ρ/\KE (t++MemOp.ofEvents i fn pos es) s'.E ρ):
  FM F N0 t0 N j (upd φ i x) (upd S i s') (t++MemOp.ofEvents i fn pos es):=by
 generalize hu:MemOp.ofEvents i fn pos es=u at*;have ag:∀op∈u,op.g=i:=λop O=>by rw[← hu] at O;obtain⟨e,_,rfl⟩:=mem_ofEvents O;rfl
 have av:∀op∈u,∃e∈es,op.act=MemAct.ofEvent e:=λop O=>by rw[← hu] at O;obtain⟨e,he,rfl⟩:=mem_ofEvents O;exact⟨e,he,V⟩
 have hold:∀{y a},touchAt (t++u) y=some a->(touchAt t y=some a/\y<t.size)∨(Knows (t++u) i y/\(t++u).g? y=some i/\∃e∈es,(MemAct.ofEvent e).touch?=some a):=by
  intro y a a9;let⟨op,O,a1⟩:=touch_of a9;rcases getElem?_append_cases O with⟨aw,bb⟩ | ⟨_,ay⟩;left;exact⟨by rw[touchAt_of bb];exact a1,aw⟩;right;let⟨e,he,Z⟩:=av op ay;exact⟨by have:=knows_own O;rwa[ag op ay] at this,by simp[Trace.g?,O,ag op ay],e,he,by rw[← Z];exact a1⟩
 have a2:∀k,k<j->late (φ (N0+k))->∀ρ,KE t (S (N0+k)).E ρ->KE (t++u) (S (N0+k)).E ρ:=λk K U ρ be=>be.app λop bi a b a3 hb hw=>by
  let⟨e,he,Z⟩:=av op bi;rw[Z] at a3;exact a8 k K U e he a b a3 hb hw
 refine⟨λY ac=>?_,λY ac=>?_,λy a b al hb am K Y ac az=>?_,λy a b al hb am K=>?_,λy a al hb=>?_,Sa h.over λop O=>?_,R0 h.norel λop O e=>?_,by simp;have:=h.Ot;omega,λk K U=>?_⟩;by_cases e:Y=i;subst e;rw[upd_same,← hu,Deaf_own,h.deaf Y hi,hd];rw[upd_ne _ _ e,Deaf_other t (sy e) u ag];exact h.deaf Y ac;rw[Deaf_other t (by omega) u ag];exact h.above Y ac;rcases hold al with⟨q,_⟩ | ⟨_,_,e,he,ap⟩;exact(h.plain y a b q hb am K Y ac az).app _;exact absurd K ((aq e he).1 a b ap hb am).1;rcases hold al with⟨q,_⟩ | ⟨a4,_,e,he,ap⟩;exact(h.said y a b q hb am K).app _;rw[← ((aq e he).1 a b ap hb am).2 K];exact a4;rcases hold al with⟨q,a5⟩ | ⟨a4,a0,e,he,ap⟩;rcases h.G8 y a q hb with z | ⟨k,K,a0,bn,U⟩;exact .inl λY ac az=>(z Y ac az).app _;exact .inr ⟨k,K,by rw[g?_old a5];exact a0,(counts_old a5).2 bn,U⟩;let⟨k,K,bo,U,bv⟩:=(aq e he).2.1 a ap hb;exact .inr ⟨k,K,by rw[a0,bo],⟨a,al,by rw[U];rfl,.inl (by rw[bv];simp)⟩,U⟩;rw[ag op O];rcases a7 with(q | q) | q;exact .inl q;exact .inr (.inl ⟨q,hi⟩);let⟨e,he,Z⟩:=av op O;rw[Z];exact .inr (.inr (q e he))
 .let⟨ev,bw,Z⟩:=av op O;rw[Z] at e;exact(aq ev bw).2.2 (by
   obtain⟨loc,wr,bx⟩:=ev
   cases loc with
   | mark m=>simp only[MemAct.ofEvent,MemAct.mark.injEq] at e;rw[e]
   | obj r=>cases wr<;>cases bx<;>simp[MemAct.ofEvent] at e
   | _=>simp[MemAct.ofEvent] at e)
 .by_cases e:i=N0+k;subst e;rw[upd_same] at U;rw[upd_same];rcases aw k K rfl U with⟨a6,bz,b0⟩ | hh;let⟨ρ,a,b,c⟩:=h.rel k K a6;exact⟨ρ,a,b0 ρ b,by rw[bz];exact a2 k K a6 ρ c⟩;exact hh;rw[upd_ne _ _ (sy e)] at U;rw[upd_ne _ _ (sy e)];let⟨ρ,a,b,c⟩:=h.rel k K U;exact⟨ρ,a,b.appOther ag e,a2 k K U ρ c⟩
theorem FM.DU(h:FM F N0 t0 N j φ S t)(hu:∀op∈u,op.act.touch?=none/\∀m,op.act≠ .mark m):FM F N0 t0 N j φ S (t++u):=by
 have ap:∀g,Deaf (t++u) g=Deaf t g:=by
  intro g;obtain⟨l⟩:=u;rw[Deaf_append];have key:∀(l:List MemOp) (d:Nat),(∀op∈l,∀m,op.act≠ .mark m)->l.foldl (deafStep g) d=d:=by
   intro l
   induction l with
   | nil=>intro d _;rfl
   | cons z l aw=>
    intro d U;have ay:=U z (by simp);have e2:deafStep g d z=d:=by
     unfold deafStep;split<;>first | (rename_i e;exact absurd e (ay _)) | rfl
    rw[tq,e2];exact aw d λop K=>U op (by simp[K])
  exact key l _ λop K=>(hu op (by simpa using K)).2
 have hold:∀{y a},touchAt (t++u) y=some a->touchAt t y=some a/\y<t.size:=by
  intro y a Z;let⟨op,K,ac⟩:=touch_of Z;rcases getElem?_append_cases K with⟨az,a0⟩ | ⟨_,a1⟩;exact⟨by rw[touchAt_of a0];exact ac,az⟩;rw[(hu op a1).1] at ac;cases ac
 have a2:∀g x,t.size<=x->(t++u).g? x=some g->¬(t++u).counts x:=λg=>YP λop K _=>(hu op K).1;refine⟨λi hi=>by rw[ap];exact h.deaf i hi,λi hi=>by rw[ap];exact h.above i hi,λy a b Y hb ag O i hi al=>(h.plain y a b (hold Y).1 hb ag O i hi al).app _,λy a b Y hb ag O=>(h.said y a b (hold Y).1 hb ag O).app _,λy a Y hb=>?_,
  Sa h.over λop K=>.inr (.inr (hu op K).1),R0 h.norel λop K=>(hu op K).2 _,by simp;have:=h.Ot;omega,λk O U=>let ⟨ρ,a,b,c⟩:=h.rel k O U;⟨ρ,a,b.app λx Z am=>a2 _ x Z am,c.app λop K a b aq=>by rw[(hu op K).1] at aq;cases aq⟩⟩
 let⟨q,av⟩:=hold Y;rcases h.G8 y a q hb with z | ⟨k,O,am,a3,U⟩;exact .inl λa4 a5 al=>(z a4 a5 al).app _;exact .inr ⟨k,O,by rw[g?_old av];exact am,(counts_old av).2 a3,U⟩
theorem FM.spawn(h:FM F N0 t0 N j φ S t){φ':Nat->Nx}{S':Nat->St}(ac:0<N)(bb:N=N0+j)(hd:∀i,i<N->Gv (φ' i)=Gv (φ i))(a2:Gv (φ' N)=0)(a3:Gv (φ 0)=0)
  (a4:∀k,k<j+1->late (φ' (N0+k))->k<j/\late (φ (N0+k))/\(S' (N0+k)).E=(S (N0+k)).E)
  {x y:MemOp}(Z:x.g=0/\x.act=.go N) (aq:y.g=N/\y.act=.start):FM F N0 t0 (N+1) (j+1) φ' S' (t++ #[x,y]):=by
 have hu:∀op∈(#[x,y]:Array MemOp),op.act.touch?=none/\∀m,op.act≠ .mark m:=by
  intro op av;simp only[tc,iC,rO,sX] at av;rcases av with rfl | rfl;rw[Z.2];exact⟨V,by simp⟩;rw[aq.2];exact⟨V,by simp⟩
 have K:=h.DU hu;have aw:∀z,Knows t 0 z->Knows (t++ #[x,y]) N z:=λz O=>fork_knows Z aq (by rw[h.deaf 0 ac];exact a3) (h.above N (rJ _)) O;have hold:∀{z a},touchAt (t++ #[x,y]) z=some a->touchAt t z=some a:=by
  intro z a O;let⟨op,ag,U⟩:=touch_of O;rcases getElem?_append_cases ag with⟨ay,a5⟩ | ⟨_,al⟩;rw[touchAt_of a5];exact U;rw[(hu op al).1] at U;cases U
 refine⟨λi hi=>?_,λi hi=>K.above i (by omega),λz a b O hb az Y i hi am=>?_,K.said,λz a O hb=>?_,λz g ap a6 a7=>?_,K.norel,K.Ot,λk Y Z=>?_⟩
 .rcases jH i N with q | q;rw[hd i q];exact K.deaf i q
  .obtain rfl:i=N:=by omega
   rw[a2];exact K.above i (rJ _)
 .rcases jH i N with q | q;exact K.plain z a b O hb az Y i q am
  .obtain rfl:i=N:=by omega
   exact aw z (h.plain z a b (hold O) hb az Y 0 ac (.inl V))
 .have a0:z<t.size:=by
   let⟨op,ag,U⟩:=touch_of O;rcases getElem?_append_cases ag with⟨ay,_⟩ | ⟨_,al⟩;exact ay;rw[(hu op al).1] at U;cases U
  rcases h.G8 z a (hold O) hb with a1 | ⟨k,Y,ap,a8,a9⟩
  .refine .inl λi hi am=>?_;rcases jH i N with q | q;exact(a1 i q am).app _
   .obtain rfl:i=N:=by omega
    exact aw z (a1 0 ac (.inl V))
  .exact .inr ⟨k,by omega,by rw[g?_old a0];exact ap,(counts_old a0).2 a8,a9⟩
 rcases K.over z g ap a6 a7 with q | q;exact .inl q;exact .inr ⟨q.1,by omega⟩;let⟨a,b,c⟩:=a4 k Y Z;rw[c];exact K.rel k a b
end
end Pal
namespace Pal
open Go Go.Conc
open Go.ConcN (upd upd_same upd_ne sumTo sumTo_upd sumTo_upd_out sumTo_congr le_sumTo sumTo_le)
def pH:LP->Nat
 | .len | .Mx | .Lm | .Ge | .Hs | .Lu | .Ls | .Lp | .IS=>1
 | _=>0
def pN:LP->Nat
 | .FP false=>1
 | _=>0
def pZ:LP->Nat
 | .FP true=>1
 | _=>0
def pV:LP->Nat
 | .GH | .Fi _=>1
 | _=>0
def pT:LP->Nat
 | .ER _ true _ | .Cz _ true _ _=>1
 | _=>0
def pQ:LP->Nat
 | .Jl _ | .CL _=>1
 | _=>0
def pD:LP->Nat
 | .EO _=>1
 | _=>0
def pX:LP->Nat
 | .Fz _ | .Ik=>1
 | _=>0
def oC(f:LP->Nat):Option LP->Nat
 | some p=>f p
 | none=>0
def LN(m:M4)(q h rn rs v t s d x:Nat):Prop:=
 h=m.l.toNat/\
 (m.s=false->rs=0/\d=0/\m.k.toNat=rn+q+v+t/\s=m.w+rn+q/\(m.l=false->m.k=false->1<=m.w->1<=x))/\
 (m.s=true->m.k=false/\rn=0/\t=0/\m.l.toNat+rs+q+v+d=1/\m.w=s+v+d/\1<=m.w)
def M9:LP->M4->Prop
 | .Cz sv aw it old,_=>(aw=true->old.k=true)/\(sv=true->aw=true)/\it<=4/\Dz old
 | .ER sv aw it,_=>(sv=true->aw=true)/\it<=4
 | .EO ex,m=>ex=false->2<=m.w
 | .Fz old,_=>old.l=false/\old.k=false/\old.s=false/\old.w≠0/\Dz old
 | _,_=>True
section
variable {F:Fam}{p:LP}{m m':M4}{q q' h rn rs v t s d x:Nat}{es:Array Event}{o:Option LP}
theorem hZ(ap:LN m q (pH p+h) (pN p+rn) (pZ p+rs) (pV p+v) (pT p+t) (pQ p+s) (pD p+d) (pX p+x))(K:M9 p m)(Y:Dz m)(aq:∀sv,p=.CL sv->q≠0):En p m q:=by
 obtain⟨l,k,st,w⟩:=m;obtain⟨Z,O,U⟩:=ap;cases p<;>simp only[En,M9] at K ⊢<;>(try exact Y)
 .exact⟨K.1,K.2,Y,λe=>by
   subst e
   simp only[pH,pN,pZ,pV,pT,pQ,pD,pX] at Z O U
   cases st
   .have:=(O V).2.2.1
    cases k;simp at this;omega;rfl
   .have:=(U V).2.2.1;omega⟩
 .exact⟨K.1,K.2.1,K.2.2.1,K.2.2.2,Y,λe=>by
   subst e
   simp only[pH,pN,pZ,pV,pT,pQ,pD,pX] at Z O U
   cases st
   .have:=(O V).2.2.1
    cases k;simp at this;omega;rfl
   .have:=(U V).2.2.1;omega⟩
 exact aq _ V;simp only[pH,pN,pZ,pV,pT,pQ,pD,pX] at Z O U;refine⟨λe=>?_,λe=>?_,Y⟩;subst e;let⟨a1,al,ag,ac,av,am⟩:=U V;cases l;exact⟨V,a1,by omega⟩;simp at ac;omega;subst e;let⟨a1,al,ag,ac⟩:=O V;cases k;simp at ag;omega;rfl;simp only[pH,pN,pZ,pV,pT,pQ,pD,pX] at Z O U;cases st;have:=(O V).2.1;omega;let⟨a1,al,ag,ac,av,am⟩:=U V;cases l;exact⟨V,V,a1,am,K,Y⟩;simp at ac;omega;simp only[pH,pN,pZ,pV,pT,pQ,pD,pX] at Z;cases l;simp at Z;exact⟨V,Y⟩;exact⟨K.1,K.2.1,K.2.2.1,K.2.2.2.1,K.2.2.2.2,Y⟩;refine⟨?_,Y⟩;have aw:k.toNat<=1:=uk k;cases st;have:=(O V).2.2.1;simp only at this;omega;have:=(U V).2.2.2.1;simp only at this;omega
set_option maxHeartbeats 1000000 in
theorem LN.step(K:(m',q',es,o)∈F.Ce p m q)(U:En p m q)(O:LN m q (pH p+h) (pN p+rn) (pZ p+rs) (pV p+v) (pT p+t) (pQ p+s) (pD p+d) (pX p+x)):
  LN m' q' (oC pH o+h) (oC pN o+rn) (oC pZ o+rs) (oC pV o+v) (oC pT o+t) (oC pQ o+s) (oC pD o+d) (oC pX o+x):=by
 obtain⟨l,k,st,w⟩:=m;cases p<;>simp only[Fam.Ce,bN,d9,rO] at K
 case GL=>obtain⟨rfl,rfl,-,rfl⟩:=K;exact O
 case H9=>
  split at K;rename_i e;simp only[M4.zero,M4.mk.injEq] at e;obtain⟨rfl,rfl,rfl,rfl⟩:=e;simp only[bN,d9] at K;obtain⟨rfl,rfl,-,rfl⟩:=K;simp[LN,pH,pN,pZ,pV,pT,pQ,pD,pX,oC] at O ⊢;omega;simp only[bN,d9] at K;obtain⟨rfl,rfl,-,rfl⟩:=K;exact O
 case ER sv aw it=>obtain⟨rfl,rfl,-,rfl⟩:=K;cases aw<;>exact O
 case Cz sv aw it old=>
  simp only[Fam.Gd,kO] at K;simp only[En] at U;obtain⟨k1,Y,Z,ac,am,-⟩:=U;rcases K with K | K;split at K;rename_i c;split at K;rename_i c2;simp only[bN] at K;obtain⟨rfl,c3,c4⟩:=c2;split at K;rename_i e;subst e;simp only[d9] at K;obtain⟨rfl,rfl,-,rfl⟩:=K;simp only at c c3 c4;obtain⟨rfl,rfl,-⟩:=c;subst c3;simp[LN,pH,pN,pZ,pV,pT,pQ,pD,pX,oC] at O ⊢;omega;simp only[d9] at K;obtain⟨rfl,rfl,-,rfl⟩:=K;exact O;simp only[bN,d9] at K;obtain⟨rfl,rfl,-,rfl⟩:=K;cases aw<;>exact O;simp at K
  .split at K
   .rename_i e;subst e;split at K;rename_i c;simp only[bN,d9] at K;obtain⟨rfl,rfl,-,rfl⟩:=K;simp only at c;obtain⟨rfl,rfl⟩:=c;cases aw<;>cases k<;>simp[LN,pH,pN,pZ,pV,pT,pQ,pD,pX,oC] at O k1 ⊢<;>omega
    .rename_i c;have key:∀o',(o'=some (LP.Jl sv)∨o'=some (LP.CL sv))->LN ⟨l,!aw&&k,st || (sv&&l),w+1⟩ q (oC pH o'+h) (oC pN o'+rn) (oC pZ o'+rs) (oC pV o'+v) (oC pT o'+t) (oC pQ o'+s) (oC pD o'+d) (oC pX o'+x):=by
      intro o' ap;have ag:oC pH o'=0/\oC pN o'=0/\oC pZ o'=0/\oC pV o'=0/\oC pT o'=0/\oC pQ o'=1/\oC pD o'=0/\oC pX o'=0:=by
       rcases ap with rfl | rfl<;>exact⟨rfl,rfl,rfl,rfl,rfl,rfl,rfl,rfl⟩
      obtain⟨ag,e2,aq,av,ay,az,a0,a1⟩:=ag;rw[ag,e2,aq,av,ay,az,a0,a1];cases l<;>cases st<;>cases k<;>cases aw<;>cases sv<;>simp[LN,pH,pN,pZ,pV,pT,pQ,pD,pX] at O k1 Y c ⊢<;>omega
     simp only[iC,rO,sX,d9] at K;rcases K with⟨rfl,rfl,-,rfl⟩ | ⟨rfl,rfl,-,rfl⟩;exact key _ (.inl V);exact key _ (.inr V)
   .simp only [bN,d9] at K;obtain⟨rfl,rfl,-,rfl⟩:=K;cases aw<;>exact O
 case Jl sv=>obtain⟨rfl,rfl,-,rfl⟩:=K;exact O
 case CL sv=>
  obtain⟨rfl,rfl,-,rfl⟩:=K;simp only[En] at U;cases st<;>cases k<;>cases l<;>cases sv<;>simp[LN,pH,pN,pZ,pV,pT,pQ,pD,pX,oC] at O ⊢<;>omega
 case GH=>
  simp only[iC,rO,sX,d9] at K;rcases K with⟨rfl,rfl,-,rfl⟩ | ⟨rfl,rfl,-,rfl⟩<;>exact O
 case Fi sv=>
  simp only[En] at U;split at K;rename_i c;simp only[bN,d9] at K;obtain⟨rfl,rfl,-,rfl⟩:=K;have c:st=true:=c;subst c;cases k<;>cases l<;>simp[LN,pH,pN,pZ,pV,pT,pQ,pD,pX,oC] at O ⊢<;>omega;rename_i c;simp only[bN,d9] at K;obtain⟨rfl,rfl,-,rfl⟩:=K;cases st;cases k<;>cases l<;>simp[LN,pH,pN,pZ,pV,pT,pQ,pD,pX,oC] at O ⊢<;>omega;exact absurd V c
 case EO ex=>
  obtain⟨rfl,rfl,-,rfl⟩:=K;simp only[En] at U;obtain⟨rfl,rfl,rfl,ac,am,-⟩:=U;cases ex<;>simp[LN,pH,pN,pZ,pV,pT,pQ,pD,pX,oC] at O am ⊢<;>omega
 case len=>obtain⟨rfl,rfl,-,rfl⟩:=K;exact O
 case Mx=>obtain⟨rfl,rfl,-,rfl⟩:=K;exact O
 case Lm=>obtain⟨rfl,rfl,-,rfl⟩:=K;exact O
 case Hs=>obtain⟨rfl,rfl,-,rfl⟩:=K;exact O
 case Lu=>obtain⟨rfl,rfl,-,rfl⟩:=K;exact O
 case Ls=>obtain⟨rfl,rfl,-,rfl⟩:=K;exact O
 case Lp=>obtain⟨rfl,rfl,-,rfl⟩:=K;exact O
 case IS=>
  obtain⟨rfl,rfl,-,rfl⟩:=K;simp only[En] at U;obtain⟨rfl,-⟩:=U;rcases sF w with rfl | hw;cases st<;>cases k<;>simp[LN,pH,pN,pZ,pV,pT,pQ,pD,pX,oC] at O ⊢<;>omega
  .have al:¬w=0:=by omega
   cases st<;>cases k<;>simp[LN,pH,pN,pZ,pV,pT,pQ,pD,pX,oC,al] at O ⊢<;>omega
 case Fz old=>
  simp only[En] at U;obtain⟨k1,Y,Z,ac,-⟩:=U;split at K;rename_i e;subst e;simp only at k1 Y Z ac;subst k1 Y Z;simp only[bN,d9] at K;obtain⟨rfl,rfl,-,rfl⟩:=K;simp[LN,pH,pN,pZ,pV,pT,pQ,pD,pX,oC] at O ⊢;omega;simp only[bN,d9] at K;obtain⟨rfl,rfl,-,rfl⟩:=K;exact O
 case Ik=>
  obtain⟨rfl,rfl,-,rfl⟩:=K;rcases sF w with rfl | hw;cases st<;>cases k<;>cases l<;>simp[LN,pH,pN,pZ,pV,pT,pQ,pD,pX,oC] at O ⊢<;>omega
  .have al:¬w=0:=by omega
   cases st<;>cases k<;>cases l<;>simp[LN,pH,pN,pZ,pV,pT,pQ,pD,pX,oC,al] at O ⊢<;>omega
 case FP b=>
  obtain⟨rfl,rfl,-,rfl⟩:=K;cases b<;>cases st<;>cases k<;>cases l<;>simp[LN,pH,pN,pZ,pV,pT,pQ,pD,pX,oC] at O ⊢<;>omega
 case FQ=>obtain⟨rfl,rfl,-,rfl⟩:=K;exact O
theorem LN.awake(O:LN m q (pH p+h) (pN p+rn) (pZ p+rs) (pV p+v) (pT p+t) (pQ p+s) (pD p+d) (pX p+x))(ag:pT p=1):m.k=true:=by
 obtain⟨l,k,st,w⟩:=m;obtain⟨al,U,Y⟩:=O;cases st;let⟨a1,Z,K,ac⟩:=U V;cases k;simp at K;omega;rfl;let⟨a1,Z,K,ac⟩:=Y V;omega
theorem LN.mh(K:(m',q',es,o)∈F.Ce p m q)(O:En p m q)(Z:M9 p m)(U:Dz m)(al:LN m q (pH p+h) (pN p+rn) (pZ p+rs) (pV p+v) (pT p+t) (pQ p+s) (pD p+d) (pX p+x)):∀ac,o=some ac->M9 ac m':=by
 have ag:=λam=>al.awake am;cases p<;>simp only[Fam.Ce,bN,d9,rO] at K
 case H9=>
  split at K<;>simp only[bN,d9] at K<;>obtain⟨rfl,rfl,-,rfl⟩:=K<;>rintro _ ⟨⟩<;>simp[M9]
 case ER sv aw it=>
  obtain⟨rfl,rfl,-,rfl⟩:=K;rintro _ ⟨⟩;exact⟨λe=>by subst e;exact ag rfl,Z.1,Z.2,U⟩
 case Cz sv aw it old=>
  simp only[Fam.Gd,kO] at K;simp only[En] at O;obtain⟨k1,Y,ap,aq,av,-⟩:=O;rcases K with K | K;split at K;rename_i c;split at K;simp only[bN] at K;split at K<;>simp only[d9] at K<;>obtain⟨rfl,rfl,-,rfl⟩:=K<;>rintro _ ⟨⟩;exact⟨λ_=>V,by omega⟩;exact⟨Y,by omega⟩;simp only[bN,d9] at K;obtain⟨rfl,rfl,-,rfl⟩:=K;rintro _ ⟨⟩;exact⟨λe=>by subst e;exact ag rfl,Y,by omega,U⟩;simp at K;split at K;split at K;simp only[bN,d9] at K;obtain⟨rfl,rfl,-,rfl⟩:=K;rintro _ ⟨⟩;trivial;simp only[iC,rO,sX,d9] at K;rcases K with⟨rfl,rfl,-,rfl⟩ | ⟨rfl,rfl,-,rfl⟩<;>rintro _ ⟨⟩<;>trivial;simp only[bN,d9] at K;obtain⟨rfl,rfl,-,rfl⟩:=K;rintro _ ⟨⟩;exact⟨Y,ap⟩
 case CL sv=>
  obtain⟨rfl,rfl,-,rfl⟩:=K;rintro _ h;cases sv<;>cases h<;>trivial
 case GH=>
  simp only[iC,rO,sX,d9] at K;rcases K with⟨rfl,rfl,-,rfl⟩ | ⟨rfl,rfl,-,rfl⟩<;>rintro _ ⟨⟩<;>trivial
 case Fi sv=>
  simp only[En] at O;split at K;rename_i c;simp only[bN,d9] at K;obtain⟨rfl,rfl,-,rfl⟩:=K;rintro _ ⟨⟩;intro e;have:=(O.1 c).2.2;simp at e;omega;rename_i c;simp only[bN,d9] at K;obtain⟨rfl,rfl,-,rfl⟩:=K;rintro _ ⟨⟩;exact⟨λ_=>O.2.1 (by simpa using c),λ_=>V,by omega,U⟩
 case IS=>
  obtain⟨rfl,rfl,-,rfl⟩:=K;rintro _ h;split at h;cases h;trivial;rename_i c;split at h;rename_i c2;cases h;exact⟨V,c2.1,by simpa using c,c2.2,U⟩;cases h;trivial
 case Fz old=>
  split at K<;>simp only[bN,d9] at K<;>obtain⟨rfl,rfl,-,rfl⟩:=K<;>rintro _ ⟨⟩<;>trivial
 case Ik=>
  obtain⟨rfl,rfl,-,rfl⟩:=K;rintro _ h;split at h;rename_i c;cases h;exact⟨c.1,c.2.1,c.2.2.1,c.2.2.2,U⟩;cases h;trivial
 all_goals
  obtain⟨rfl,rfl,-,rfl⟩:=K;rintro _ ⟨⟩
 all_goals trivial
theorem LN.keepW(K:(m',q',es,o)∈F.Ce p m q)(O:En p m q)(U:LN m q (pH p+h) (pN p+rn) (pZ p+rs) (pV p+v) (pT p+t) (pQ p+s) (pD p+d) (pX p+x))(hd:1<=d):m.w<=m'.w:=by
 obtain⟨l,k,st,w⟩:=m;obtain⟨al,Y,Z⟩:=U;have ac:st=true:=by
  cases st;have:=(Y V).2.1;omega;rfl
 subst ac;let⟨a1,am,ap,ag,aq,av⟩:=Z V;cases p<;>simp only[Fam.Ce,bN,d9,rO] at K
 case H9=>split at K<;>simp only[bN,d9] at K<;>obtain⟨rfl,rfl,-,rfl⟩:=K<;>simp_all [M4.zero]
 case Cz sv aw it old=>
  simp only[Fam.Gd,kO] at K;rcases K with K | K;split at K;split at K;simp only[bN] at K;split at K<;>simp only[d9] at K<;>obtain⟨rfl,rfl,-,rfl⟩:=K<;>exact rJ _;simp only[bN,d9] at K;obtain⟨rfl,rfl,-,rfl⟩:=K;exact rJ _;simp at K;split at K;split at K;simp only[bN,d9] at K;obtain⟨rfl,rfl,-,rfl⟩:=K;exact rJ _;simp only[iC,rO,sX,d9] at K;rcases K with⟨rfl,rfl,-,rfl⟩ | ⟨rfl,rfl,-,rfl⟩<;>simp;simp only[bN,d9] at K;obtain⟨rfl,rfl,-,rfl⟩:=K;exact rJ _
 case GH=>
  simp only[iC,rO,sX,d9] at K;rcases K with⟨rfl,rfl,-,rfl⟩ | ⟨rfl,rfl,-,rfl⟩<;>exact rJ _
 case Fi sv=>split at K<;>simp only[bN,d9] at K<;>obtain⟨rfl,rfl,-,rfl⟩:=K<;>exact rJ _
 case EO ex=>simp only[pD] at ag;omega
 case Fz old=>
  simp only[En] at O;split at K;rename_i e;subst e;exact absurd O.2.2.1 (by simp);simp only[bN,d9] at K;obtain⟨rfl,rfl,-,rfl⟩:=K;exact rJ _
 all_goals
  obtain⟨rfl,rfl,-,rfl⟩:=K;exact rJ _
end
def DL(f:LP->Nat):Nx->Nat
 | .ph (.lk _ p)=>f p
 | _=>0
def Q2:Nx->M4->Prop
 | .ph (.lk _ p),m=>M9 p m
 | _,_=>True
def Sg(f:LP->Nat)(N:Nat)(φ:Nat->Nx):Nat:=sumTo N λi=>DL f (φ i)
structure LI (N:Nat) (φ:Nat->Nx) (m:M4) (q:Nat):Prop where
 ln:LN m q (Sg pH N φ) (Sg pN N φ) (Sg pZ N φ) (Sg pV N φ) (Sg pT N φ) (Sg pQ N φ) (Sg pD N φ) (Sg pX N φ)
 loc:∀i,i<N->Q2 (φ i) m
section
variable {F:Fam}{N i k:Nat}{φ:Nat->Nx}{p:LP}{m m':M4}{q q':Nat}{es:Array Event}{o:Option LP}{y:Nx}
theorem Te(f:LP->Nat)(hi:i<N):Sg f N (upd φ i y)+DL f (φ i)=Sg f N φ+DL f y:=sumTo_upd φ y (DL f) hi
theorem Gn(f:LP->Nat)(hi:i<N)(K:φ i=.ph (.lk k p)):∃r,Sg f N φ=f p+r/\∀o,Sg f N (upd φ i (.ph (Fam.DJ k o)))=oC f o+r:=by
 have O:DL f (φ i)<=Sg f N φ:=le_sumTo (f:=λi=>DL f (φ i)) hi;have e:DL f (φ i)=f p:=by rw[K];rfl
 refine⟨Sg f N φ - f p,by omega,λo=>?_⟩;have U:=Te (φ:=φ) (y:=.ph (Fam.DJ k o)) f hi;have Y:DL f (.ph (Fam.DJ k o))=oC f o:=by cases o<;>rfl
 omega
theorem Po(f:LP->Nat)(hi:i<N)(K:DL f (φ i)=DL f y):Sg f N (upd φ i y)=Sg f N φ:=by
 have:=Te (φ:=φ) (y:=y) f hi;omega
theorem LI.other(h:LI N φ m q)(hi:i<N)(U:∀k p,φ i≠ .ph (.lk k p))(K:∀k p,y≠ .ph (.lk k p)):LI N (upd φ i y) m q:=by
 have z:∀(f:LP->Nat) x,(∀k p,x≠Nx.ph (.lk k p))->DL f x=0:=by
  intro f x Y;cases x with
  | gone d=>rfl
  | ph p=>cases p<;>first | rfl | exact absurd rfl (Y _ _)
 have e:∀f,Sg f N (upd φ i y)=Sg f N φ:=λf=>Po f hi (by rw[z f _ U,z f _ K]);refine⟨by simp only[e];exact h.ln,λa Z=>?_⟩;by_cases O:a=i
 .subst O;rw[upd_same];cases y with
  | gone d=>trivial
  | ph p=>cases p<;>first | trivial | exact absurd rfl (K _ _)
 .rw [upd_ne _ _ O];exact h.loc a Z
theorem LI.ok(h:LI N φ m q)(hi:i<N)(K:φ i=.ph (.lk k p))(Y:Dz m)(Z:∀sv,p=.CL sv->q≠0):En p m q:=by
 obtain⟨a,ac,-⟩:=Gn pH hi K;obtain⟨b,ag,-⟩:=Gn pN hi K;obtain⟨c,al,-⟩:=Gn pZ hi K;obtain⟨d,am,-⟩:=Gn pV hi K;obtain⟨e,ap,-⟩:=Gn pT hi K;obtain⟨f,aq,-⟩:=Gn pQ hi K;obtain⟨g,av,-⟩:=Gn pD hi K;obtain⟨j,aw,-⟩:=Gn pX hi K;have O:=h.ln;rw[ac,ag,al,am,ap,aq,av,aw] at O;have U:=h.loc i hi;rw[K] at U;exact hZ O U Y Z
theorem LI.step(h:LI N φ m q)(hi:i<N)(K:φ i=.ph (.lk k p))(aq:Dz m)(U:En p m q)(Y:(m',q',es,o)∈F.Ce p m q):LI N (upd φ i (.ph (Fam.DJ k o))) m' q':=by
 let⟨a,av,aw⟩:=Gn pH hi K;let⟨b,ay,az⟩:=Gn pN hi K;let⟨c,a0,a1⟩:=Gn pZ hi K;let⟨d,a2,a3⟩:=Gn pV hi K;let⟨e,a4,a5⟩:=Gn pT hi K;let⟨f,a6,a7⟩:=Gn pQ hi K;let⟨g,a8,a9⟩:=Gn pD hi K;let⟨j,bb,be⟩:=Gn pX hi K;have O:=h.ln;rw[av,ay,a0,a2,a4,a6,a8,bb] at O;have ag:=h.loc i hi;rw[K] at ag;refine⟨by rw[aw,az,a1,a3,a5,a7,a9,be];exact O.step Y U,λy al=>?_⟩;by_cases Z:y=i
 .subst Z;rw[upd_same];cases o with
  | none=>trivial
  | some bi=>exact O.mh Y U ag aq bi rfl
 .rw [upd_ne _ _ Z];have ac:=h.loc y al;cases am:φ y with
  | gone d=>trivial
  | ph p0=>
   cases p0 with
   | lk bn p0=>
    rw[am] at ac;cases p0<;>try exact ac
    rename_i ex;intro bo;have hd:1<=g:=by
     have bv:=Te (N:=N) (φ:=φ) (i:=i) (y:=.gone 0) pD hi;have ap:DL pD (upd φ i (.gone 0) y)<=Sg pD N (upd φ i (.gone 0)):=le_sumTo (f:=λa=>DL pD (upd φ i (.gone 0) a)) al;rw[upd_ne _ _ Z,am] at ap;have bw:DL pD (φ i)=pD p:=by rw[K];rfl
     have e2:DL pD (.gone 0)=0:=V;have bx:DL pD (.ph (.lk bn (.EO ex)))=1:=V;omega
    have:=O.keepW Y U hd;have ap:2<=m.w:=ac bo;omega
   | _=>trivial
end
def Is:LP->Nat
 | .len=>22 | .Mx=>21 | .Lm=>20 | .Ge=>19 | .Hs=>18 | .Lu=>17 | .Ls=>16 | .Lp=>15 | .IS=>14
 | .Fz _=>13 | .Ik=>13 | .FP _=>12 | .FQ=>11
 | _=>23
def kw:LP->Nat
 | .GL | .H9=>2
 | .ER _ aw _=>if aw then 1 else 2
 | .Cz _ aw _ _=>if aw then 1 else 2
 | .GH | .Fi _ | .EO _=>1
 | _=>0
def lc(m:M4):LP->Nat
 | .GL=>27 | .H9=>26 | .ER _ _ it=>2*(5 - it)+1
 | .Cz _ _ it old=>2*(5 - it)+if m=old then 0 else 2
 | .Jl _=>24 | .CL _=>23 | .GH=>22 | .Fi _=>21
 | .Fz old=>if m=old then 1 else 3
 | .Ik=>2
 | _=>0
def wO:Option LP->Nat
 | some p=>Is p
 | none=>9
def wt(n:Nat):Nx->Nat
 | .gone _=>0
 | .ph p=>match p with
  | .Ia _=>10 | .I1=>9 | .Hp=>8 | .Kb=>7 | .Il=>6 | .HE=>5 | .H5=>4 | .F0=>3
  | .DZ=>3*n+25 | .GK m=>3*m+20 | .Ih m=>3*m+19 | .JF=>14 | .IZ=>13 | .Gc=>12 | .H6=>11 | .GN=>10 | .Ju=>9 | .G3=>8 | .IJ=>7
  | .GZ j=>5*n+90+50*(n - j) | .Jv j=>5*n+89+50*(n - j) | .JE j=>5*n+88+50*(n - j) | .IQ j=>5*n+87+50*(n - j) | .HO j=>5*n+86+50*(n - j) | .Gu j=>5*n+85+50*(n - j)
  | .HG=>5*n+60 | .Gr _ _=>2
  | .lk _ p=>Is p
variable{K:Nx}
theorem j6{F:Fam}{p:Ph}{v w sm v' w' sm':Nat}{es:Array Event}(h:F.act p v w sm=some ((v',w',sm'),es,K)):wt F.n K<wt F.n (.ph p):=by
  cases p<;>simp only[Fam.act] at h<;>(try (cases h;done))
  case Il=>
    split at h;cases h;split<;>simp[wt];cases h
  case GK=>
    split at h;cases h;split<;>simp[wt]<;>omega;cases h
  case Ih=>
    split at h;split at h<;>cases h<;>simp[wt]<;>omega;cases h
  case Jv=>
    split at h;cases h;split<;>simp[wt];cases h
  all_goals first
    | (cases h;simp[wt];done)
    | (split at h
       .cases h;simp[wt]
       .cases h)
section
variable {F:Fam}{p:LP}{m m':M4}{q q':Nat}{es:Array Event}{o:Option LP}
theorem eU(K:(m',q',es,o)∈F.Ce p m q)(O:En p m q):wO o<Is p∨(wO o=Is p/\(oC kw o+q'<kw p+q∨(oC kw o+q'=kw p+q/\m'=m/\oC (lc m) o<lc m p))):=by
 cases p<;>simp only[Fam.Ce,bN,d9,rO] at K
 case H9=>
  split at K<;>simp only[bN,d9] at K<;>obtain⟨rfl,rfl,-,rfl⟩:=K;exact .inl (by simp[wO,Is]);exact .inr ⟨V,.inr ⟨V,V,by simp[oC,lc]⟩⟩
 case ER sv aw it=>
  obtain⟨rfl,rfl,-,rfl⟩:=K;exact .inr ⟨V,.inr ⟨V,V,by simp[oC,lc]⟩⟩
 case Cz sv aw it old=>
  simp only[Fam.Gd,kO] at K;simp only[En] at O;obtain⟨k1,U,Y,Z,ac,-⟩:=O;rcases K with K | K;split at K;rename_i c;split at K;rename_i c2;simp only[bN] at K;obtain⟨rfl,c3,c4⟩:=c2;split at K<;>simp only[d9] at K<;>obtain⟨rfl,rfl,-,rfl⟩:=K;exact .inr ⟨V,.inl (by simp[oC,kw])⟩;rename_i e;refine .inr ⟨V,.inr ⟨V,V,?_⟩⟩;simp only[oC,lc,d0 e];omega;simp only[bN,d9] at K;obtain⟨rfl,rfl,-,rfl⟩:=K;refine .inr ⟨V,.inr ⟨V,V,?_⟩⟩;simp only[oC,lc,sO];omega;simp at K;split at K;rename_i e;split at K;simp only[bN,d9] at K;obtain⟨rfl,rfl,-,rfl⟩:=K;exact .inl (by simp[wO,Is]);simp only[iC,rO,sX,d9] at K;rcases K with⟨rfl,rfl,-,rfl⟩ | ⟨rfl,rfl,-,rfl⟩<;>exact .inr ⟨rfl,.inl (by cases aw<;>simp[oC,kw])⟩;rename_i e;simp only[bN,d9] at K;obtain⟨rfl,rfl,-,rfl⟩:=K;refine .inr ⟨V,.inr ⟨V,V,?_⟩⟩;simp only[oC,lc,d0 e];omega
 case CL sv=>
  obtain⟨rfl,rfl,-,rfl⟩:=K;simp only[En] at O;cases sv;refine .inr ⟨V,.inr ⟨?_,V,by simp[oC,lc]⟩⟩;simp only[oC,kw,rY,sI];omega;refine .inr ⟨V,.inr ⟨?_,V,by simp[oC,lc]⟩⟩;simp only[oC,kw,sO];omega
 case GH=>
  simp only[iC,rO,sX,d9] at K;rcases K with⟨rfl,rfl,-,rfl⟩ | ⟨rfl,rfl,-,rfl⟩<;>exact .inr ⟨rfl,.inr ⟨rfl,rfl,by simp[oC,lc]⟩⟩
 case Fi sv=>
  split at K<;>simp only[bN,d9] at K<;>obtain⟨rfl,rfl,-,rfl⟩:=K<;>exact .inr ⟨rfl,.inr ⟨rfl,rfl,by simp[oC,lc]⟩⟩
 case IS=>
  obtain⟨rfl,rfl,-,rfl⟩:=K;refine .inl ?_;split;simp[wO,Is];split<;>simp[wO,Is]
 case Fz old=>
  split at K<;>simp only[bN,d9] at K<;>obtain⟨rfl,rfl,-,rfl⟩:=K;exact .inl (by simp[wO,Is]);rename_i e;refine .inr ⟨V,.inr ⟨V,V,?_⟩⟩;simp only[oC,lc,d0 e];omega
 case Ik=>
  obtain⟨rfl,rfl,-,rfl⟩:=K;split;exact .inr ⟨V,.inr ⟨V,V,by simp[oC,lc]⟩⟩;exact .inl (by simp[wO,Is])
 case Jl sv=>obtain⟨rfl,rfl,-,rfl⟩:=K;exact .inr ⟨V,.inr ⟨V,V,by simp[oC,lc]⟩⟩
 case GL=>obtain⟨rfl,rfl,-,rfl⟩:=K;exact .inr ⟨V,.inr ⟨V,V,by simp[oC,lc]⟩⟩
 all_goals
  obtain⟨rfl,rfl,-,rfl⟩:=K;exact .inl (by simp[wO,Is])
end
def Dn(N:Nat)(r' r:Nat->Rk):Prop:=∃i,i<N/\Rk.sub (r' i) (r i)/\∀j,j≠i->r' j=r j
theorem Dn.wf:∀N,WellFounded (Dn N)
 | 0=>⟨λ_=>⟨_,λ_ ⟨_,h,_⟩=>by omega⟩⟩
 | N+1=>⟨by
  have key:∀x:Rk,∀r:Nat->Rk,r N=x->Acc (Dn (N+1)) r:=by
   intro x
   induction x using Rk.wf.induction with
   | _ x Y=>
    intro r
    induction r using (Dn.wf N).induction with
    | _ r Z=>
     intro e
     refine⟨_,λr' ⟨i,hi,K,O⟩=>?_⟩
     by_cases U:i=N;subst U;exact Y (r' i) (by rw[← e];exact K) r' V;exact Z r' ⟨i,by omega,K,O⟩ (by rw[O N (sy U),e])
  exact λr=>key _ r V⟩
def chain:Nat->Rk
 | 0=>.leaf
 | n+1=>.node λ_=>chain n
theorem bC(n:Nat)(w:World):Rk.sub (chain n) (chain (n+1)):=⟨_,w,V,V⟩
structure Mu where
 a:Nat
 k:Nat
 l:Nat
 N:Nat
 r:Nat->Rk
 b:Nat
def Mu.lt(x y:Mu):Prop:=x.a<y.a∨(x.a=y.a/\(x.k<y.k∨(x.k=y.k/\(x.l<y.l∨(x.l=y.l/\x.N=y.N/\(Dn y.N x.r y.r∨(x.r=y.r/\x.b<y.b)))))))
theorem Mu.wf:WellFounded Mu.lt:=⟨by
 have key:∀(a k l N:Nat) (r:Nat->Rk) (b:Nat),Acc Mu.lt ⟨a,k,l,N,r,b⟩:=by
  intro a
  induction a using Nat.strongRecOn with
  | _ a ag=>
   intro k
   induction k using Nat.strongRecOn with
   | _ k al=>
    intro l
    induction l using Nat.strongRecOn with
    | _ l am=>
     intro N r
     induction r using (Dn.wf N).induction with
     | _ r ap=>
      intro b
      induction b using Nat.strongRecOn with
      | _ b aq=>
       refine⟨_,λ⟨av,k',l',N',r',b'⟩ h=>?_⟩
       rcases h with h | ⟨K,h | ⟨O,h | ⟨U,Y,h | ⟨Z,ac⟩⟩⟩⟩;exact ag av h k' l' N' r' b';simp only at K h;subst K;exact al k' h l' N' r' b';simp only at K O h;subst K O;exact am l' h N' r' b';simp only at K O U Y h;subst K O U Y;exact ap r' h b';simp only at K O U Y Z ac;subst K O U Y Z;exact aq b' ac
 exact λ⟨a,k,l,N,r,b⟩=>key a k l N r b⟩
def bit(b:Bool):Nat:=if b then 1 else 0
def mu(F:Fam)(N:Nat)(φ:Nat->Nx)(m:M4)(q:Nat)(r:Nat->Rk)(bt:Nat->Bool):Mu:=⟨sumTo N λi=>wt F.n (φ i),Sg kw N φ+q,Sg (lc m) N φ,N,r,sumTo N λi=>bit (bt i)⟩
section
variable {F:Fam}{N N' i k:Nat}{φ φ':Nat->Nx}{p:LP}{m m':M4}{q q':Nat}{es:Array Event}{o:Option LP}{r r':Nat->Rk}{b b':Nat->Bool}{x:Nx}{ρ:Rk}
theorem lY(h:(sumTo N' λi=>wt F.n (φ' i))<sumTo N λi=>wt F.n (φ i)):Mu.lt (mu F N' φ' m' q' r' b') (mu F N φ m q r b):=.inl h
theorem Xk(hi:i<N)(h:wt F.n x<wt F.n (φ i)):Mu.lt (mu F N (upd φ i x) m' q' r' b') (mu F N φ m q r b):=by
 have:=sumTo_upd φ x (wt F.n) hi;exact .inl (by show(sumTo N λa=>wt F.n (upd φ i x a))<sumTo N λa=>wt F.n (φ a);omega)
theorem Yh(hi:i<N)(K:∀f,DL f x=DL f (φ i))(hw:wt F.n x=wt F.n (φ i))(h:Rk.sub ρ (r i)):Mu.lt (mu F N (upd φ i x) m q (upd r i ρ) b') (mu F N φ m q r b):=by
 have:=sumTo_upd φ x (wt F.n) hi;refine .inr ⟨by show(sumTo N λa=>wt F.n (upd φ i x a))=sumTo N λa=>wt F.n (φ a);omega,.inr ⟨by show Sg kw N (upd φ i x)+q=_;rw[Po kw hi (K kw).symm];rfl,.inr ⟨Po (lc m) hi (K _).symm,V,.inl ⟨i,hi,?_,λa O=>upd_ne _ _ O⟩⟩⟩⟩;show Rk.sub (upd r i ρ i) _;rw[upd_same];exact h
theorem l9(hi:i<N)(K:φ i=.ph (.lk k p))(Y:(m',q',es,o)∈F.Ce p m q)(Z:En p m q):Mu.lt (mu F N (upd φ i (.ph (Fam.DJ k o))) m' q' r' b') (mu F N φ m q r b):=by
 have hw:=sumTo_upd φ (.ph (Fam.DJ k o)) (wt F.n) hi;have ac:wt F.n (φ i)=Is p:=by rw[K];rfl
 have e2:wt F.n (.ph (Fam.DJ k o))=wO o:=by cases o<;>rfl
 rw[ac,e2] at hw;let⟨a,O,U⟩:=Gn (k:=k) kw hi K;let⟨c,ag,al⟩:=Gn (k:=k) (lc m) hi K;rcases eU Y Z with h | ⟨ap,h | ⟨aq,am,av⟩⟩;exact .inl (by show(sumTo N λa=>wt F.n (upd φ i _ a))<sumTo N λa=>wt F.n (φ a);omega);exact .inr ⟨by show(sumTo N λa=>wt F.n (upd φ i _ a))=sumTo N λa=>wt F.n (φ a);omega,.inl (by show Sg kw N (upd φ i _)+q'<Sg kw N φ+q;rw[O,U];omega)⟩;subst am;exact .inr ⟨by show(sumTo N λa=>wt F.n (upd φ i _ a))=sumTo N λa=>wt F.n (φ a);omega,.inr ⟨by show Sg kw N (upd φ i _)+q'=Sg kw N φ+q;rw[O,U];omega,.inl (by show Sg (lc m') N (upd φ i _)<Sg (lc m') N φ;rw[ag,al];omega)⟩⟩
end
open Go.ConcN (RelBy fork_knows)
variable{e:Event}
section
variable {F:Fam}{N0 t0 N j:Nat}{φ:Nat->Nx}{S:Nat->St}{t u:Trace}{v wt sm v' wt' sm':Nat}
theorem Pj{α:Type}(f:Nat->α)(i:Nat):upd f i (f i)=f:=by
 funext a;unfold upd;split;rename_i e;rw[e];rfl
def Gf(F:Fam)(K:Prop)(e:Event):Prop:=
 (∀a,(MemAct.ofEvent e).touch?=some a->(∃b,Df a.loc=some b/\(b=F.wg∨b=F.mu))/\a.kind≠ .plain/\(a.kind=.said->K))/\e.loc≠ .mark (.release F.sA)
theorem Gf.toS{K:Prop}{i:Nat}(h:Gf F K e)(O:K->i=0):EvS F N0 j i e:=
 ⟨λa U=>let ⟨⟨b,Y,Z⟩,ac,ag⟩:=h.1 a U;⟨b,Y,.inl ⟨Z,ac,λq=>O (ag q)⟩⟩,h.2⟩
theorem Gf.keep{O:Prop}{i:Nat}(h:Gf F O e)(Y:O->i=0)(Z:F.fd≠F.wg)(ac:F.fd≠F.mu):(∀a b,(MemAct.ofEvent e).touch?=some a->Df a.loc=some b->(b=F.wg∨b=F.mu)->a.kind≠ .plain/\(a.kind=.said->i=0))/\
   (∀a,(MemAct.ofEvent e).touch?=some a->Df a.loc=some F.fd->∃k,k<j/\i=N0+k/\a.loc=.cell ⟨F.fd,k,none⟩/\a.kind=.plain)/\e.loc≠ .mark (.release F.sA):=
 ⟨λa b K _ _=>⟨(h.1 a K).2.1,λq=>Y ((h.1 a K).2.2 q)⟩,λa K hb=>by
  obtain⟨⟨b,U,ag⟩,-⟩:=h.1 a K
  rw[hb] at U
  obtain rfl:=f6 U
  rcases ag with e | e;exact absurd e Z
  .exact absurd e ac,h.2⟩
theorem Vb{m:Mark}(K:∀a,m≠ .read a)(O:∀a,m≠ .write a):(MemAct.ofEvent (Fam.CX m)).touch?=none:=by
 cases m<;>first | rfl | exact absurd rfl (K _) | exact absurd rfl (O _)
theorem jW(p:Ph){es:Array Event}{aq:Nx}(K:F.act p v wt sm=some ((v',wt',sm'),es,aq)):
  (∀e∈es,Gf F (p=.IZ∨∃j,p=.IQ j) e)/\deafBehind (Gv (.ph p)) es=Gv aq/\(∀e∈es,∀B,F.wg<B->(MemAct.ofEvent e).low B):=by
 have a0:∀b w,(MemAct.ofEvent ⟨.cell F.sA,w,b⟩).touch?=some ⟨.cell F.sA,w,if b then .atomic else .plain⟩:=by intro b w;cases b<;>cases w<;>rfl
 have ac:∀(a:Addr) w (T:Prop),a.block=F.wg->Gf F T ⟨.cell a,w,true⟩:=by
  intro a w T hb;refine⟨λx U=>?_,by simp⟩;have:x=⟨.cell a,w,.atomic⟩:=by cases w<;>(simp[MemAct.ofEvent,MemAct.touch?] at U;exact U.symm)
  subst this;exact⟨⟨F.wg,by simp[Df,hb],.inl V⟩,by simp,by simp⟩
 have ag:∀(a:Addr) w B,a.block=F.wg->F.wg<B->(MemAct.ofEvent ⟨.cell a,w,true⟩).low B:=by
  intro a w B hb O;cases w<;>simp[MemAct.ofEvent,MemAct.low,Loc.low,hb,O]
 have HL:∀(m:Mark) (T:Prop),(∀a,m≠ .read a)->(∀a,m≠ .write a)->(∀a,m≠ .release a)->Gf F T (Fam.CX m):=by
  intro m T aw ay az;exact⟨λx U=>(by rw[Vb aw ay] at U;cases U),λe=>az _ (Loc.mark.inj e)⟩
 have al:F.mA.block=F.wg:=V;have Z:F.sA.block=F.wg:=V;have FU:∀(T:Prop),∀e∈semEvents F.mA,Gf F T e:=by
  intro T e he;simp only[semEvents,tc,iC,rO,sX] at he;rcases he with rfl | rfl | rfl | rfl;exact HL .disable T (by simp) (by simp) (by simp);exact ac _ _ _ al;exact ac _ _ _ al;exact HL .enable T (by simp) (by simp) (by simp)
 have av:∀e∈semEvents F.mA,∀B,F.wg<B->(MemAct.ofEvent e).low B:=by
  intro e he B O;simp only[semEvents,tc,iC,rO,sX] at he;rcases he with rfl | rfl | rfl | rfl;trivial;exact ag _ _ _ al O;exact ag _ _ _ al O;trivial
 have am:∀(T:Prop),∀e∈(#[Fam.Cu F.sA,Fam.Fa F.sA]:Array Event),Gf F T e:=by
  intro T e he;simp only[tc,iC,rO,sX] at he;rcases he with rfl | rfl<;>exact ac _ _ _ Z
 have ap:∀e∈(#[Fam.Cu F.sA,Fam.Fa F.sA]:Array Event),∀B,F.wg<B->(MemAct.ofEvent e).low B:=by
  intro e he B O;simp only[tc,iC,rO,sX] at he;rcases he with rfl | rfl<;>exact ag _ _ _ Z O
 have one:∀{e:Event}{T:Prop},Gf F T e->∀x∈(#[e]:Array Event),Gf F T x:=by
  intro e T h x U;simp at U;subst U;exact h
 have Y:∀{e:Event},(∀B,F.wg<B->(MemAct.ofEvent e).low B)->∀x∈(#[e]:Array Event),∀B,F.wg<B->(MemAct.ofEvent x).low B:=by
  intro e h x U;simp at U;subst U;exact h
 cases p<;>simp only[Fam.act] at K<;>(try (cases K;done));cases K;exact⟨one (HL _ _ (by simp) (by simp) (by simp)),V,Y λB O=>O⟩;cases K;exact⟨one (HL _ _ (by simp) (by simp) (by simp)),V,Y λB O=>trivial⟩;split at K;cases K;exact⟨am _,by split<;>rfl,ap⟩;cases K;split at K;cases K;exact⟨one (ac _ _ _ Z),V,Y λB O=>ag _ _ _ Z O⟩;cases K;split at K;cases K;exact⟨one (ac _ _ _ Z),V,Y λB O=>ag _ _ _ Z O⟩;cases K;split at K;cases K;exact⟨FU _,V,av⟩;cases K;cases K;exact⟨one (HL _ _ (by simp) (by simp) (by simp)),V,Y λB O=>trivial⟩;split at K;cases K;exact⟨one (ac _ _ _ Z),by split<;>rfl,Y λB O=>ag _ _ _ Z O⟩;cases K;split at K;split at K;cases K;exact⟨am _,V,ap⟩;cases K;exact⟨one (ac _ _ _ Z),V,Y λB O=>ag _ _ _ Z O⟩;cases K;cases K;refine⟨one ⟨λx U=>?_,by simp[Fam.CX]⟩,V,Y λB O=>O⟩;simp[Fam.CX,MemAct.ofEvent,MemAct.touch?] at U;subst U;exact⟨⟨F.wg,V,.inl V⟩,by simp,λ_=>.inl V⟩;split at K;cases K;exact⟨FU _,V,av⟩;cases K;split at K;cases K;exact⟨one (ac _ _ _ Z),V,Y λB O=>ag _ _ _ Z O⟩;cases K;cases K;exact⟨one (HL _ _ (by simp) (by simp) (by simp)),V,Y λB O=>trivial⟩;cases K;exact⟨one (HL _ _ (by simp) (by simp) (by simp)),V,Y λB O=>trivial⟩;split at K;cases K;exact⟨am _,by split<;>rfl,ap⟩;cases K;cases K;refine⟨one ⟨λx U=>?_,by simp[Fam.CX]⟩,V,Y λB O=>O⟩;simp[Fam.CX,MemAct.ofEvent,MemAct.touch?] at U;subst U;exact⟨⟨F.wg,V,.inl V⟩,by simp,λ_=>.inr ⟨_,V⟩⟩;cases K;exact⟨one (HL _ _ (by simp) (by simp) (by simp)),V,Y λB O=>trivial⟩
 all_goals
  cases K;exact⟨by simp,V,by simp⟩
theorem dB(p:Ph){es:Array Event}{U:Nx}(K:F.act p v wt sm=some ((v',wt',sm'),es,U)){k:Nat}(hw:HC F k (.ph p))(O:late (.ph p)):
  ∀m e,es[m]?=some e->(MemAct.ofEvent e).touch?=none∨((∃ad wr,e=⟨.cell ad,wr,true⟩)/\0<deafBehind (Gv (.ph p)) (es.extract 0 m)):=by
 have two:∀m e,(#[Fam.Cu F.sA,Fam.Fa F.sA]:Array Event)[m]?=some e->(∃ad wr,e=⟨.cell ad,wr,true⟩)/\0<deafBehind 1 ((#[Fam.Cu F.sA,Fam.Fa F.sA]:Array Event).extract 0 m):=by
  intro m e h
  match m with
  | 0=>simp at h;subst h;exact⟨⟨_,_,rfl⟩,by simp[deafBehind]⟩
  | 1=>simp at h;subst h;exact⟨⟨_,_,rfl⟩,by simp[deafBehind,Fam.Cu]⟩
  | m+2=>simp at h
 cases p<;>simp only[HC] at hw<;>(try exact hw.elim)<;>simp only[late] at O<;>(try exact O.elim)<;>simp only[Fam.act] at K<;>(try (cases K;done))
 .cases K;intro m e h
  match m with
  | 0=>simp at h;subst h;exact .inl rfl
  | m+1=>simp at h
 .split at K;cases K;exact λm e h=>.inr (two m e h);cases K
 .split at K
  .cases K;intro m e h
   match m with
   | 0=>simp at h;subst h;exact .inr ⟨⟨_,_,rfl⟩,by simp[deafBehind,Gv]⟩
   | m+1=>simp at h
  .cases K
 .split at K
  .cases K;intro m e h
   match m with
   | 0=>simp at h;subst h;exact .inr ⟨⟨_,_,rfl⟩,by simp[deafBehind,Gv]⟩
   | m+1=>simp at h
  .cases K
 .split at K
  .cases K;intro m e h
   match m with
   | 0=>simp[semEvents] at h;subst h;exact .inl rfl
   | 1=>simp[semEvents] at h;subst h;exact .inr ⟨⟨_,_,rfl⟩,by simp[deafBehind,Gv,semEvents]⟩
   | 2=>simp[semEvents] at h;subst h;exact .inr ⟨⟨_,_,rfl⟩,by simp[deafBehind,Gv,semEvents]⟩
   | 3=>simp[semEvents] at h;subst h;exact .inl rfl
   | m+4=>simp[semEvents] at h
  .cases K
theorem gb{p:LP}{m m':M4}{q q':Nat}{es:Array Event}{o:Option LP}(K:(m',q',es,o)∈F.Ce p m q):
  (∀e∈es,Gf F False e)/\deafBehind (dl p) es=oC dl o/\(∀e∈es,∀B,F.mu<B->(MemAct.ofEvent e).low B):=by
 have ac:∀(a:Addr) w,a.block=F.mu->Gf F False ⟨.cell a,w,true⟩:=by
  intro a w hb;refine⟨λx Z=>?_,by simp⟩;have:x=⟨.cell a,w,.atomic⟩:=by cases w<;>(simp[MemAct.ofEvent,MemAct.touch?] at Z;exact Z.symm)
  subst this;exact⟨⟨F.mu,by simp[Df,hb],.inr V⟩,by simp,by simp⟩
 have ag:∀(a:Addr) w B,a.block=F.mu->F.mu<B->(MemAct.ofEvent ⟨.cell a,w,true⟩).low B:=by
  intro a w B hb O;cases w<;>simp[MemAct.ofEvent,MemAct.low,Loc.low,hb,O]
 have HL:∀(m:Mark),(∀a,m≠ .read a)->(∀a,m≠ .write a)->(∀a,m≠ .release a)->Gf F False (Fam.CX m):=by
  intro m al am ap;exact⟨λx Z=>(by rw[Vb al am] at Z;cases Z),λe=>ap _ (Loc.mark.inj e)⟩
 have nil:∀d,(∀e∈(#[]:Array Event),Gf F False e)/\deafBehind d #[]=d/\(∀e∈(#[]:Array Event),∀B,F.mu<B->(MemAct.ofEvent e).low B):=λd=>⟨by simp,rfl,by simp⟩;have rd:∀d,(∀e∈(#[Fam.Cu F.uA]:Array Event),Gf F False e)/\deafBehind d #[Fam.Cu F.uA]=d/\(∀e∈(#[Fam.Cu F.uA]:Array Event),∀B,F.mu<B->(MemAct.ofEvent e).low B):=λd=>
  ⟨λe he=>by simp at he;subst he;exact ac _ _ rfl,rfl,λe he B O=>by simp at he;subst he;exact ag _ _ _ rfl O⟩
 have U:∀d,(∀e∈(#[Fam.Cu F.uA,Fam.Fa F.uA]:Array Event),Gf F False e)/\deafBehind d #[Fam.Cu F.uA,Fam.Fa F.uA]=d/\(∀e∈(#[Fam.Cu F.uA,Fam.Fa F.uA]:Array Event),∀B,F.mu<B->(MemAct.ofEvent e).low B):=λd=>
  ⟨λe he=>by
   simp only[tc,iC,rO,sX] at he
   rcases he with rfl | rfl<;>exact ac _ _ rfl,rfl,λe he B O=>by
   simp only[tc,iC,rO,sX] at he
   rcases he with rfl | rfl<;>exact ag _ _ _ rfl O⟩
 have FU:(∀e∈semEvents F.qA,Gf F False e)/\deafBehind 1 (semEvents F.qA)=1/\(∀e∈semEvents F.qA,∀B,F.mu<B->(MemAct.ofEvent e).low B):=by
  refine⟨λe he=>?_,V,λe he B O=>?_⟩;simp only[semEvents,tc,iC,rO,sX] at he;rcases he with rfl | rfl | rfl | rfl;exact HL .disable (by simp) (by simp) (by simp);exact ac _ _ V;exact ac _ _ V;exact HL .enable (by simp) (by simp) (by simp);simp only[semEvents,tc,iC,rO,sX] at he;rcases he with rfl | rfl | rfl | rfl;trivial;exact ag _ _ _ V O;exact ag _ _ _ V O;trivial
 have Y:∀(m:Mark) (d d':Nat),(∀a,m≠ .read a)->(∀a,m≠ .write a)->(∀a,m≠ .release a)->deafBehind d #[Fam.CX m]=d'->(∀B,F.mu<B->(MemAct.ofEvent (Fam.CX m)).low B)->
   (∀e∈(#[Fam.CX m]:Array Event),Gf F False e)/\deafBehind d #[Fam.CX m]=d'/\(∀e∈(#[Fam.CX m]:Array Event),∀B,F.mu<B->(MemAct.ofEvent e).low B):=λm d d' al am ap aq av=>
  ⟨λe he=>by simp at he;subst he;exact HL m al am ap,aq,λe he B O=>by simp at he;subst he;exact av B O⟩
 cases p<;>simp only[Fam.Ce,bN,d9,rO] at K
 case GL=>obtain⟨rfl,rfl,rfl,rfl⟩:=K;exact Y .disable 0 1 (by simp) (by simp) (by simp) V λB O=>trivial
 case H9=>
  split at K<;>simp only[bN,d9] at K<;>obtain⟨rfl,rfl,rfl,rfl⟩:=K;exact U 1;exact rd 1
 case Cz sv aw it old=>
  simp only[Fam.Gd,kO] at K;rcases K with K | K;split at K;split at K;simp only[bN] at K;split at K<;>simp only[d9] at K<;>obtain⟨rfl,rfl,rfl,rfl⟩:=K;exact U 1;exact rd 1;simp only[bN,d9] at K;obtain⟨rfl,rfl,rfl,rfl⟩:=K;exact nil 1;simp at K;split at K;split at K;simp only[bN,d9] at K;obtain⟨rfl,rfl,rfl,rfl⟩:=K;exact U 1;simp only[iC,rO,sX,d9] at K;rcases K with⟨rfl,rfl,rfl,rfl⟩ | ⟨rfl,rfl,rfl,rfl⟩<;>exact U 1;simp only[bN,d9] at K;obtain⟨rfl,rfl,rfl,rfl⟩:=K;exact rd 1
 case CL sv=>obtain⟨rfl,rfl,rfl,rfl⟩:=K;cases sv<;>exact FU
 case GH=>
  simp only[iC,rO,sX,d9] at K;rcases K with⟨rfl,rfl,rfl,rfl⟩ | ⟨rfl,rfl,rfl,rfl⟩<;>exact nil 1
 case Fi sv=>split at K<;>simp only[bN,d9] at K<;>obtain⟨rfl,rfl,rfl,rfl⟩:=K<;>exact nil 1
 case IS=>
  obtain⟨rfl,rfl,rfl,rfl⟩:=K;split;exact U 1;split<;>exact U 1
 case Fz old=>
  split at K<;>simp only[bN,d9] at K<;>obtain⟨rfl,rfl,rfl,rfl⟩:=K;exact U 1;exact rd 1
 case Ik=>obtain⟨rfl,rfl,rfl,rfl⟩:=K;split<;>exact nil 1
 case FP b=>obtain⟨rfl,rfl,rfl,rfl⟩:=K;exact FU
 case len=>obtain⟨rfl,rfl,rfl,rfl⟩:=K;exact Y .enable 1 0 (by simp) (by simp) (by simp) V λB O=>trivial
 case FQ=>obtain⟨rfl,rfl,rfl,rfl⟩:=K;exact Y .enable 1 0 (by simp) (by simp) (by simp) V λB O=>trivial
 case Lp=>obtain⟨rfl,rfl,rfl,rfl⟩:=K;exact Y .disable 0 1 (by simp) (by simp) (by simp) V λB O=>trivial
 case Lm=>obtain⟨rfl,rfl,rfl,rfl⟩:=K;exact Y (.acquire F.uA) 0 0 (by simp) (by simp) (by simp) V λB O=>O
 case Ls=>obtain⟨rfl,rfl,rfl,rfl⟩:=K;exact Y (.releaseMerge F.uA) 0 0 (by simp) (by simp) (by simp) V λB O=>O
 all_goals
  obtain⟨rfl,rfl,rfl,rfl⟩:=K
 all_goals first | exact nil 0 | exact nil 1 | exact U 1
end
def CN(c:Bool)(N:Nat)(φ:Nat->Nx):Nat->Nx:=λi=>if c=true/\i=N then φ 0 else if c=true/\i=0 then .ph (.Gr [] []) else φ i
theorem Kx{N:Nat}{φ:Nat->Nx}:CN false N φ=φ:=by funext i;simp[CN]
theorem J2{c:Bool}{N:Nat}{φ:Nat->Nx}{i:Nat}(K:i≠0)(O:i≠N):CN c N φ i=φ i:=by simp[CN,K,O]
theorem Li{N:Nat}{φ:Nat->Nx}:CN true N φ N=φ 0:=by simp[CN]
theorem PD{c:Bool}{N:Nat}{φ:Nat->Nx}{i:Nat}{x:Nx}(K:i≠0)(O:i≠N):upd (CN c N φ) i x=CN c N (upd φ i x):=by
 funext a;unfold CN;by_cases e:a=i;subst e;rw[upd_same,d0 (by simp[O]),d0 (by simp[K]),upd_same];rw[upd_ne _ _ e];rw[upd_ne φ x (sy K),upd_ne _ _ e]
theorem dT{N:Nat}{φ:Nat->Nx}{x:Nx}(O:N≠0):upd (CN true N φ) N x=CN true N (upd φ 0 x):=by
 funext a;unfold CN;by_cases e:a=N;subst e;simp[upd_same];rw[upd_ne _ _ e];by_cases K:a=0;subst K;simp[e];rw[upd_ne φ x K];simp[e,K]
def IF:Nx->Bool
 | .gone _=>true
 | .ph p=>Fam.Dd p
def loc(x:Nx)(s:St):St:=if IF x=true then .quiet else s
def Hm:LP->Prop
 | .Hs | .Lu | .Ls | .Lp | .IS | .Fz _ | .Ik | .FP _ | .FQ=>True
 | _=>False
def stored:Nx->Prop
 | .gone _=>True
 | .ph (.lk _ p)=>Hm p
 | .ph .I1 | .ph .Hp | .ph .Kb | .ph .Il | .ph .HE | .ph .H5 | .ph .F0=>True
 | _=>False
def Tb(p:Ph):Prop:=p=.Gc∨∃k sv,p=.lk k (.CL sv)
inductive Hr (P:Program) (F:Fam) (main:Bool):Nx->Rk->Bool->Gs_
 | walk {p:Ph}{r:Rk}{g:Goroutine}{s:St}:main=Fam.CU p->(Fam.Dd p=true->s=.quiet)->Jr P main (JQ (Stop P F p)) r g s->Hr P F main (.ph p) r true g s
 | blk {p:Ph}{r:Rk}{g:Goroutine}{s:St}:Tb p->main=Fam.CU p->Stop P F p g s->Hr P F main (.ph p) r false {g with status:=.blocked} s
 | gone {q d:Nat}{g:Goroutine}:main=false->QuitsD P q d g->Hr P F main (.gone d) (chain q) true g .quiet
variable{g g':Goroutine}{Q:GP}
section
variable {P:Program}{F:Fam}{main:Bool}
theorem Jr.running{p:Ph}{r:Rk}{s:St}(h:Jr P main (JQ (Stop P F p)) r g s):g.status=.running:=by
 cases r with
 | leaf=>obtain⟨s₀,_,K⟩:=h;exact K.law.run
 | node f=>
  rcases h with⟨s₀,_,K⟩ | ⟨O,_⟩;exact K.law.run;exact O
theorem Jr.at_{r:Rk}{s:St}(h:Q g s):Jr P main Q r g s:=by
 cases r with
 | leaf=>exact h
 | node f=>exact .inl h
theorem Hr.awake{x:Nx}{r:Rk}{b:Bool}{s:St}(h:Hr P F main x r b g s):Go.Conc.awake g:=by
 cases h with
 | walk _ _ K=>exact awake_of (.inl K.running)
 | blk _ _ _=>exact awake_of (.inr (.inl rfl))
 | gone _ O=>exact awake_of (O.status.elim .inl λx=>.inr (.inr x))
theorem Y0(h:g.status=.running):{({g with status:=.blocked}:Goroutine) with status:=.running}=g:=by
 obtain⟨a,b,c,d,e⟩:=g;simp only at h;subst h;rfl
theorem Ue{p:Ph}(h:Tb p):Fam.Dd p=false:=by
 rcases h with rfl | ⟨k,sv,rfl⟩<;>rfl
theorem Hr.woken{x:Nx}{r:Rk}{b:Bool}{o:Goroutine}{s:St}(h:Hr P F main x r b o s){w':World}:
  ∃b',Hr P F main x r b' (Go.Conc.woken P g g' w' o) s/\(b=true->b'=true)/\(mayWake P g=true->g'.status=.running->b'=true):=by
 have am:∀(o:Goroutine),Go.Conc.woken P g g' w' o=o.again w'∨Go.Conc.woken P g g' w' o=o:=by
  intro o;unfold Go.Conc.woken;split;exact .inl V;exact .inr V
 cases h with
 | walk K ap Y=>exact⟨true,by rw[woken_run Y.running];exact .walk K ap Y,λ_=>rfl,λ_ _=>rfl⟩
 | @blk p _ go _ Z K O=>
  have ac:({go with status:=.blocked}:Goroutine).again w'=go:=by
   have:=O.law.offers;have aq:({go with status:=.blocked}:Goroutine).again w'={({go with status:=.blocked}:Goroutine) with status:=.running}:=by simp[Goroutine.again,this]
   rw[aq];exact Y0 O.law.run
  have ag:Hr P F main (.ph p) r true go s:=.walk K (λq=>by rw[Ue Z] at q;cases q) (Jr.at_ ⟨s,.refl _,O⟩);by_cases U:mayWake P g=true/\g'.status=.running
  .have e:Go.Conc.woken P g g' w' ({go with status:=.blocked}:Goroutine)=({go with status:=.blocked}:Goroutine).again w':=by
    unfold Go.Conc.woken;rw[d6 (by simp[U.1,U.2])]
   exact⟨true,by rw[e,ac];exact ag,λ_=>V,λ_ _=>V⟩
  .rcases am ({go with status:=.blocked}:Goroutine) with e | e;exact⟨true,by rw[e,ac];exact ag,λ_=>V,λa b=>absurd ⟨a,b⟩ U⟩;exact⟨false,by rw[e];exact .blk Z K O,λe=>e,λa b=>absurd ⟨a,b⟩ U⟩
 | gone K al=>exact⟨true,by rw[woken_quitsD al];exact .gone K al,λ_=>rfl,λ_ _=>rfl⟩
end
structure Base where
 N0:Nat
 t0:Nat
 E0:LH
 w0:World
structure Inv (P:Program) (F:Fam) (B:Base) (gs:Array Goroutine) (w:World) (t:Trace) (φ:Nat->Nx) (r:Nat->Rk) (bt:Nat->Bool) (S:Nat->St) (Sh:Nat->Prop) (j:Nat) (c:Bool) (v wt sm:Nat) (m:M4) (q:Nat) (f:Nat->Value):Prop where
 CW:CV F B.N0 (gs.size+c.toNat) j c (CN c gs.size φ) v wt sm false
 lock:LI gs.size φ m q
 Fx:FM F B.N0 B.t0 gs.size j φ S t
 Mt:∀i g,gs[i]?=some g->Hr P F (i==0) (φ i) (r i) (bt i) g (loc (φ i) (S i))
 Ct:Cd t w gs.size S Sh
 IY:Sh F.wg
 JH:Sh F.mu
 Kd:Sh F.fd
 OB:F.mu≠F.wg
 Lt:F.fd≠F.wg
 Lr:F.fd≠F.mu
 IX:F.n<134217728
 mn:φ 0≠ .ph .HG/\φ 0≠ .ph .IJ
 wg:F.WG w v wt sm
 KG:F.MU w m q
 G8:F.FD w f
 blk:∀i,i<gs.size->bt i=false->(i=0/\φ 0=.ph .Gc/\sm=0)∨((∃k sv,φ i=.ph (.lk k (.CL sv)))/\q=0)
 JJ:∀k,k<j->stored (φ (B.N0+k))->F.msg k (f k) (S (B.N0+k)).E
 le:Le B.E0 (S 0).E
 tape:w.tape=B.w0.tape
 os:G6 B.w0.os w.os
 output:w.output=B.w0.output
variable{s':St}
section
variable {P:Program}{F:Fam}{B:Base}{gs:Array Goroutine}{w w':World}{t:Trace}{φ:Nat->Nx}{r:Nat->Rk}{bt:Nat->Bool}{S:Nat->St}{Sh:Nat->Prop}{j:Nat}{c:Bool}{v wt' sm v₁ wt₁ sm₁:Nat}{m m₁:M4}{q q₁:Nat}{f f₁:Nat->Value}
theorem Inv.at_(h:Inv P F B gs w t φ r bt S Sh j c v wt' sm m q f)(d:Nat):Inv P F B gs (w.at d) t φ r bt S Sh j c v wt' sm m q f:=
 have K:Cd t (w.at d) gs.size S Sh:=by
  have:=h.Ct.mute (u:=#[]) (w':=w.at d) (g:=0) (by simp) (by simp) (by simp) rfl;simpa using this
 {h with Ct:=K}
theorem Inv.size(h:Inv P F B gs w t φ r bt S Sh j c v wt' sm m q f):gs.size=B.N0+j:=by have:=h.CW.size;omega
theorem Inv.Fq(h:Inv P F B gs w t φ r bt S Sh j c v wt' sm m q f){i:Nat}(hi:i<gs.size):i=0∨(i≠0/\∃d,φ i=.gone d/\i<B.N0)∨∃k,k<j/\i=B.N0+k/\i≠0/\HC F k (φ i):=by
 have Y:=h.size;have Z:=h.CW.pos;rcases sF i with K | K;exact .inl K
 rcases jH i B.N0 with O | O
 .have:=h.CW.old i K O;rw[J2 (by omega) (by omega)] at this;cases U:φ i with
  | gone d=>exact .inr (.inl ⟨by omega,d,rfl,O⟩)
  | ph p=>rw[U] at this;exact this.elim
 .have:=h.CW.work (i - B.N0) (by omega);rw[show B.N0+(i - B.N0)=i by omega,J2 (by omega) (by omega)] at this;exact .inr (.inr ⟨i - B.N0,by omega,by omega,by omega,this⟩)
theorem Inv.main(h:Inv P F B gs w t φ r bt S Sh j c v wt' sm m q f):∃p,φ 0=.ph p/\Fam.CU p=true/\((c=false/\II F.n j c p)∨(c=true/\KA (.ph p))):=by
 have Z:=h.size;cases K:c with
 | false=>
  have:=h.CW.main;rw[K,Kx] at this;obtain⟨p,Y,O⟩:=this;exact⟨p,Y,by cases p<;>simp[II] at O<;>rfl,.inl ⟨V,O⟩⟩
 | true=>
  have:=h.CW.cls K;have ac:=h.CW.cj K;rw[K,show B.N0+F.n=gs.size by omega,Li] at this;cases U:φ 0 with
  | gone d=>
   have:=h.CW.mode;rw[d6 K,K,show B.N0+F.n=gs.size by omega,Li,U] at this;simp[Em] at this
  | ph p=>rw[U] at this;exact⟨p,rfl,by cases p<;>simp[KA] at this<;>rfl,.inr ⟨rfl,this⟩⟩
theorem K7(a b:LP->Nat)(N:Nat)(φ:Nat->Nx):Sg (λp=>a p+b p) N φ=Sg a N φ+Sg b N φ:=by
 unfold Sg
 induction N with
 | zero=>rfl
 | succ N K=>
  simp only[sumTo,K];have:DL (λp=>a p+b p) (φ N)=DL a (φ N)+DL b (φ N):=by
   cases φ N with
   | gone d=>rfl
   | ph p=>cases p<;>rfl
  omega
theorem RG{a b:Nat->Nat}:∀{N M:Nat},N<=M->(∀i,i<N->a i<=b i)->sumTo N a<=sumTo M b
 | 0,_,_,_=>by simp[sumTo]
 | N+1,0,h,_=>by omega
 | N+1,M+1,h,K=>by
  rcases jH N M with q | q
  .have O:sumTo (N+1) a<=sumTo M b:=RG (by omega) K
   simp only[sumTo] at O ⊢;omega
  .obtain rfl:N=M:=by omega
   have O:sumTo N a<=sumTo N b:=RG (rJ _) λi hi=>K i (by omega);have U:=K N (by omega);simp only[sumTo];omega
theorem Inv.small(h:Inv P F B gs w t φ r bt S Sh j c v wt' sm m q f):Dz m:=by
 have Y:=h.size;have hb:Sg (λp=>(pQ p+pV p)+pD p) gs.size φ<=sumTo (gs.size+c.toNat) λi=>cU (CN c gs.size φ i):=by
  refine RG (by omega) λi hi=>?_;rcases sF i with rfl | Z;(obtain⟨p,O,hm,_⟩:=h.main;rw[O];cases p<;>first | (simp[DL];done) | (simp[Fam.CU] at hm))
  .rw [J2 (by omega) (by omega)];cases φ i with
   | gone d=>simp[DL]
   | ph p=>
    cases p<;>simp only[DL]<;>(try omega)
    rename_i k l;cases l<;>simp[pQ,pV,pD,cU]
 rw[K7,K7] at hb;have ac:=h.CW.cnt;have ag:=h.CW.TO;obtain⟨l1,l2,U⟩:=h.lock.ln;have al:=h.IX;show m.w<134217728;cases K:m.s with
 | false=>have:=(l2 K).2.2.2.1;omega
 | true=>have:=(U K).2.2.2.2.1;omega
theorem Inv.go(h:Inv P F B gs w t φ r bt S Sh j c v wt' sm m q f){i:Nat}{es:Array Event}{x:Nx}{ρ:Rk}(hi:gs[i]?=some g)
  (aq:CV F B.N0 (gs.size+c.toNat) j c (CN c gs.size (upd φ i x)) v₁ wt₁ sm₁ false) (av:LI gs.size (upd φ i x) m₁ q₁)
  (aw:FM F B.N0 B.t0 gs.size j (upd φ i x) (upd S i s') (t++MemOp.ofEvents i g.frame.fn g.frame.place es))
  (ay:Hr P F (i==0) x ρ true g' (loc x s'))
  (hC:Cd (t++MemOp.ofEvents i g.frame.fn g.frame.place es) w' gs.size (upd S i s') Sh)
  (az:F.WG w' v₁ wt₁ sm₁) (a0:F.MU w' m₁ q₁) (a1:F.FD w' f₁)
  (a2:sm₁≠0->sm=0->mayWake P g=true/\g'.status=.running) (a3:q₁≠0->q=0->mayWake P g=true/\g'.status=.running)
  (a4:∀k,k<j->stored (upd φ i x (B.N0+k))->F.msg k (f₁ k) (upd S i s' (B.N0+k)).E)
  (a5:i=0->x≠ .ph .HG/\x≠ .ph .IJ) (a6:i=0->Le (S 0).E s'.E) (a7:w'.tape=w.tape) (a8:G6 w.os w'.os) (a9:w'.output=w.output):
  ∃O,Inv P F B ((gs.map (woken P g g' w')).setIfInBounds i g') w' (t++MemOp.ofEvents i g.frame.fn g.frame.place es) (upd φ i x) (upd r i ρ) O (upd S i s') Sh j c v₁ wt₁ sm₁ m₁ q₁ f₁:=by
 have bb:i<gs.size:=(f8.1 hi).1;have U:((gs.map (woken P g g' w')).setIfInBounds i g').size=gs.size:=by simp
 have am:∀a,∃b',(a=i->b'=true)/\(a≠i->∀o,gs[a]?=some o->Hr P F (a==0) (φ a) (r a) b' (woken P g g' w' o) (loc (φ a) (S a))/\(bt a=true->b'=true)/\(mayWake P g=true->g'.status=.running->b'=true)):=by
  intro a;by_cases e:a=i;exact⟨true,λ_=>V,λq=>absurd e q⟩
  .cases K:gs[a]? with
   | none=>exact⟨true,λ_=>rfl,λ_ o q=>by cases q⟩
   | some o=>
    let⟨b',be,Y,Z⟩:=(h.Mt a o K).woken (g:=g) (g':=g') (w':=w');exact⟨b',λq=>absurd q e,λ_ o' q=>by cases q;exact⟨be,Y,Z⟩⟩
 let O:Nat->Bool:=λa=>Classical.choose (am a);have hb:∀a,(a=i->O a=true)/\(a≠i->∀o,gs[a]?=some o->Hr P F (a==0) (φ a) (r a) (O a) (woken P g g' w' o) (loc (φ a) (S a))/\(bt a=true->O a=true)/\(mayWake P g=true->g'.status=.running->O a=true)):=λa=>s6 (am a);refine⟨O,by rw[U];exact aq,by rw[U];exact av,by rw[U];exact aw,λa o K=>?_,by rw[U];exact hC,h.IY,h.JH,h.Kd,h.OB,h.Lt,h.Lr,h.IX,(by
  by_cases e:i=0;subst e;rw[upd_same];exact a5 V
  .rw [upd_ne _ _ (sy e)];exact h.mn),az,a0,a1,λa ag al=>?_,a4,λb o K=>?_,a7.trans h.tape,h.os.trans a8,a9.trans h.output⟩
 .by_cases e:a=i;subst e;rw[rR (by simpa using bb)] at K;obtain rfl:=f6 K;rw[upd_same,upd_same,upd_same,(hb a).1 rfl];exact ay;rw[mt (sy e),tH] at K;obtain⟨o',bi,rfl⟩:=sr.1 K;rw[upd_ne _ _ e,upd_ne _ _ e,upd_ne _ _ e];exact((hb a).2 e o' bi).1
 .rw [U] at ag;have e:a≠i:=λe=>by have:=(hb a).1 e;rw[al] at this;cases this
  let⟨_,k1,bn⟩:=(hb a).2 e _ (sf ag);have ap:¬(mayWake P g=true/\g'.status=.running):=λ⟨x,y⟩=>by have:=bn x y;rw[al] at this;cases this
  have bo:bt a=false:=by
   cases ac:bt a with
   | false=>rfl
   | true=>have:=k1 ac;rw[al] at this;cases this
  rcases h.blk a ag bo with⟨rfl,Y,Z⟩ | ⟨⟨k,sv,Y⟩,Z⟩;refine .inl ⟨V,by rw[upd_ne _ _ e];exact Y,?_⟩;exact vB.1 λac=>ap (a2 ac Z);refine .inr ⟨⟨k,sv,by rw[upd_ne _ _ e];exact Y⟩,?_⟩;exact vB.1 λac=>ap (a3 ac Z)
 .by_cases e:i=0;subst e;rw[upd_same];exact a6 V b o (h.le b o K);rw[upd_ne _ _ (sy e)];exact h.le b o K
end
def TI(P:Program)(F:Fam)(B:Base)(gs:Array Goroutine)(w:World)(t:Trace):Prop:=
 ∃q Sh g s,It P gs w t q Sh g s/\F.fin g s/\Le B.E0 s.E/\w.tape=B.w0.tape/\G6 B.w0.os w.os/\w.output=B.w0.output
def Jt(P:Program)(F:Fam)(B:Base)(gs:Array Goroutine)(w:World)(sl:Option (Nat×Nat))(t:Trace)(i:Nat)(K:Mu):Prop:=
 ∃gs' w' O u,runT P (crowd gs w sl) i=(.next (crowd gs' w' O),u)/\
  ((∃φ r bt S Sh j c v wt' sm m q f,Inv P F B gs' w' (t++u) φ r bt S Sh j c v wt' sm m q f/\Mu.lt (mu F gs'.size φ m q r bt) K)∨TI P F B gs' w' (t++u))
theorem LI.same{N:Nat}{φ:Nat->Nx}{m:M4}{q i:Nat}{y:Nx}(h:LI N φ m q)(hi:i<N)(O:∀f,DL f (φ i)=DL f y∨(f≠pH/\f≠pN/\f≠pZ/\f≠pV/\f≠pT/\f≠pQ/\f≠pD/\f≠pX))(U:Q2 y m):LI N (upd φ i y) m q:=by
 have e:∀f,(f=pH∨f=pN∨f=pZ∨f=pV∨f=pT∨f=pQ∨f=pD∨f=pX)->Sg f N (upd φ i y)=Sg f N φ:=λf Y=>Po f hi (by
  rcases O f with q | ⟨a,b,c,d,e,f,g,h⟩;exact q
  .rcases Y with q | q | q | q | q | q | q | q<;>contradiction)
 refine⟨by rw[e pH (by simp),e pN (by simp),e pZ (by simp),e pV (by simp),e pT (by simp),e pQ (by simp),e pD (by simp),e pX (by simp)];exact h.ln,λa Z=>?_⟩;by_cases K:a=i;subst K;rw[upd_same];exact U;rw[upd_ne _ _ K];exact h.loc a Z
section
variable {P:Program}{F:Fam}{B:Base}{gs:Array Goroutine}{w w':World}{sl:Option (Nat×Nat)}{t:Trace}{φ:Nat->Nx}{r:Nat->Rk}{bt:Nat->Bool}{S:Nat->St}{Sh:Nat->Prop}{j:Nat}{c:Bool}{v wt' sm v₁ wt₁ sm₁:Nat}{m m₁:M4}{q q₁:Nat}{f f₁:Nat->Value}
theorem Inv.go'(h:Inv P F B gs w t φ r bt S Sh j c v wt' sm m q f){i:Nat}{es:Array Event}{x:Nx}{ρ:Rk}(hi:gs[i]?=some g)(O:stepG P (i==0) g w=.go g' w' es)
  (U:CV F B.N0 (gs.size+c.toNat) j c (CN c gs.size (upd φ i x)) v₁ wt₁ sm₁ false) (Y:LI gs.size (upd φ i x) m₁ q₁)
  (Z:FM F B.N0 B.t0 gs.size j (upd φ i x) (upd S i s') (t++MemOp.ofEvents i g.frame.fn g.frame.place es))
  (ac:Hr P F (i==0) x ρ true g' (loc x s'))
  (hC:Cd (t++MemOp.ofEvents i g.frame.fn g.frame.place es) w' gs.size (upd S i s') Sh)
  (ag:F.WG w' v₁ wt₁ sm₁) (al:F.MU w' m₁ q₁) (am:F.FD w' f₁)
  (ap:sm₁≠0->sm=0->mayWake P g=true/\g'.status=.running) (aq:q₁≠0->q=0->mayWake P g=true/\g'.status=.running)
  (av:∀k,k<j->stored (upd φ i x (B.N0+k))->F.msg k (f₁ k) (upd S i s' (B.N0+k)).E)
  (aw:i=0->x≠ .ph .HG/\x≠ .ph .IJ) (ay:i=0->Le (S 0).E s'.E) (az:w'.tape=w.tape) (a0:G6 w.os w'.os) (a1:w'.output=w.output)
  (hm:∀K,Mu.lt (mu F gs.size (upd φ i x) m₁ q₁ (upd r i ρ) K) (mu F gs.size φ m q r bt)):Jt P F B gs w sl t i (mu F gs.size φ m q r bt):=by
 let⟨K,a2⟩:=h.go hi U Y Z ac hC ag al am ap aq av aw ay az a0 a1;refine⟨_,_,_,_,runT_crowd_go hi O,.inl ⟨_,_,_,_,_,_,_,_,_,_,_,_,_,a2,?_⟩⟩;have a3:((gs.map (woken P g g' w')).setIfInBounds i g').size=gs.size:=by simp
 rw[a3];exact hm K
theorem UF{k:Nat}{p:Ph}(hw:HC F k (.ph p))(K:late (.ph p)):Fam.Dd p=true:=by
 cases p<;>simp only[HC] at hw<;>(try exact hw.elim)<;>first | rfl | exact K.elim
theorem O0(a:Nat)(fn:FuncId)(pos:String):MemOp.ofEvents a fn pos #[]=#[]:=by rw[ofEvents_eq];simp
theorem Inv.own(h:Inv P F B gs w t φ r bt S Sh j c v wt' sm m q f)(bb:∀k v E E',Le E E'->F.msg k v E->F.msg k v E'){i:Nat}{es:Array Event}{p:Ph}{ρ:Rk}(hi:gs[i]?=some g)(K:φ i=.ph p)(a0:(i==0)=Fam.CU p)
  (a1:stepG P (i==0) g w=.go g' w' es) (a2:Jr P (i==0) (JQ (Stop P F p)) ρ g' s') (be:Fits s' w') (O:Fr (loc (.ph p) (S i)) w s' w') (Y:∀e∈es,Ev (loc (.ph p) (S i)) w w' e) (bi:loc (.ph p) (S i)=.quiet->s'=.quiet/\w'=w/\es=#[]) (bn:Rk.sub ρ (r i)):
  Jt P F B gs w sl t i (mu F gs.size φ m q r bt):=by
 have U:i<gs.size:=(f8.1 hi).1;have Z:upd φ i (.ph p)=φ:=by rw[← K];exact Pj _ _
 have a3:∀a4,Mu.lt (mu F gs.size (upd φ i (.ph p)) m q (upd r i ρ) a4) (mu F gs.size φ m q r bt):=λa4=>Yh U (λ_=>by rw[K]) (by rw[K]) bn;cases ac:Fam.Dd p with
 | true=>
  have ag:loc (.ph p) (S i)=.quiet:=by simp[loc,IF,ac]
  obtain⟨rfl,rfl,rfl⟩:=bi ag;have av:upd S i (S i)=S:=Pj _ _;refine h.go' hi a1 (x:=.ph p) (ρ:=ρ) (s':=S i) (by rw[Z];exact h.CW) (by rw[Z];exact h.lock) ?_ (by rw[ag];exact .walk a0 (λ_=>rfl) a2) ?_ h.wg h.KG h.G8 (λa b=>absurd b a) (λa b=>absurd b a) (by rw[Z,av];exact h.JJ) (λe=>by subst e;rw[← K];exact h.mn) (λe=>by subst e;exact .refl _) V (.refl _) V a3;rw[Z,av,O0];simpa using h.Fx;rw[av,O0];simpa using h.Ct
 | false=>
  have ag:loc (.ph p) (S i)=S i:=by simp[loc,IF,ac]
  rw[ag] at O Y;have bo:loc (.ph p) s'=s':=by simp[loc,IF,ac]
  have aw:∀b₀,Sh b₀->∀b wr,HA (S i) w w' b wr->b≠b₀:=by
   intro b₀ am b wr bv;have a5:=h.Ct.sh i U b₀ am;have b3:=h.Ct.G4 b₀ am;rintro rfl;rcases bv.2 with q | q | ⟨q,_⟩;exact q a5.1;omega;exact q a5.2
  have ay:∀b₀,Sh b₀->w'.heap[b₀]?=w.heap[b₀]? :=λb₀ am=>O.keep b₀ (h.Ct.G4 b₀ am) (h.Ct.sh i U b₀ am).1;have a6:∀k,k<j->i=B.N0+k->¬late (φ i):=by
   intro k al e a7;rcases h.Fq U with b4 | ⟨_,d,hd,_⟩ | ⟨k',_,_,_,hw⟩;have:=h.CW.pos;omega;rw[K] at hd;cases hd;rw[K] at hw a7;rw[UF hw a7] at ac;cases ac
  have bw:∀e∈es,e.loc≠ .mark .disable/\e.loc≠ .mark .enable:=by
   intro e he;have:=Y e he;refine⟨λaq=>?_,λaq=>?_⟩<;>unfold Ev at this<;>rw[aq] at this<;>exact this
  refine h.go' (f₁:=f) hi a1 (x:=.ph p) (ρ:=ρ) (s':=s') (by rw[Z];exact h.CW) (by rw[Z];exact h.lock) ?_ (by rw[bo];exact .walk a0 (λe=>by rw[ac] at e;cases e) a2) (h.Ct.own U be O Y) ?_ ?_ ?_ (λa b=>absurd b a) (λa b=>absurd b a) ?_ (λe=>by subst e;rw[← K];exact h.mn) (λe=>by subst e;exact λb o az=>O.ext b o az) O.tape (.of O.os) O.output a3
  .refine h.Fx.app U (by rw[K];exact deafBehind_still bw _) (λe he=>⟨λa b ap hb bx=>absurd bx ?_,λa ap hb=>absurd V (aw F.fd h.Kd F.fd a.write (MR (Y e he) ap hb)),?_⟩) ?_ (λk al bz e he a b ap hb hw=>?_) (λk al e ag=>absurd (K▸ag) (a6 k al e));have:=MR (Y e he) ap hb;rintro(q | q);exact aw F.wg h.IY b _ this q;exact aw F.mu h.JH b _ this q;intro aq;have:=Y e he;unfold Ev at this;rw[aq] at this;exact this;rcases h.Fq U with e | ⟨_,d,hd,_⟩ | ⟨k,_,e,_,_⟩;exact .inl (.inl e);rw[K] at hd;cases hd;exact .inl (.inr (by omega))
   .have b0:=MR (Y e he) ap hb;have b1:B.N0+k≠i:=λe=>a6 k al e.symm (e▸bz);have a8:B.N0+k<gs.size:=by have:=h.size;omega
    rcases b0.2 with y | y | ⟨_,y⟩;exact(h.Ct.hh i (B.N0+k) U a8 (sy b1) b y).2
    .cases b2:(S (B.N0+k)).E b with
     | none=>rfl
     | some o=>have:=(h.Ct.fits _ a8).e b o b2;simp[rZ y] at this
    .rw [y] at hw;cases hw
  show w'.heap[F.wg]?=_;rw[ay _ h.IY];exact h.wg;show w'.heap[F.mu]?=_;rw[ay _ h.JH];exact h.KG;show w'.heap[F.fd]?=_;rw[ay _ h.Kd];exact h.G8;intro k al a9;rw[Z] at a9;have:=h.JJ k al a9;by_cases e:B.N0+k=i;rw[e,upd_same];rw[e] at this;exact bb _ _ _ _ (λb o az=>O.ext b o az) this;rw[upd_ne _ _ e];exact this
theorem Inv.slip(h:Inv P F B gs w t φ r bt S Sh j c v wt' sm m q f){i:Nat}(hi:gs[i]?=some g)(Z:g.status=.running){d U:Nat}(O:φ i=.gone d)(az:r i=chain U)(ag:(i==0)=false)(ap:QuitsD P U d g):
  Jt P F B gs w sl t i (mu F gs.size φ m q r bt):=by
 have al:i<gs.size:=(f8.1 hi).1;have ac:i≠0:=by simpa using ag
 cases U with
 | zero=>rw[ap.1] at Z;cases Z
 | succ U=>
  rcases ap with⟨a0,_⟩ | ⟨_,g',es,hm,a1,a2⟩;rw[a0] at Z;cases Z
  have a3:∀op∈MemOp.ofEvents i g.frame.fn g.frame.place es,op.act.touch?=none:=λop Y=>by obtain⟨e,he,rfl⟩:=mem_ofEvents Y;exact touch_mute (hm e he)
  have a4:∀e∈es,e.loc≠ .mark (.release F.sA):=by
   intro e he aq;have:=hm e he;obtain⟨loc,wr,a7⟩:=e;simp only at aq;subst aq;simp[Event.mute] at this
  have av:upd S i (S i)=S:=Pj _ _;have aw:=h.CW.leave (i:=i) (d:=d) (d':=deafBehind d es) (by omega) (by rw[J2 ac (by omega)];exact O);rw[PD ac (by omega)] at aw;refine h.go' hi (by rw[ag];exact a1 w) (x:=.gone (deafBehind d es)) (ρ:=chain U) (s':=S i) aw (h.lock.other al (λk p e=>by rw[O] at e;cases e) (λk p e=>by cases e)) ?_ (.gone ag a2) ?_ h.wg h.KG h.G8 (λa b=>absurd b a) (λa b=>absurd b a) ?_ (λe=>absurd e ac) (λe=>absurd e ac) V (.refl _) V λa8=>Yh al (λ_=>by rw[O];rfl) (by rw[O];rfl) (by rw[az];exact bC U w);refine h.Fx.app al (by rw[O];rfl) (λe he=>⟨λa b K=>(by rw[touch_mute (hm e he)] at K;cases K),λa K=>(by rw[touch_mute (hm e he)] at K;cases K),a4 e he⟩) (.inr λe he=>touch_mute (hm e he)) (λk am a5 e he a b K=>(by rw[touch_mute (hm e he)] at K;cases K)) (λk am e a5=>.inl ⟨by rw[O];trivial,V,λρ a6=>?_⟩);exact a6.appOwn _ _ es λm e he=>.inl (touch_mute (hm e (Array.mem_of_getElem? he)));rw[av];exact h.Ct.mute (g:=i) (λop Y=>by obtain⟨e,_,rfl⟩:=mem_ofEvents Y;rfl) a3 (λop Y=>by obtain⟨e,he,rfl⟩:=mem_ofEvents Y;exact low_mute (hm e he) _) V;rw[av];intro k am ay;refine h.JJ k am ?_;by_cases e:B.N0+k=i;rw[e,O];trivial;rw[upd_ne _ _ e] at ay;exact ay
theorem j4{p:Ph}{es:Array Event}(O:F.act p v wt' sm=some ((v₁,wt₁,sm₁),es,K)):
  (∀q,K=.ph q->Fam.CU q=Fam.CU p/\(Fam.Dd q=true->p=.Hp∨Fam.Dd p=true)/\(Fam.Dd q=false->Fam.Dd p=false/\p≠ .Hp)/\∀k l,q≠ .lk k l)/\(sm₁≠0->sm=0->p=.F0)/\(∀d,K=.gone d->Fam.CU p=false/\Fam.Dd p=true)/\
  (∀k l,p≠ .lk k l)/\(Fam.CU p=false->stored K)/\(Fam.CU p=false->late K->late (.ph p)∨p=.Hp)/\(Fam.CU p=false->stored (.ph p))/\K≠ .ph .HG/\K≠ .ph .IJ:=by
 cases p<;>simp only[Fam.act] at O<;>(try (cases O;done))
 all_goals (try (split at O))<;>(try (cases O;done))<;>(try (split at O))
 all_goals cases O
 all_goals first
  | (simp[Fam.CU,Fam.Dd,stored,late];done)
  | (split<;>simp[Fam.CU,Fam.Dd,stored,late];done)
  | (simp[Fam.CU,Fam.Dd,stored,late];omega)
theorem CV.enabled{N0 N:Nat}{cl:Bool}(h:CV F N0 N j c φ v wt' sm cl){i:Nat}(hi:i<N){p:Ph}(K:φ i=.ph p)(az:∀k,p≠ .Ia k)(a0:∀k,p≠ .Gu k)(a1:p≠ .HG)(a2:∀a3 vs,p≠ .Gr a3 vs)(a4:p≠ .IJ)(a5:p=.Gc->sm=1)(a6:p≠ .G3)(a7:∀k l,p≠ .lk k l):
  ∃v' w' sm' es a8,F.act p v wt' sm=some ((v',w',sm'),es,a8):=by
 have hm:=h.mode;have bi:=h.TO;have bn:=h.IX;have O:=h.cnt;have ac:cU (φ i)<=sumTo N λa=>cU (φ a):=le_sumTo (f:=λa=>cU (φ a)) hi;have ag:cL (φ i)<=sumTo N λa=>cL (φ a):=le_sumTo (f:=λa=>cL (φ a)) hi;have aq:cS (φ i)<=sumTo N λa=>cS (φ a):=le_sumTo (f:=λa=>cS (φ a)) hi;rw[K] at ac ag aq;have a9:wt'<=1:=by
  generalize (if c=true then φ (N0+F.n) else Nx.ph .DZ)=y at hm
  cases y with
  | gone d=>simp only[Em] at hm;omega
  | ph q=>cases q<;>simp only[Em] at hm<;>(try exact hm.elim)<;>omega
 have al:1<=(sumTo N λa=>cL (φ a))+(sumTo N λa=>cS (φ a))->v=0/\sm=0/\wt'=sumTo N λa=>cL (φ a):=by
  intro hh;generalize (if c=true then φ (N0+F.n) else Nx.ph .DZ)=y at hm
  cases y with
  | gone d=>simp only[Em] at hm;omega
  | ph q=>cases q<;>simp only[Em] at hm<;>(try exact hm.elim)<;>omega
 have am:∀x,φ i=.ph x->KA (.ph x)->c=true/\(if c=true then φ (N0+F.n) else Nx.ph .DZ)=.ph x:=by
  intro x Y av;rcases h.Fq hi with rfl | ⟨a,b⟩ | ⟨k,ap,rfl⟩ | ⟨O,rfl⟩;obtain⟨q,U,Z⟩:=h.main;rw[Y] at U;cases U;cases x<;>simp[II] at Z<;>exact av.elim;have:=h.old i a b;rw[Y] at this;exact this.elim;have:=h.work k ap;rw[Y] at this;cases x<;>simp[HC] at this<;>exact av.elim;exact⟨O,by rw[d6 O];exact Y⟩
 cases p<;>simp only[Fam.act];exact absurd V (az _);exact⟨_,_,_,_,_,V⟩;exact⟨_,_,_,_,_,V⟩
 .simp only [cU] at ac;have:1<=v:=by
   have bo:1<=sumTo N λa=>cU (φ a):=ac;omega
  rw[d6 ⟨this,by omega,a9⟩];exact⟨_,_,_,_,_,V⟩
 have bb:1<=sumTo N λa=>cL (φ a):=ag;have:=al (by omega);rw[d6 ⟨this.1,by omega⟩];exact⟨_,_,_,_,_,V⟩;have bb:1<=sumTo N λa=>cL (φ a):=ag;have:=al (by omega);rw[d6 ⟨this.1,by omega⟩];exact⟨_,_,_,_,_,V⟩;have bv:1<=sumTo N λa=>cS (φ a):=aq;have:=al (by omega);rw[d6 this.2.1];exact⟨_,_,_,_,_,V⟩;exact⟨_,_,_,_,_,V⟩;let⟨aw,e⟩:=am _ K trivial;rw[e] at hm;rw[d6 ⟨hm.2.2.2.2.2,hm.2.2.2.1⟩];exact⟨_,_,_,_,_,V⟩;let⟨aw,e⟩:=am _ K trivial;rw[e] at hm;rw[d6 ⟨hm.2.2.2.2.2.1,hm.2.2.2.2.2.2,hm.2.2.2.1⟩];split<;>exact⟨_,_,_,_,_,rfl⟩;exact⟨_,_,_,_,_,V⟩;rw[d6 (a5 rfl)];exact⟨_,_,_,_,_,V⟩;let⟨aw,e⟩:=am _ K trivial;rw[e] at hm;rw[d6 ⟨hm.2.2.2.2.1,hm.2.2.2.1⟩];exact⟨_,_,_,_,_,V⟩;exact⟨_,_,_,_,_,V⟩;exact absurd V a6;exact absurd V a4;exact⟨_,_,_,_,_,V⟩
 .have be:c=false/\v<=j/\j<F.n:=by
   rcases h.Fq hi with rfl | ⟨a,b⟩ | ⟨k,ap,rfl⟩ | ⟨O,rfl⟩;obtain⟨q,U,Z⟩:=h.main;rw[K] at U;cases U;have ay:=h.Lq;rw[K] at ay;exact⟨Z.2.2,by simpa [pend] using ay,Z.2.1⟩;have:=h.old i a b;rw[K] at this;exact this.elim;have:=h.work k ap;rw[K] at this;exact this.elim;have:=h.cls O;rw[K] at this;exact this.elim
  rw[be.1] at hm;simp only[rY,sI,Em] at hm;rw[d6 ⟨by omega,hm.2.2.2.1⟩];exact⟨_,_,_,_,_,V⟩
 exact⟨_,_,_,_,_,V⟩;exact⟨_,_,_,_,_,V⟩;exact absurd V (a0 _);exact absurd V a1;exact absurd V (a2 _ _)
 all_goals first | exact⟨_,_,_,_,_,rfl⟩ | exact absurd rfl (a7 _ _)
end
variable{s₀:St}{l:LP}
section
variable {P:Program}{F:Fam}{B:Base}{gs:Array Goroutine}{w w':World}{sl:Option (Nat×Nat)}{t:Trace}{φ:Nat->Nx}{r:Nat->Rk}{bt:Nat->Bool}{S:Nat->St}{Sh:Nat->Prop}{j:Nat}{c:Bool}{v wt' sm v₁ wt₁ sm₁:Nat}{m m₁:M4}{q q₁:Nat}{f f₁:Nat->Value}
theorem dS(w:World)(v wt sm:Nat):(F.put w v wt sm).heap.size=w.heap.size:=by simp[Fam.put]
theorem S7(w:World)(v wt sm:Nat){b:Nat}(h:b≠F.wg):(F.put w v wt sm).heap[b]?=w.heap[b]? :=by simp[Fam.put,mt (sy h)]
theorem ic(w:World)(v wt sm:Nat)(h:F.wg<w.heap.size):F.WG (F.put w v wt sm) v wt sm:=by simp[Fam.WG,Fam.put,h]
theorem Z9(w:World)(m:M4)(q:Nat):(F.Gt w m q).heap.size=w.heap.size:=by simp[Fam.Gt]
theorem SC(w:World)(m:M4)(q:Nat){b:Nat}(h:b≠F.mu):(F.Gt w m q).heap[b]?=w.heap[b]? :=by simp[Fam.Gt,mt (sy h)]
theorem gn(w:World)(m:M4)(q:Nat)(h:F.mu<w.heap.size):F.MU (F.Gt w m q) m q:=by simp[Fam.MU,Fam.Gt,h]
theorem aa(w:World)(f:Nat->Value):(F.Ii w f).heap.size=w.heap.size:=by simp[Fam.Ii]
theorem SE(w:World)(f:Nat->Value){b:Nat}(h:b≠F.fd):(F.Ii w f).heap[b]?=w.heap[b]? :=by simp[Fam.Ii,mt (sy h)]
theorem dX(w:World)(f:Nat->Value)(h:F.fd<w.heap.size):F.FD (F.Ii w f) f:=by simp[Fam.FD,Fam.Ii,h]
theorem ig{p:Ph}{s:St}(h:p≠ .Hp):Fam.KJ p s=s:=by cases p<;>first | rfl | exact absurd rfl h
theorem Cd.heap{t:Trace}{w w':World}{N:Nat}{S:Nat->St}{Sh:Nat->Prop}(h:Cd t w N S Sh)(hw:w'.heap=w.heap):Cd t w' N S Sh:=by
 have:=h.mute (u:=#[]) (w':=w') (g:=0) (by simp) (by simp) (by simp) hw;simpa using this
theorem Inv.act(h:Inv P F B gs w t φ r bt S Sh j c v wt' sm m q f)(b1:∀k v E E',Le E E'->F.msg k v E->F.msg k v E'){i:Nat}(hi:gs[i]?=some g){p:Ph}(K:φ i=.ph p)(ac:(i==0)=Fam.CU p)(b2:Cx (loc (.ph p) (S i)) s₀)(aq:Stop P F p g s₀)
  {es:Array Event}{Z:Nx}(O:F.act p v wt' sm=some ((v₁,wt₁,sm₁),es,Z)):Jt P F B gs w sl t i (mu F gs.size φ m q r bt):=by
 have U:i<gs.size:=(f8.1 hi).1;let⟨g',b3,b4,a4⟩:=aq.law.act _ _ _ _ _ _ _ _ O;let⟨n1,n2,b5,b6,n5,ca,cc,ce⟩:=j4 O;let⟨am,e2,ci⟩:=jW p O;have a5:=h.Ct.G4 F.wg h.IY;have eb:=h.size;have ec:=h.CW.pos;have a6:i≠0->Fam.CU p=false:=λe=>by rw[← ac];simp[e]
 have a7:(p=.IZ∨∃j,p=.IQ j)->i=0:=by
  intro Y;have:Fam.CU p=true:=by rcases Y with rfl | ⟨j,rfl⟩<;>rfl
  rw[this] at ac;simpa using ac
 have a8:i=0∨B.N0<=i:=by
  rcases h.Fq U with e | ⟨_,d,hd,_⟩ | ⟨k,_,e,_,_⟩;exact .inl e;rw[K] at hd;cases hd;exact .inr (by omega)
 let s':St:=if Fam.Dd p=true then S i else s₀
 have av:Fam.Dd p=true->s'=S i:=λe=>by simp[s',e]
 have ag:Fam.Dd p=false->s'=s₀:=λe=>by simp[s',e]
 have a9:Fam.Dd p=false->Cx (S i) s₀:=λe=>by simpa [loc,IF,e] using b2
 have hle:Le (S i).E s'.E:=by
  cases e:Fam.Dd p with
  | true=>rw[av e];exact .refl _
  | false=>rw[ag e];exact λb o aw=>(a9 e).ext b o aw
 have bb:Cd t w gs.size (upd S i s') Sh:=by
  cases e:Fam.Dd p with
  | true=>rw[av e,Pj];exact h.Ct
  | false=>rw[ag e];exact h.Ct.ghost U (a9 e)
 have co:Cd (t++MemOp.ofEvents i g.frame.fn g.frame.place es) (F.put w v₁ wt₁ sm₁) gs.size (upd S i s') Sh:=by
  refine bb.ext (h.Fx.noRace h.Ct.clean U a8 λe he=>(am e he).toS a7) (λop ay a az b hb=>?_) (λop ay=>?_) (dS ..) (λb hb=>S7 _ _ _ _ λe=>hb (e▸h.IY));obtain⟨e,he,rfl⟩:=mem_ofEvents ay;let⟨⟨b',al,a0⟩,_⟩:=(am e he).1 a az;rw[hb] at al;cases al;rcases a0 with rfl | rfl;exact h.IY;exact h.JH;obtain⟨e,he,rfl⟩:=mem_ofEvents ay;exact ci e he _ a5
 have cp:stepG P (i==0) g w=.go g' (F.put w v₁ wt₁ sm₁) es:=by rw[ac];exact b3 w h.wg
 have ct:CV F B.N0 (gs.size+c.toNat) j c (CN c gs.size (upd φ i Z)) v₁ wt₁ sm₁ false:=by
  by_cases e:i=0
  .subst e;cases c with
   | false=>
    have:=h.CW.act (i:=0) (by omega) (by rw[Kx];exact K) O;rw[Kx] at this;rw[Kx];exact this
   | true=>
    have:=h.CW.act (i:=gs.size) (by simp) (by rw[Li];exact K) O
    rwa[dT (by omega)] at this
  .have:=h.CW.act (i:=i) (by omega) (by rw[J2 e (by omega)];exact K) O
   rwa[PD e (by omega)] at this
 have cw:FM F B.N0 B.t0 gs.size j (upd φ i Z) (upd S i s') (t++MemOp.ofEvents i g.frame.fn g.frame.place es):=by
  refine h.Fx.app U (by rw[K];exact e2) (λe he=>(am e he).keep a7 h.Lt h.Lr) (.inl a8) (λk ap be e he a b az hb hw=>?_) (λk ap e be=>?_)
  .let⟨⟨b',al,a0⟩,_⟩:=(am e he).1 a az;rw[hb] at al;cases al;have bi:B.N0+k<gs.size:=by omega
   rcases a0 with rfl | rfl;exact(h.Ct.sh _ bi _ h.IY).2;exact(h.Ct.sh _ bi _ h.JH).2
  .have bn:i≠0:=by omega
   have bo:HC F k (.ph p):=by
    rcases h.Fq U with cy | ⟨_,d,hd,_⟩ | ⟨k',_,ed,_,hw⟩;exact absurd cy bn;rw[K] at hd;cases hd
    .obtain rfl:k'=k:=by omega
     rwa[K] at hw
   rcases ca (a6 bn) be with a2 | rfl;refine .inl ⟨by rw[K];exact a2,by rw[av (UF bo a2)],λρ a3=>?_⟩;refine a3.appOwn _ _ es λm e he=>?_;rw[h.Fx.deaf _ U,K];exact dB p O bo a2 m e he
   .refine .inr ⟨t.size,h.Fx.Ot,?_,?_⟩;simp only[Fam.act] at O;cases O;exact .new (by rw[h.Fx.deaf _ U,K];rfl) _ _
    .simp only [Fam.act] at O;cases O;rw[ag rfl];intro b hb x a bv c0 hw;have c1:MemOp.ofEvents i g.frame.fn g.frame.place #[Fam.CX (.releaseMerge F.sA)]=#[{g:=i,fn:=g.frame.fn,pos:=g.frame.place,act:=.mark (.releaseMerge F.sA)}]:=by rw[ofEvents_eq];simp[Fam.CX,MemAct.ofEvent]
     rw[c1] at bv ⊢;let⟨op,aw,bw⟩:=touch_of bv;rcases getElem?_append_cases aw with⟨_,c2⟩ | ⟨_,bx⟩
     .have c3:=bb.kE i U b (by rw[upd_same,ag rfl];exact hb) x a (by rw[touchAt_of c2];exact bw) c0 hw;have c4:(t++ #[({g:=i,fn:=g.frame.fn,pos:=g.frame.place,act:=.mark (.releaseMerge F.sA)}:MemOp)])[t.size]?=some {g:=i,fn:=g.frame.fn,pos:=g.frame.place,act:=.mark (.releaseMerge F.sA)}:=by simp
      exact .inr (c3.hb_new (rJ _) c4 V)
     .simp at bx;subst bx;cases bw
 have c5:∀k,k<j->stored (upd φ i Z (B.N0+k))->F.msg k (f k) (upd S i s' (B.N0+k)).E:=by
  intro k ap bz;by_cases e:B.N0+k=i;rw[e,upd_same];have:=h.JJ k ap (by rw[e,K];exact cc (a6 (by omega)));rw[e] at this;exact b1 _ _ _ _ hle this;rw[upd_ne _ _ e] at bz ⊢;exact h.JJ k ap bz
 have c6:LI gs.size (upd φ i Z) m q:=h.lock.other U (λk l e=>b6 k l (by rw[K] at e;exact Nx.ph.inj e)) (λk l e=>by subst e;exact(n1 _ rfl).2.2.2 k l rfl);have c7:∀q,Z=.ph q->loc (.ph q) s'=Fam.KJ p s₀:=by
  intro q e;let⟨_,b0,c8,_⟩:=n1 q e;cases Y:Fam.Dd q with
  | true=>
   have:loc (.ph q) s'=.quiet:=by simp[loc,IF,Y]
   rw[this];rcases b0 Y with rfl | e;rfl;rw[aq.law.quiet e];cases p<;>rfl
  | false=>
   let⟨a1,c9⟩:=c8 Y;rw[ig c9,ag a1];simp[loc,IF,Y]
 have fin:∀(ρ:Rk),Hr P F (i==0) Z ρ true g' (loc Z s')->Jt P F B gs w sl t i (mu F gs.size φ m q r bt):=λρ dd=>
  h.go' (f₁:=f) hi cp ct c6 cw dd co (ic _ _ _ _ a5) (by show(F.put w v₁ wt₁ sm₁).heap[F.mu]?=_;rw[S7 _ _ _ _ h.OB];exact h.KG) (by show(F.put w v₁ wt₁ sm₁).heap[F.fd]?=_;rw[S7 _ _ _ _ h.Lt];exact h.G8)
   (λa b=>⟨aq.law.J8 (.inl (n2 a b)),b4⟩) (λa b=>absurd b a) c5 (λ_=>ce) (λe=>by subst e;exact hle) rfl (.refl _) rfl λee=>Xk U (by rw[K];exact j6 O)
 cases Z with
 | ph q=>
  obtain⟨ρ,a3⟩:=a4;refine fin ρ ?_;let⟨dj,b0,_,_⟩:=n1 q V;refine .walk (by rw[ac,dj]) (λY=>by simp[loc,IF,Y]) ?_;rw[c7 q rfl,ac];exact a3
 | gone d=>
  obtain⟨ea,Y⟩:=a4;exact fin (chain ea) (.gone (by rw[ac];exact(b5 d rfl).1) Y)
theorem jI{m m':M4}{q q':Nat}{es:Array Event}{o:Option LP}(K:(m',q',es,o)∈F.Ce l m q):q'<=q∨∃b,l=.FP b:=by
 cases l<;>simp only[Fam.Ce,bN,d9,rO] at K
 case FP b=>exact .inr ⟨b,rfl⟩
 case H9=>split at K<;>simp only[bN,d9] at K<;>exact .inl (by omega)
 case Cz sv aw it old=>
  simp only[Fam.Gd,kO] at K;left;rcases K with K | K;split at K;split at K;simp only[bN] at K;split at K<;>simp only[d9] at K<;>omega;simp only[bN,d9] at K;omega;simp at K;split at K;split at K;simp only[bN,d9] at K;omega;simp only[iC,rO,sX,d9] at K;rcases K with K | K<;>omega;simp only[bN,d9] at K;omega
 case GH=>
  simp only[iC,rO,sX,d9] at K;left;rcases K with K | K<;>omega
 case Fi sv=>split at K<;>simp only[bN,d9] at K<;>exact .inl (by omega)
 case Fz old=>split at K<;>simp only[bN,d9] at K<;>exact .inl (by omega)
 all_goals exact .inl (by omega)
theorem cM{m m':M4}{q q':Nat}{es:Array Event}{o:Option LP}(K:(m',q',es,o)∈F.Ce l m q):(∀p,o=some p->Hm p->Hm l)/\(o=none->Hm l):=by
 cases l<;>simp only[Fam.Ce,bN,d9,rO] at K
 case H9=>split at K<;>simp only[bN,d9] at K<;>obtain⟨-,-,-,rfl⟩:=K<;>simp[Hm]
 case Cz sv aw it old=>
  simp only[Fam.Gd,kO] at K;rcases K with K | K;split at K;split at K;simp only[bN] at K;split at K<;>simp only[d9] at K<;>obtain⟨-,-,-,rfl⟩:=K<;>simp[Hm];simp only[bN,d9] at K;obtain⟨-,-,-,rfl⟩:=K;simp[Hm];simp at K;split at K;split at K;simp only[bN,d9] at K;obtain⟨-,-,-,rfl⟩:=K;simp[Hm];simp only[iC,rO,sX,d9] at K;rcases K with⟨-,-,-,rfl⟩ | ⟨-,-,-,rfl⟩<;>simp[Hm];simp only[bN,d9] at K;obtain⟨-,-,-,rfl⟩:=K;simp[Hm]
 case GH=>
  simp only[iC,rO,sX,d9] at K;rcases K with⟨-,-,-,rfl⟩ | ⟨-,-,-,rfl⟩<;>simp[Hm]
 case CL sv=>obtain⟨-,-,-,rfl⟩:=K;cases sv<;>simp[Hm]
 case Fi sv=>split at K<;>simp only[bN,d9] at K<;>obtain⟨-,-,-,rfl⟩:=K<;>simp[Hm]
 all_goals first
  | (obtain⟨-,-,-,rfl⟩:=K;simp[Hm];done)
  | (exact⟨λ_ _ _=>trivial,λ_=>trivial⟩)
theorem Inv.Ce(h:Inv P F B gs w t φ r bt S Sh j c v wt' sm m q f)(be:∀k v E E',Le E E'->F.msg k v E->F.msg k v E'){i:Nat}(hi:gs[i]?=some g){k:Nat}(K:φ i=.ph (.lk k l))(bi:l≠ .Ge)(ag:(i==0)=false)(a1:Cx (S i) s₀)(a2:Stop P F (.lk k l) g s₀)
  (bn:∀sv,l=.CL sv->q≠0):Jt P F B gs w sl t i (mu F gs.size φ m q r bt):=by
 have O:i<gs.size:=(f8.1 hi).1;have aw:=h.lock.ok O K h.small bn;let⟨m',q',es,o,g',al,U,bo,Y,bv,bw⟩:=a2.law.lk k l V bi w m q h.KG aw;let⟨am,e2,bx⟩:=gb U;have a3:=h.Ct.G4 F.mu h.JH;have c0:=h.size;have c1:=h.CW.pos;have Z:i≠0:=by simpa using ag
 obtain⟨k',bz,a4,_,a5⟩:∃k',k'<j/\i=B.N0+k'/\i≠0/\HC F k' (φ i):=by
  rcases h.Fq O with e | ⟨_,d,hd,_⟩ | e;exact absurd e Z;rw[K] at hd;cases hd;exact e
 rw[K] at a5;obtain rfl:k=k':=a5;have b0:Cd t w gs.size (upd S i s₀) Sh:=h.Ct.ghost O a1;have b1:Cd (t++MemOp.ofEvents i g.frame.fn g.frame.place es) al gs.size (upd S i s₀) Sh:=by
  have:Cd (t++MemOp.ofEvents i g.frame.fn g.frame.place es) (F.Gt w m' q') gs.size (upd S i s₀) Sh:=by
   refine b0.ext (h.Fx.noRace h.Ct.clean O (.inr (by omega)) λe he=>(am e he).toS (λx=>x.elim)) (λop ay a az b hb=>?_) (λop ay=>?_) (Z9 ..) (λb hb=>SC _ _ _ λe=>hb (e▸h.JH));obtain⟨e,he,rfl⟩:=mem_ofEvents ay;let⟨⟨b',ac,a0⟩,_⟩:=(am e he).1 a az;rw[hb] at ac;cases ac;rcases a0 with rfl | rfl;exact h.IY;exact h.JH;obtain⟨e,he,rfl⟩:=mem_ofEvents ay;exact bx e he _ a3
  exact this.heap Y.1
 have b2:cU (.ph (Fam.DJ k o))=1/\cL (.ph (Fam.DJ k o))=0/\cS (.ph (Fam.DJ k o))=0/\HC F k (.ph (Fam.DJ k o))/\(∀a,Nx.ph (Fam.DJ k o)≠ .ph (.Ia a))/\Fam.CU (Fam.DJ k o)=false/\Fam.Dd (Fam.DJ k o)=false/\¬late (.ph (Fam.DJ k o)):=by
  cases o with
  | none=>exact⟨rfl,rfl,rfl,trivial,by simp[Fam.DJ],rfl,rfl,λx=>x⟩
  | some p=>exact⟨rfl,rfl,rfl,rfl,by simp[Fam.DJ],rfl,rfl,λx=>x⟩
 obtain⟨x1,x2,b3,b4,b5,b6,a6,ca⟩:=b2;have cc:CV F B.N0 (gs.size+c.toNat) j c (CN c gs.size (upd φ i (.ph (Fam.DJ k o)))) v wt' sm false:=by
  have ap:CN c gs.size φ (B.N0+k)=.ph (.lk k l):=by rw[← a4,J2 Z (by omega)];exact K
  have:=h.CW.JC (v':=v) (wt':=wt') (sm':=sm) (cl':=false) bz (x:=.ph (Fam.DJ k o)) b4 (λa=>by rw[ap];simp) b5 (by rw[ap,x1];rfl) λL S' a7 a8=>by
   rw[ap,x2] at a7;rw[ap,b3] at a8;have ce:L=_:=a7;have ci:S'=_:=a8;rw[ce,ci];exact h.CW.mode
  rwa[← a4,PD Z (by omega)] at this
 have co:FM F B.N0 B.t0 gs.size j (upd φ i (.ph (Fam.DJ k o))) (upd S i s₀) (t++MemOp.ofEvents i g.frame.fn g.frame.place es):=by
  refine h.Fx.app O (by rw[K];rw[show Gv (.ph (.lk k l))=dl l from rfl,e2];cases o<;>rfl) (λe he=>(am e he).keep (λx=>x.elim) h.Lt h.Lr) (.inl (.inr (by omega))) (λk' aq a9 e he a b az hb hw=>?_) (λk' aq e a9=>absurd a9 ca);let⟨⟨b',ac,a0⟩,_⟩:=(am e he).1 a az;rw[hb] at ac;cases ac;have bb:B.N0+k'<gs.size:=by omega
  rcases a0 with rfl | rfl;exact(h.Ct.sh _ bb _ h.IY).2;exact(h.Ct.sh _ bb _ h.JH).2
 obtain⟨ρ,cp⟩:=bw;have ct:loc (.ph (Fam.DJ k o)) s₀=s₀:=by simp[loc,IF,a6]
 refine h.go' (f₁:=f) hi (by rw[ag];exact bo) cc (h.lock.step O K h.small aw U) co (ρ:=ρ) (by rw[ct];exact .walk (by rw[ag,b6]) (λe=>by rw[a6] at e;cases e) (by rw[ag];exact cp)) b1 ?_ ?_ ?_ (λa b=>absurd b a) (λa b=>?_) (λk' aq av=>?_) (λe=>absurd e Z) (λe=>absurd e Z) (Y.2.1) Y.2.2.1 Y.2.2.2 λc2=>l9 O K U aw;show al.heap[F.wg]?=_;rw[Y.1,SC _ _ _ (sy h.OB)];exact h.wg;show al.heap[F.mu]?=_;rw[Y.1];exact gn _ _ _ a3;show al.heap[F.fd]?=_;rw[Y.1,SC _ _ _ h.Lr];exact h.G8;rcases jI U with e | ⟨cw,rfl⟩;omega;exact⟨a2.law.J8 (.inr ⟨k,cw,V⟩),bv⟩
 .by_cases e:B.N0+k'=i
  .rw [e,upd_same] at av ⊢;obtain rfl:k'=k:=by omega
   have cy:Hm l:=by
    let⟨a,b⟩:=cM U;cases o with
    | none=>exact b rfl
    | some p=>exact a p rfl av
   have:=h.JJ k' aq (by rw[e,K];exact cy);rw[e] at this;exact be _ _ _ _ (λb o U=>a1.ext b o U) this
  .rw [upd_ne _ _ e] at av ⊢;exact h.JJ k' aq av
end
section
variable {P:Program}{F:Fam}{B:Base}{gs gs':Array Goroutine}{w w':World}{sl:Option (Nat×Nat)}{t:Trace}{φ:Nat->Nx}{r:Nat->Rk}{bt:Nat->Bool}{S:Nat->St}{Sh:Nat->Prop}{j:Nat}{c:Bool}{v wt' sm v₁ wt₁ sm₁:Nat}{m m₁:M4}{q q₁:Nat}{f f₁:Nat->Value}
theorem Inv.store(h:Inv P F B gs w t φ r bt S Sh j c v wt' sm m q f){i:Nat}(hi:gs[i]?=some g){k:Nat}(O:φ i=.ph (.lk k .Ge))(ag:(i==0)=false)(a4:Cx (S i) s₀)(a5:Stop P F (.lk k .Ge) g s₀):
  Jt P F B gs w sl t i (mu F gs.size φ m q r bt):=by
 have U:i<gs.size:=(f8.1 hi).1;let⟨v0,a6,g',b1,a7,a8⟩:=a5.law.store k V;have aw:=h.Ct.G4 F.fd h.Kd;have b2:=h.size;have b3:=h.CW.pos;have Y:i≠0:=by simpa using ag
 obtain⟨k',al,Z,_,ay⟩:∃k',k'<j/\i=B.N0+k'/\i≠0/\HC F k' (φ i):=by
  rcases h.Fq U with e | ⟨_,d,hd,_⟩ | e;exact absurd e Y;rw[O] at hd;cases hd;exact e
 rw[O] at ay;obtain rfl:k=k':=ay;have ac:∀e∈(#[⟨.cell ⟨F.fd,k,none⟩,true,false⟩]:Array Event),∀a,(MemAct.ofEvent e).touch?=some a->a=⟨.cell ⟨F.fd,k,none⟩,true,.plain⟩:=by
  intro e he a K;simp at he;subst he;simp[MemAct.ofEvent,MemAct.touch?] at K;exact K.symm
 have az:∀e∈(#[⟨.cell ⟨F.fd,k,none⟩,true,false⟩]:Array Event),e.loc≠ .mark (.release F.sA):=by
  intro e he;simp at he;subst he;simp
 have a9:∀e∈(#[⟨.cell ⟨F.fd,k,none⟩,true,false⟩]:Array Event),EvS F B.N0 j i e:=λe he=>
  ⟨λa K=>by have:=ac e he a K;subst this;exact⟨F.fd,rfl,.inr ⟨rfl,k,al,Z,rfl,rfl⟩⟩,az e he⟩
 have bb:Cd t w gs.size (upd S i s₀) Sh:=h.Ct.ghost U a4;have be:Cd (t++MemOp.ofEvents i g.frame.fn g.frame.place #[⟨.cell ⟨F.fd,k,none⟩,true,false⟩]) (F.Ii w (upd f k v0)) gs.size (upd S i s₀) Sh:=by
  refine bb.ext (h.Fx.noRace h.Ct.clean U (.inr (by omega)) a9) (λop am a bi b hb=>?_) (λop am=>?_) (aa ..) (λb hb=>SE _ _ λe=>hb (e▸h.Kd))
  .obtain⟨e,he,rfl⟩:=mem_ofEvents am;have:=ac e he a bi;subst this;have:b=F.fd:=by simpa [Df] using hb.symm
   subst this;exact h.Kd
  .obtain⟨e,he,rfl⟩:=mem_ofEvents am;simp at he;subst he;simp[MemAct.ofEvent,MemAct.low,Loc.low,aw]
 have bn:CV F B.N0 (gs.size+c.toNat) j c (CN c gs.size (upd φ i (.ph (.lk k .Hs)))) v wt' sm false:=by
  have ap:CN c gs.size φ (B.N0+k)=.ph (.lk k .Ge):=by rw[← Z,J2 Y (by omega)];exact O
  have:=h.CW.JC (v':=v) (wt':=wt') (sm':=sm) (cl':=false) al (x:=.ph (.lk k .Hs)) rfl (λa=>by rw[ap];simp) (by simp) (by rw[ap];rfl) λL S' a0 a1=>by
   rw[ap] at a0 a1;have bo:L=_:=a0;have bv:S'=_:=a1;rw[bo,bv];exact h.CW.mode
  rwa[← Z,PD Y (by omega)] at this
 have bw:FM F B.N0 B.t0 gs.size j (upd φ i (.ph (.lk k .Hs))) (upd S i s₀) (t++MemOp.ofEvents i g.frame.fn g.frame.place #[⟨.cell ⟨F.fd,k,none⟩,true,false⟩]):=by
  refine h.Fx.app U (by rw[O];rfl) (λe he=>⟨λa b K hb bx=>?_,λa K hb=>?_,az e he⟩) (.inl (.inr (by omega))) (λk' aq a2 e he a b K hb hw=>?_) (λk' aq e a2=>a2.elim)
  .have:=ac e he a K;subst this;have av:b=F.fd:=by simpa [Df] using hb.symm
   subst av;rcases bx with e | e;exact absurd e h.Lt;exact absurd e h.Lr
  .have:=ac e he a K;subst this;exact⟨k,al,Z,V,V⟩
  .have:=ac e he a K;subst this;have av:b=F.fd:=by simpa [Df] using hb.symm
   subst av;exact(h.Ct.sh (B.N0+k') (by omega) _ h.Kd).2
 obtain⟨ρ,bz⟩:=a8;have b0:LI gs.size (upd φ i (.ph (.lk k .Hs))) m q:=by
  refine h.lock.same U (λf=>?_) trivial;rw[O];by_cases e:f .Ge=f .Hs;exact .inl e;right;refine⟨?_,?_,?_,?_,?_,?_,?_,?_⟩<;>rintro rfl<;>exact e rfl
 refine h.go' (f₁:=upd f k v0) hi (by rw[ag];exact a7 w f h.G8) bn b0 bw (ρ:=ρ) (.walk (by rw[ag];rfl) (λe=>by cases e) (by rw[ag];exact bz)) be ?_ ?_ (dX _ _ aw) (λa b=>absurd b a) (λa b=>absurd b a) (λk' aq a3=>?_) (λe=>absurd e Y) (λe=>absurd e Y) V (.refl _) V λb4=>Xk U (by rw[O];simp[wt,Is]);show(F.Ii w (upd f k v0)).heap[F.wg]?=_;rw[SE _ _ (sy h.Lt)];exact h.wg;show(F.Ii w (upd f k v0)).heap[F.mu]?=_;rw[SE _ _ (sy h.Lr)];exact h.KG;by_cases e:k'=k;subst e;rw[← Z,upd_same,upd_same];exact a6;rw[upd_ne _ _ e];rw[upd_ne _ _ (by omega)] at a3 ⊢;exact h.JJ k' aq a3
theorem Y5{o:Goroutine}(h:g'.status=.blocked):woken P g g' w o=o:=by
 unfold woken;rw[d0 (by simp[h])]
theorem FM.kL{N0 t0 N:Nat}(h:FM F N0 t0 N j φ S t){i:Nat}(U:∀k,k<j->late (φ (N0+k))->N0+k≠i):FM F N0 t0 N j φ (upd S i s') t:=
 ⟨h.deaf,h.above,h.plain,h.said,h.G8,h.over,h.norel,h.Ot,λk K O=>by rw[upd_ne _ _ (U k K O)];exact h.rel k K O⟩
theorem Inv.block(h:Inv P F B gs w t φ r bt S Sh j c v wt' sm m q f){i:Nat}(hi:gs[i]?=some g){p:Ph}(K:φ i=.ph p)(a0:bt i=true)(ac:(i==0)=Fam.CU p)(ap:Cx (S i) s₀)(ag:Stop P F p g s₀)
  (al:(p=.Gc/\sm=0)∨((∃k sv,p=.lk k (.CL sv))/\q=0)):Jt P F B gs w sl t i (mu F gs.size φ m q r bt):=by
 have Y:i<gs.size:=(f8.1 hi).1;have a5:=h.size;have a1:stepG P (i==0) g w=.go {g with status:=.blocked} w #[]:=by
  rw[ac];rcases al with⟨rfl,rfl⟩ | ⟨⟨k,sv,rfl⟩,rfl⟩;exact ag.law.FU V w v wt' h.wg;exact ag.law.CL k sv V w m h.KG
 have Z:Tb p:=by
  rcases al with⟨rfl,_⟩ | ⟨⟨k,sv,rfl⟩,_⟩;exact .inl V;exact .inr ⟨k,sv,V⟩
 have a2:=Ue Z;have aq:=runT_crowd_go (P:=P) (sl:=sl) (i:=i) hi a1;have a3:(gs.map (woken P g {g with status:=.blocked} w)).setIfInBounds i {g with status:=.blocked}=gs.setIfInBounds i {g with status:=.blocked}:=by
  have:(woken P g {g with status:=.blocked} w)=id:=by funext o;exact Y5 V
  rw[this,Array.map_id]
 rw[a3,O0] at aq;have O:(gs.setIfInBounds i {g with status:=.blocked}).size=gs.size:=by simp
 have av:t++(#[]:Trace)=t:=by simp
 have a4:∀k,k<j->late (φ (B.N0+k))->B.N0+k≠i:=by
  intro k aw ay e;rw[e,K] at ay;rcases Z with rfl | ⟨k',sv,rfl⟩;rcases h.Fq Y with av | ⟨_,d,hd,_⟩ | ⟨k',_,_,_,hw⟩;have:=h.CW.pos;omega;rw[K] at hd;cases hd;rw[K] at hw;exact hw;exact ay
 refine⟨_,_,_,_,aq,.inl ⟨φ,r,upd bt i false,upd S i s₀,Sh,j,c,v,wt',sm,m,q,f,?_,?_⟩⟩
 .rw [av];refine⟨by rw[O];exact h.CW,by rw[O];exact h.lock,by rw[O];exact h.Fx.kL a4,λa o U=>?_,by rw[O];exact h.Ct.ghost Y ap,h.IY,h.JH,h.Kd,h.OB,h.Lt,h.Lr,h.IX,h.mn,h.wg,h.KG,h.G8,λa az hb=>?_,λk aw am=>?_,?_,h.tape,h.os,h.output⟩
  .by_cases e:a=i
   .subst e;rw[rR Y] at U;obtain rfl:=f6 U;rw[upd_same,upd_same,K];have:loc (.ph p) s₀=s₀:=by simp[loc,IF,a2]
    rw[this];exact .blk Z ac ag
   .rw [mt (sy e)] at U;rw[upd_ne _ _ e,upd_ne _ _ e];exact h.Mt a o U
  .by_cases e:a=i
   .subst e;rcases al with⟨rfl,rfl⟩ | ⟨⟨k,sv,rfl⟩,rfl⟩
    .have:a=0:=by simpa [Fam.CU] using ac
     subst this;exact .inl ⟨V,K,V⟩
    .exact .inr ⟨⟨k,sv,K⟩,V⟩
   .rw [upd_ne _ _ e] at hb;rw[O] at az;exact h.blk a az hb
  by_cases e:B.N0+k=i;rw[e,K] at am;rcases Z with rfl | ⟨k',sv,rfl⟩<;>exact am.elim;rw[upd_ne _ _ e];exact h.JJ k aw am;by_cases e:0=i;subst e;rw[upd_same];exact λb o U=>ap.ext b o (h.le b o U);rw[upd_ne _ _ e];exact h.le
 .rw [O];have:=sumTo_upd bt false bit Y;rw[a0] at this;exact .inr ⟨V,.inr ⟨V,.inr ⟨V,V,.inr ⟨V,by show(sumTo gs.size λa=>bit (upd bt i false a))<sumTo gs.size λa=>bit (bt a);simp only[bit] at this ⊢;simp only[sO,rY,sI] at this;omega⟩⟩⟩⟩
theorem LI.push{N:Nat}(h:LI N φ m q)(Z:0<N){p0:Ph}{j:Nat}(O:∀k p,φ 0≠ .ph (.lk k p))(U:∀k p,p0≠ .lk k p):LI (N+1) (upd (upd φ N (.ph (.lk j .GL))) 0 (.ph p0)) m q:=by
 have Y:LI (N+1) (upd φ N (.ph (.lk j .GL))) m q:=by
  have e:∀f,f LP.GL=0->Sg f (N+1) (upd φ N (.ph (.lk j .GL)))=Sg f N φ:=by
   intro f ac;unfold Sg;simp only[sumTo];have:=sumTo_upd_out φ (.ph (.lk j .GL)) (DL f) (i:=N) (j:=N) (rJ _);rw[upd_same];show _+f .GL=_;omega
  refine⟨by rw[e pH rfl,e pN rfl,e pZ rfl,e pV rfl,e pT rfl,e pQ rfl,e pD rfl,e pX rfl];exact h.ln,λa ag=>?_⟩;by_cases K:a=N;subst K;rw[upd_same];trivial;rw[upd_ne _ _ K];exact h.loc a (by omega)
 exact Y.other (by omega) (by rw[upd_ne _ _ (by omega)];exact O) (λk p e=>U k p (Nx.ph.inj e))
theorem Inv.spawn(h:Inv P F B gs w t φ r bt S Sh j c v wt' sm m q f)(hi:gs[0]?=some g){K:Nat}(ac:φ 0=.ph (.Gu K))(be:Cx (S 0) s₀)(bw:Stop P F (.Gu K) g s₀):
  Jt P F B gs w sl t 0 (mu F gs.size φ m q r bt):=by
 have Y:0<gs.size:=(f8.1 hi).1;obtain⟨rfl,dd,rfl⟩:K=j/\j<F.n/\c=false:=by
  obtain⟨p,bi,_,hh⟩:=h.main;rw[ac] at bi;cases bi;rcases hh with⟨e,hm⟩ | ⟨_,hm⟩;exact⟨hm.1,hm.2.1,e⟩;exact hm.elim
 let⟨g',child,dj,ea,bx,bz,b0⟩:=bw.law.go _ V;have b1:=h.size;have eb:=h.CW.pos;have a3:=runT_crowd_spawn (P:=P) (sl:=sl) (i:=0) hi (show stepG P (0==0) g w=_ from bx w);rw[O0] at a3;generalize b2:({g:=0,fn:=g.frame.fn,pos:=g.frame.place,act:=.go gs.size}:MemOp)=x at a3;generalize b3:({g:=gs.size,fn:=child.frame.fn,pos:=g.frame.place,act:=.start}:MemOp)=y at a3;have am:x.g=0/\x.act=.go gs.size:=by subst b2;exact⟨V,V⟩
 have ap:y.g=gs.size/\y.act=.start:=by subst b3;exact⟨V,V⟩
 have b4:((#[]:Trace).push x).push y=#[x,y]:=V;have al:((gs.setIfInBounds 0 g').push child).size=gs.size+1:=by simp
 have b5:Fam.CU (F.Fp K)=true/\Fam.Dd (F.Fp K)=false/\Gv (.ph (F.Fp K))=0/\(∀k p,F.Fp K≠ .lk k p):=by
  unfold Fam.Fp;split<;>exact⟨rfl,rfl,rfl,by simp⟩
 obtain⟨x1,x2,b6,ca⟩:=b5;let φ':Nat->Nx:=upd (upd φ gs.size (.ph (F.start K))) 0 (.ph (F.Fp K));have f0:φ' 0=.ph (F.Fp K):=upd_same _ _ _;have aq:φ' gs.size=.ph (F.start K):=by show upd _ _ _ _=_;rw[upd_ne _ _ (by omega),upd_same]
 have av:∀a,a≠0->a≠gs.size->φ' a=φ a:=λa cc a6=>by show upd _ _ _ _=_;rw[upd_ne _ _ cc,upd_ne _ _ a6]
 have hu:∀op∈(#[x,y]:Array MemOp),op.act.touch?=none/\∀m,op.act≠ .mark m:=by
  intro op O;simp only[tc,iC,rO,sX] at O;rcases O with rfl | rfl;rw[am.2];exact⟨V,by simp⟩;rw[ap.2];exact⟨V,by simp⟩
 have aw:=h.CW.spawn (by rw[Kx];exact ac);rw[Kx] at aw;simp only[rU,sY] at aw;have a7:∃ay,CV F B.N0 (gs.size+1+ay.toNat) (K+1) ay (CN ay (gs.size+1) φ') v wt' sm false:=by
  by_cases e:K+1=F.n
  .refine⟨true,?_⟩;have a8:F.F8 K=.HG:=by unfold Fam.F8;rw[d6 e]
   have e2:F.Fp K=.DZ:=by unfold Fam.Fp;rw[d6 e]
   have:=aw.jL (by rw[upd_same,a8]);have ce:CN true (gs.size+1) φ'=upd (upd (upd (upd φ gs.size (.ph (F.start K))) 0 (.ph (F.F8 K))) (gs.size+1) (.ph .DZ)) 0 (.ph (.Gr [] [])):=by
    funext a;unfold CN;by_cases a9:a=gs.size+1;subst a9;rw[d6 ⟨rfl,rfl⟩,upd_ne _ _ (by omega),upd_same,f0,e2];rw[d0 (by simp[a9])];by_cases ag:a=0;subst ag;rw[d6 ⟨rfl,rfl⟩,upd_same];rw[d0 (by simp[ag]),upd_ne _ _ ag,upd_ne _ _ a9];show upd _ _ _ _=_;rw[upd_ne _ _ ag,upd_ne _ _ ag]
   rw[ce];exact this
  .refine⟨false,?_⟩;have a8:F.F8 K=F.Fp K:=by unfold Fam.F8 Fam.Fp;rw[d0 e,d0 e]
   rw[a8] at aw;rw[Kx];exact aw
 obtain⟨ay,a7⟩:=a7;have bn:Cd t w gs.size (upd S 0 s₀) Sh:=h.Ct.ghost Y be;have ci:Cd (t++ #[x,y]) w gs.size (upd S 0 s₀) Sh:=by
  refine bn.ext (λsaid=>?_) (λop O a az=>by rw[(hu op O).1] at az;cases az) (λop O=>?_) V λ_ _=>V
  .have e:t++ #[x,y]=(t++ #[x])++ #[y]:=by apply s5;simp
   rw[e];exact noRace_append (g:=gs.size) (noRace_append (g:=0) (h.Ct.clean said) (λop O=>by simp at O;subst O;exact am.1) λz a _ op O b hb _=>by rw[(hu op (by simp at O ⊢;exact .inl O)).1] at hb;cases hb)
    (λop O=>by simp at O;subst O;exact ap.1) λz a _ op O b hb _=>by rw[(hu op (by simp at O ⊢;exact .inr O)).1] at hb;cases hb
  .simp only [tc,iC,rO,sX] at O;rcases O with rfl | rfl;rw[am.2];trivial;rw[ap.2];trivial
 have co:Deaf t 0=0:=by rw[h.Fx.deaf 0 Y,ac];rfl
 have cp:Cd (t++ #[x,y]) w (gs.size+1) (upd (upd S 0 s₀) gs.size ⟨s₀.E,λ_=>none,false⟩) Sh:=by
  refine ci.push (i:=0) Y (E:=s₀.E) (λb o a0=>by rw[upd_same];exact a0) λb hb z a ct cw cy=>?_;have hold:touchAt t z=some a:=by
   let⟨op,a0,bb⟩:=touch_of ct;rcases getElem?_append_cases a0 with⟨_,c0⟩ | ⟨_,c1⟩;rw[touchAt_of c0];exact bb;rw[(hu op c1).1] at bb;cases bb
  exact fork_knows am ap co (h.Fx.above _ (rJ _)) (bn.kE 0 Y b (by rw[upd_same];exact hb) z a hold cw cy)
 have bo:∀k,k<K->upd (upd S 0 s₀) gs.size ⟨s₀.E,λ_=>none,false⟩ (B.N0+k)=S (B.N0+k):=λk bv=>by rw[upd_ne _ _ (by omega),upd_ne _ _ (by omega)]
 have c2:FM F B.N0 B.t0 (gs.size+1) (K+1) φ' (upd (upd S 0 s₀) gs.size ⟨s₀.E,λ_=>none,false⟩) (t++ #[x,y]):=by
  refine h.Fx.spawn Y b1 (λa az=>?_) (by rw[aq];rfl) (by rw[ac];rfl) (λk bv a4=>?_) am ap;by_cases e:a=0;subst e;rw[f0,ac,b6];rfl;rw[av a e (by omega)];by_cases e:k=K;subst e;rw[show B.N0+k=gs.size by omega,aq] at a4;exact a4.elim;rw[av _ (by omega) (by omega)] at a4;exact⟨by omega,a4,by rw[bo k (by omega)]⟩
 obtain⟨c3,c4⟩:=b0;obtain⟨c5,c6⟩:=bz;have a2:∀{α:Type}(f:Nat->α) (a b:α),upd (upd f 0 a) gs.size b 0=a:=λf a b=>by rw[upd_ne _ _ (by omega),upd_same]
 have c7:∀s:St,loc (.ph (F.Fp K)) s=s:=λs=>by simp[loc,IF,x2]
 refine⟨_,_,_,_,a3,.inl ⟨φ',upd (upd r 0 c3) gs.size c5,upd (upd bt 0 true) gs.size true,upd (upd S 0 s₀) gs.size ⟨s₀.E,λ_=>none,false⟩,Sh,K+1,ay,v,wt',sm,m,q,f,?_,?_⟩⟩
 .rw [b4];refine⟨by rw[al];exact a7,by rw[al];exact h.lock.push Y (λk p e=>by rw[ac] at e;cases e) ca,by rw[al];exact c2,λa o Z=>?_,by rw[al];exact cp,h.IY,h.JH,h.Kd,h.OB,h.Lt,h.Lr,h.IX,(by rw[f0];unfold Fam.Fp;split<;>simp),h.wg,h.KG,h.G8,λa az hb=>?_,λk bv a5=>?_,?_,h.tape,h.os,h.output⟩
  .by_cases e:a=0;subst e;rw[Array.getElem?_push_lt (by simpa using Y)] at Z;simp at Z;subst Z;rw[f0,a2,a2,a2,c7];exact .walk x1.symm (λq=>by rw[x2] at q;cases q) c4
   .by_cases U:a=gs.size
    .subst U;have:child=o:=by
      rw[show gs.size=(gs.setIfInBounds 0 g').size by simp,Array.getElem?_push_size] at Z;exact f6 Z
     subst this;rw[aq,upd_same,upd_same,upd_same];have c8:(gs.size==0)=false:=by rw[vl];omega
     rw[c8];exact .walk V (λq=>by cases q) c6
    .rw [av a e U,upd_ne _ _ U,upd_ne _ _ e,upd_ne _ _ U,upd_ne _ _ e,upd_ne _ _ U,upd_ne _ _ e];have:gs[a]?=some o:=by
      rw[vj] at Z;simp[U] at Z;simpa [mt (sy e)] using Z
     exact h.Mt a o this
  rw[al] at az;by_cases e:a=0;subst e;rw[a2] at hb;cases hb;by_cases U:a=gs.size;subst U;rw[upd_same] at hb;cases hb;rw[upd_ne _ _ U,upd_ne _ _ e] at hb;rcases h.blk a (by omega) hb with⟨ag,_⟩ | ⟨⟨k,sv,a6⟩,c9⟩;exact absurd ag e;exact .inr ⟨⟨k,sv,by rw[av a e U];exact a6⟩,c9⟩;by_cases e:k=K;subst e;rw[show B.N0+k=gs.size by omega,aq] at a5;exact a5.elim;rw[av _ (by omega) (by omega)] at a5;rw[bo k (by omega)];exact h.JJ k (by omega) a5;rw[a2];exact h.le.trans λb o a0=>be.ext b o a0
 .rw [al];refine lY ?_;simp only[sumTo];rw[aq];have a1:=sumTo_upd (upd φ gs.size (.ph (F.start K))) (.ph (F.Fp K)) (wt F.n) Y;rw[upd_ne _ _ (by omega),ac] at a1;have ec:=sumTo_upd_out φ (.ph (F.start K)) (wt F.n) (i:=gs.size) (j:=gs.size) (rJ _);have ed:wt F.n (.ph (F.start K))=23:=V;have ee:wt F.n (.ph (.Gu K))=5*F.n+85+50*(F.n - K):=V;have ef:wt F.n (.ph (F.Fp K))+30<=5*F.n+85+50*(F.n - K):=by
   unfold Fam.Fp;split<;>simp only[wt]<;>omega
  show(sumTo gs.size λi=>wt F.n (upd (upd φ gs.size (.ph (F.start K))) 0 (.ph (F.Fp K)) i))+_<_;omega
end
theorem Cd.final{t:Trace}{w:World}{N:Nat}{S:Nat->St}{Sh:Nat->Prop}(h:Cd t w N S Sh)(am:0<N){fd:Nat}
  (Z:∀b o,s'.E b=some o->w.heap[b]?=some o/\¬Sh b/\∀x a,touchAt t x=some a->Df a.loc=some b->a.write=true->Knows t 0 x)
  (ac:∀b o,s'.H b=some o->w.heap[b]?=some o/\(¬Sh b∨b=fd)/\∀x a,touchAt t x=some a->Df a.loc=some b->Knows t 0 x)
  (hd:∀b,s'.E b≠none->s'.H b=none) (ap:s'.E fd=none):Cd t w N (lone s') (λb=>Sh b/\b≠fd):=by
 have l0:lone s' 0=s':=V;have ln:∀i,i≠0->lone s' i=.quiet:=λi hi=>by simp[lone,hi]
 have Y:∀i b,i≠0->(lone s' i).E b=none:=λi b hi=>by rw[ln i hi];rfl
 have U:∀i b,i≠0->(lone s' i).H b=none:=λi b hi=>by rw[ln i hi];rfl
 refine⟨λi hi=>?_,λa b aq hb al x O=>?_,λi hi b hb=>?_,λb hb=>h.G4 b hb.1,h.clean,h.low,λi hi b hb x a O ag=>?_,λi hi b hb x a O ag hw=>?_⟩;by_cases e:i=0;subst e;rw[l0];exact⟨λb o K=>(Z b o K).1,λb o K=>(ac b o K).1,hd⟩;exact⟨λb o K=>(by rw[Y i b e] at K;cases K),λb o K=>(by rw[U i b e] at K;cases K),λb hb=>U i b e⟩;by_cases e:b=0;subst e;rw[U a x al] at O;exact absurd V O;exact⟨U b x e,Y b x e⟩
 .by_cases e:i=0
  .subst e;rw[l0];constructor
   .cases O:s'.H b with
    | none=>rfl
    | some o=>rcases(ac b o O).2.1 with q | q;exact absurd hb.1 q;exact absurd q hb.2
   .cases O:s'.E b with
    | none=>rfl
    | some o=>exact absurd hb.1 (Z b o O).2.1
  .exact⟨U i b e,Y i b e⟩
 by_cases e:i=0;subst e;let⟨o,K⟩:=I7 (x:=s'.H b) hb;exact(ac b o K).2.2 x a O ag;rw[U i b e] at hb;exact absurd V hb;by_cases e:i=0;subst e;let⟨o,K⟩:=I7 (x:=s'.E b) hb;exact(Z b o K).2.2 x a O ag hw;rw[Y i b e] at hb;exact absurd V hb
section
variable {P:Program}{F:Fam}{B:Base}{gs gs':Array Goroutine}{w w':World}{sl:Option (Nat×Nat)}{t:Trace}{φ:Nat->Nx}{r:Nat->Rk}{bt:Nat->Bool}{S:Nat->St}{Sh:Nat->Prop}{j:Nat}{c:Bool}{v wt' sm v₁ wt₁ sm₁:Nat}{m m₁:M4}{q q₁:Nat}{f f₁:Nat->Value}
theorem Inv.over(h:Inv P F B gs w t φ r bt S Sh j c v wt' sm m q f)(c0:∀k v E E',Le E E'->F.msg k v E->F.msg k v E')(hi:gs[0]?=some g)(a8:φ 0=.ph .G3)(b1:Cx (S 0) s₀)(am:Stop P F .G3 g s₀)(c1:Mu):
  Jt P F B gs w sl t 0 c1:=by
 classical
 have ag:0<gs.size:=(f8.1 hi).1;have ed:=h.size;have ee:=h.CW.pos;obtain rfl:c=true:=by
  obtain⟨p,b2,_,hh⟩:=h.main;rw[a8] at b2;cases b2;rcases hh with⟨_,hm⟩ | ⟨e,_⟩;exact hm.elim;exact e
 have ef:j=F.n:=h.CW.cj V;have a9:∀i,i≠0->i<gs.size->∃d,φ i=.gone d:=by
  intro i bb a2;rcases h.Fq a2 with e | ⟨_,d,hd,_⟩ | ⟨k,Z,c2,_,_⟩;exact absurd e bb;exact⟨d,hd⟩
  .have:=h.CW.fH rfl (.inr (.inr (.inl (by rw[show B.N0+F.n=gs.size by omega,Li];exact a8)))) k Z;rw[← c2,J2 bb (by omega)] at this;cases U:φ i with
   | gone d=>exact⟨d,rfl⟩
   | ph p=>rw[U] at this;exact this.elim
 let⟨g',c3,c4⟩:=am.law.fin V;have b3:=runT_crowd_go (P:=P) (sl:=sl) (i:=0) hi (show stepG P (0==0) g w=_ from c3 w);have b4:Deaf t 0=0:=by rw[h.Fx.deaf 0 ag,a8];rfl
 have be:MemOp.ofEvents 0 g.frame.fn g.frame.place #[Fam.CX (.acquire F.sA)]=#[{g:=0,fn:=g.frame.fn,pos:=g.frame.place,act:=.mark (.acquire F.sA)}]:=by rw[ofEvents_eq];simp[Fam.CX,MemAct.ofEvent]
 generalize hu:MemOp.ofEvents 0 g.frame.fn g.frame.place #[Fam.CX (.acquire F.sA)]=u at b3;have ap:∀op∈u,op.act.touch?=none/\op.g=0/\op.act.low w.heap.size:=by
  intro op aq;rw[← hu,be] at aq;simp at aq;subst aq;exact⟨V,V,h.Ct.G4 F.wg h.IY⟩
 have a3:(t++u)[t.size]?=some {g:=0,fn:=g.frame.fn,pos:=g.frame.place,act:=.mark (.acquire F.sA)}:=by rw[← hu,be];simp
 have c5:(t++u).heard t.size:=⟨0,by simp[Trace.g?,a3],by rw[deaf_old (rJ _)];exact b4⟩;have c6:(t++u).g? t.size=some 0:=by simp[Trace.g?,a3]
 have c7:∀x,B.t0<=x->(t++u).act? x≠some (.mark (.release F.sA)):=R0 h.Fx.norel λop aq e=>by rw[← hu,be] at aq;simp at aq;subst aq;cases e
 have bi:∀k,k<F.n->∃ρ,ρ<t.size/\RelBy F.sA t (B.N0+k) ρ/\KE t (S (B.N0+k)).E ρ/\HappensBefore (t++u) ρ t.size:=by
  intro k Z;obtain⟨d,hd⟩:=a9 (B.N0+k) (by omega) (by omega);obtain⟨ρ,a,b,e⟩:=h.Fx.rel k (by omega) (by rw[hd];trivial);have a4:ρ<t.size:=lt_of_act? b.act;refine⟨ρ,a4,b,e,.single (.inr ⟨.marked a4 (.inr (by rw[act?_old a4];exact b.act)) (by rw[act?_of a3]) λz Y al=>c7 z (by omega),(heard_old a4).2 b.heard,c5⟩)⟩
 have b5:∀{x ρ},Before t x ρ->HappensBefore (t++u) ρ t.size->Knows (t++u) 0 x:=λY al=>⟨t.size,_,a3,rfl,.inr ((Y.app u).hb al)⟩;have b6:∀{x k},k<F.n->t.g? x=some (B.N0+k)->t.counts x->Knows (t++u) 0 x:=by
  intro x k Z ac av;let⟨ρ,Y,al,_,a1⟩:=bi k Z;have hle:x<=ρ:=vH λay=>al.after x ay ac av;refine b5 (ρ:=ρ) ?_ a1;rcases jH x ρ with U | U;exact .inr (.single (.inl ⟨U,_,ac,al.g⟩));exact .inl (by omega)
 have hold:∀{y a},touchAt (t++u) y=some a->touchAt t y=some a:=by
  intro y a U;let⟨op,O,bn⟩:=touch_of U;rcases getElem?_append_cases O with⟨ay,bo⟩ | ⟨_,bv⟩;rw[touchAt_of bo];exact bn;rw[(ap op bv).1] at bn;cases bn
 have aw:Cd t w gs.size (upd S 0 s₀) Sh:=h.Ct.ghost ag b1;have bw:Cd (t++u) w gs.size (upd S 0 s₀) Sh:=aw.mute (g:=0) (λop O=>(ap op O).2.1) (λop O=>(ap op O).1) (λop O=>(ap op O).2.2) rfl;let K:Nat->Obj->Prop:=λb o=>s₀.E b=some o∨∃k,k<F.n/\(S (B.N0+k)).E b=some o;have bx:∀b o,K b o->w.heap[b]?=some o:=by
  rintro b o (Y | ⟨k,Z,Y⟩);exact(aw.fits 0 ag).e b o (by rw[upd_same];exact Y);exact(h.Ct.fits (B.N0+k) (by omega)).e b o Y
 let E':LH:=λb=>if hb:∃o,K b o then some (Classical.choose hb) else none
 have bz:∀b o,E' b=some o->K b o:=by
  intro b o O;simp only[E'] at O;split at O;rename_i hb;have:=s6 hb;rw[f6 O] at this;exact this;cases O
 have ca:∀b o,K b o->E' b=some o:=by
  intro b o O;have hb:∃o,K b o:=⟨o,O⟩;have c8:E' b=some (Classical.choose hb):=by simp only[E'];rw[dif_pos hb]
  have e2:=bx b _ (s6 hb);rw[bx b o O] at e2;rw[c8,← f6 e2]
 have cc:Le s₀.E E':=λb o O=>ca b o (.inl O);have c9:∀k,k<F.n->Le (S (B.N0+k)).E E':=λk Z b o O=>ca b o (.inr ⟨k,Z,O⟩);have ce:∀b o,K b o->¬Sh b:=by
  rintro b o (Y | ⟨k,Z,Y⟩) hb;have:=(aw.sh 0 ag b hb).2;rw[upd_same,Y] at this;cases this;have:=(h.Ct.sh (B.N0+k) (by omega) b hb).2;rw[Y] at this;cases this
 have b0:E' F.fd=none:=by
  cases U:E' F.fd with
  | none=>rfl
  | some o=>exact absurd h.Kd (ce _ _ (bz _ _ U))
 have ci:∀b,E' b≠none->s₀.H b=none:=by
  intro b hb;let⟨o,O⟩:=I7 hb;rcases bz b o O with Y | ⟨k,Z,Y⟩
  .have:=(aw.fits 0 ag).d b (by rw[upd_same,Y];simp)
   rwa[upd_same] at this
  .cases U:s₀.H b with
   | none=>rfl
   | some o'=>
    have:=(aw.hh 0 (B.N0+k) ag (by omega) (by omega) b (by rw[upd_same,U];simp)).2;rw[upd_ne _ _ (by omega),Y] at this;cases this
 have dd:∀k,k<F.n->F.msg k (f k) E':=λk Z=>by
  obtain⟨d,hd⟩:=a9 (B.N0+k) (by omega) (by omega);exact c0 _ _ _ _ (c9 k Z) (h.JJ k (by omega) (by rw[hd];trivial))
 have dj:=c4 E' f cc b0 ci dd;have co:((gs.map (woken P g g' w)).setIfInBounds 0 g').size=gs.size:=by simp
 have ea:Cd (t++u) w gs.size (lone ⟨E',F.K9 s₀.H f,false⟩) (λb=>Sh b/\b≠F.fd):=by
  refine bw.final ag (λb o O=>?_) (λb o O=>?_) (λb hb=>?_) b0;have Z:=bz b o O;refine⟨bx b o Z,ce b o Z,λx a U az hw=>?_⟩;rcases Z with Y | ⟨k,Z,Y⟩;exact bw.kE 0 ag b (by rw[upd_same,Y];simp) x a U az hw;let⟨ρ,_,_,eb,a1⟩:=bi k Z;exact b5 (eb b (by rw[Y];simp) x a (hold U) az hw) a1;simp only[Fam.K9] at O;split at O;rename_i e;subst e;cases O;refine⟨h.G8,.inr V,λx a U az=>?_⟩;rcases h.Fx.G8 x a (hold U) az with z | ⟨k,Z,ac,av,_⟩;exact(z 0 ag (.inl V)).app u;exact b6 (by omega) ac av;refine⟨(aw.fits 0 ag).h b o (by rw[upd_same];exact O),.inl λhb=>?_,λx a U az=>bw.kH 0 ag b (by rw[upd_same,O];simp) x a U az⟩;have:=(aw.sh 0 ag b hb).1;rw[upd_same,O] at this;cases this;simp only[Fam.K9];rw[d0 (λe=>by subst e;exact hb b0)];exact ci b hb
 have ec:∀i g,i≠0->gs[i]?=some g->∃q d,φ i=.gone d/\QuitsD P q d g:=by
  intro i g hi ac;let⟨d,hd⟩:=a9 i hi (f8.1 ac).1;have am:=h.Mt i g ac;rw[hd] at am;generalize U:Nx.gone d=x at am;generalize loc x (S i)=s at am;generalize r i=ρ at am;generalize bt i=eg at am;cases am with
  | gone _ a5=>cases U;exact⟨_,_,hd,a5⟩
  | _=>cases U
 have a5:∀i,∃q,∀g,i≠0->gs[i]?=some g->QuitsD P q (Deaf t i) g:=by
  intro i;by_cases hi:i≠0/\i<gs.size;let⟨q,d,Y,al⟩:=ec i _ hi.1 (sf hi.2);refine⟨q,λg _ ac=>?_⟩;rw[sf hi.2] at ac;obtain rfl:=f6 ac;rw[h.Fx.deaf i hi.2,Y];exact al;exact⟨0,λg Y al=>absurd ⟨Y,(f8.1 al).1⟩ hi⟩
 have cp:∀i,i≠0->Deaf (t++u) i=Deaf t i:=λi hi=>Deaf_other t (sy hi) u λop O=>(ap op O).2.1;refine⟨_,_,_,_,b3,.inr ⟨λi=>Classical.choose (a5 i),λb=>Sh b/\b≠F.fd,g',⟨E',F.K9 s₀.H f,false⟩,⟨by simp[ag],⟨λi x bb U=>?_,λi a2=>?_⟩,by rw[co];exact ea,λx a6 ac a0 av=>?_,?_⟩,dj,?_,h.tape,h.os,h.output⟩⟩
 .have a0:i≠0:=by omega
  rw[mt (sy a0),tH] at U;obtain⟨o',bo,rfl⟩:=sr.1 U;have ct:=s6 (a5 i) o' a0 bo;rw[woken_quitsD ct,cp i a0];exact ct
 .rw [co] at a2;rw[cp i (by omega)];exact h.Fx.above i a2
 .have:=Sa h.Fx.over (u:=u) (N0:=B.N0) (N:=gs.size) (λop O=>.inl (ap op O).2.1) x a6 ac a0 av;rcases this with z | ⟨z1,ej⟩;exact z
  .have a7:x<t.size:=by
    rcases jH x t.size with z | z;exact z;let⟨op,O,cw⟩:=sr.1 ac;rcases getElem?_append_cases O with⟨ay,_⟩ | ⟨_,bv⟩;exact ay;rw[(ap op bv).2.1] at cw;exact absurd cw.symm a0
   obtain⟨ek,z,el,em,eo⟩:=b6 (k:=a6 - B.N0) (by omega) (by rw[← g?_old (u:=u) a7,ac];congr 1;omega) ((counts_old a7).1 av);refine⟨t.size,c6,?_⟩;obtain⟨ρ,Y,al,_,a1⟩:=bi (a6 - B.N0) (by omega);have cy:t.g? x=some (B.N0+(a6 - B.N0)):=by rw[← g?_old (u:=u) a7,ac];congr 1;omega
   have hle:x<=ρ:=vH λay=>al.after x ay cy ((counts_old a7).1 av);have hb:Before t x ρ:=by
    rcases jH x ρ with U | U;exact .inr (.single (.inl ⟨U,_,cy,al.g⟩));exact .inl (by omega)
   exact(hb.app u).hb a1
 have:=Deaf_own t 0 g.frame.fn g.frame.place #[Fam.CX (.acquire F.sA)];rw[hu] at this;rw[this,b4];rfl;exact(h.le.trans λb o O=>b1.ext b o O).trans cc
end
theorem LN.busy{m:M4}{h rn rs v t s d x:Nat}(Z:LN m 0 h rn rs v t s d x)(am:1<=s):1<=h+rn+rs+v+t+d+x:=by
 obtain⟨O,ac,ag⟩:=Z;cases hm:m.s with
 | true=>have:=(ag hm).2.2.2.1;rw[← O] at this;omega
 | false=>
  let⟨a1,ap,K,aq,al⟩:=ac hm;cases Y:m.l with
  | true=>rw[Y] at O;simp at O;omega
  | false=>
   cases U:m.k with
   | true=>rw[U] at K;simp at K;omega
   | false=>
    rw[U] at K;simp at K;have:=al Y U (by omega);omega
section
variable {P:Program}{F:Fam}{B:Base}{gs gs':Array Goroutine}{w w':World}{sl:Option (Nat×Nat)}{t:Trace}{φ:Nat->Nx}{r:Nat->Rk}{bt:Nat->Bool}{S:Nat->St}{Sh:Nat->Prop}{j:Nat}{c:Bool}{v wt' sm v₁ wt₁ sm₁:Nat}{m m₁:M4}{q q₁:Nat}{f f₁:Nat->Value}
theorem aE{N:Nat}{f:Nat->Nat}(h:1<=sumTo N f):∃i,i<N/\1<=f i:=by
 induction N with
 | zero=>simp[sumTo] at h
 | succ N K=>
  simp only[sumTo] at h;by_cases e:1<=f N;exact⟨N,by omega,e⟩;obtain⟨i,hi,O⟩:=K (by omega);exact⟨i,by omega,O⟩
theorem Inv.runs(h:Inv P F B gs w t φ r bt S Sh j c v wt' sm m q f):∃(i:Nat) (g:Goroutine),gs[i]?=some g/\g.status=.running:=by
 have bz:=h.CW.pos;have b0:=h.size;have aq:0<gs.size:=by omega
 have ag:∀i (hi:i<gs.size) p,φ i=.ph p->bt i=true->∃(i:Nat) (g:Goroutine),gs[i]?=some g/\g.status=.running:=by
  intro i hi p U hb;refine⟨i,_,sf hi,?_⟩;have K:=h.Mt i _ (sf hi);rw[U,hb] at K;generalize loc (Nx.ph p) (S i)=s at K;generalize a6:Nx.ph p=x at K;generalize a7:true=b at K;generalize gs[i]=o at K ⊢;generalize r i=ρ at K;cases K with
  | walk _ _ av=>exact av.running
  | blk _ _ _=>cases a7
  | gone _ _=>cases a6
 obtain⟨p0,ac,a8,hh⟩:=h.main;cases aw:bt 0 with
 | true=>exact ag 0 aq p0 ac aw
 | false=>
  obtain⟨U,b1⟩:φ 0=.ph .Gc/\sm=0:=by
   rcases h.blk 0 aq aw with⟨_,a,b⟩ | ⟨⟨k,sv,a⟩,_⟩;exact⟨a,b⟩;rw[ac] at a;cases a;cases a8
  rw[U] at ac;cases ac;obtain⟨rfl⟩:c=true:=by
   rcases hh with⟨_,hm⟩ | ⟨e,_⟩;exact hm.elim;exact e
  have av:j=F.n:=h.CW.cj V;have ay:=h.CW.mode;rw[d6 rfl,show B.N0+F.n=gs.size by omega,Li,U] at ay;obtain⟨a9,_,_⟩:=ay;have al:=h.CW.cnt;have az:CN true gs.size φ 0=.ph (.Gr [] []):=by simp[CN];omega
  rw[az] at al;simp only[pend,sY] at al;have hex:∃i,i<gs.size+1/\1<=cU (CN true gs.size φ i)+cL (CN true gs.size φ i)+cS (CN true gs.size φ i):=by
   apply ud;intro bb;have am:∀i,i<gs.size+1->cU (CN true gs.size φ i)=0/\cL (CN true gs.size φ i)=0/\cS (CN true gs.size φ i)=0:=λi hi=>by
    have:¬1<=cU (CN true gs.size φ i)+cL (CN true gs.size φ i)+cS (CN true gs.size φ i):=λq=>bb ⟨i,hi,q⟩;omega
   have zero:∀f:Nat->Nat,(∀i,i<gs.size+1->f i=0)->sumTo (gs.size+1) f=0:=λf be=>by
    have:=sumTo_le (f:=f) (c:=0) (j:=gs.size+1) (λi hi=>by rw[be i hi];exact rJ _);omega
   have z1:=zero (λi=>cU (CN true gs.size φ i)) λi hi=>(am i hi).1;have b2:=zero (λi=>cL (CN true gs.size φ i)) λi hi=>(am i hi).2.1;have b3:=zero (λi=>cS (CN true gs.size φ i)) λi hi=>(am i hi).2.2;simp only[r8] at a9 al;omega
  obtain⟨i,hi,O⟩:=hex;have a0:i≠0:=by rintro rfl;rw[az] at O;simp[cU,cL,cS] at O
  have bi:i≠gs.size:=by rintro rfl;rw[Li,U] at O;simp[cU,cL,cS] at O
  rw[J2 a0 bi] at O;have ap:i<gs.size:=by omega
  cases a1:φ i with
  | gone d=>rw[a1] at O;simp[cU,cL,cS] at O
  | ph pi=>
   cases a2:bt i with
   | true=>exact ag i ap pi a1 a2
   | false=>
    obtain⟨⟨k,sv,bn⟩,bo⟩:(∃k sv,φ i=.ph (.lk k (.CL sv)))/\q=0:=by
     rcases h.blk i ap a2 with⟨e,_⟩ | e;exact absurd e a0;exact e
    subst bo;have bv:1<=Sg pQ gs.size φ:=by
     have:=le_sumTo (f:=λa=>DL pQ (φ a)) ap;have e:DL pQ (φ i)=1:=by rw[bn];rfl
     simp only[e] at this;exact this
    have hb:=h.lock.ln.busy bv;have bw:1<=Sg (λp=>(((((pH p+pN p)+pZ p)+pV p)+pT p)+pD p)+pX p) gs.size φ:=by
     rw[K7,K7,K7,K7,K7,K7];exact hb
    let⟨a,a3,Y⟩:=aE bw;cases Z:φ a with
    | gone d=>rw[Z] at Y;simp[DL] at Y
    | ph bx=>
     rw[Z] at Y;cases bx<;>(try (simp[DL] at Y;done))
     rename_i k' l;cases a4:bt a with
     | true=>exact ag a a3 _ Z a4
     | false=>
      rcases h.blk a a3 a4 with⟨e,a5,_⟩ | ⟨⟨b4,b5,e⟩,_⟩;subst e;rw[Z] at a5;cases a5;rw[Z] at e;cases e;simp[DL,pH,pN,pZ,pV,pT,pD,pX] at Y
theorem Inv.step(h:Inv P F B gs w t φ r bt S Sh j c v wt' sm m q f)(am:∀k v E E',Le E E'->F.msg k v E->F.msg k v E'):
  ∃gs' w' av u,stepT P (crowd gs w sl)=(.next (crowd gs' w' av),u)/\
  ((∃φ' r' a5 S' bn ap bo v' bv sm' m' q' bw,Inv P F B gs' w' (t++u) φ' r' a5 S' bn ap bo v' bv sm' m' q' bw/\Mu.lt (mu F gs'.size φ' m' q' r' a5) (mu F gs.size φ m q r bt))∨TI P F B gs' w' (t++u)):=by
 have cp:=h.size;have bx:∀x∈gs,awake x:=by
  intro x K;obtain⟨i,hi,rfl⟩:=u3.1 K;exact(h.Mt i _ (sf hi)).awake
 let⟨i,g,d,av,hi,a6,bz⟩:=crowd_pick (P:=P) (w:=w) (sl:=sl) bx h.runs
 suffices Jt P F B gs (w.at d) av t i (mu F gs.size φ m q r bt) by
  obtain⟨gs',w',b0,u,aw,ay⟩:=this;exact⟨gs',w',b0,u,bz.trans aw,ay⟩
 have O:=h.at_ d;have a7:i<gs.size:=(f8.1 hi).1;have ac:=h.Mt i g hi;generalize K:φ i=x at ac;generalize a8:r i=ρ at ac;generalize hb:bt i=b at ac;generalize a9:loc x (S i)=s at ac;cases ac with
 | blk _ _ _=>cases a6
 | gone hm bb=>exact O.slip hi a6 K a8 hm bb
 | @walk p _ _ _ hm bb az=>
  have b1:JQ (Stop P F p) g s∨∃f,ρ=.node f/\(∀w,Fits s w->∃g' s' w' es,stepG P (i==0) g w=.go g' w' es/\Jr P (i==0) (JQ (Stop P F p)) (f w) g' s'/\Fits s' w'/\Fr s w s' w'/\(∀e∈es,Ev s w w' e)/\(s=.quiet->s'=.quiet/\w'=w/\es=#[])):=by
   cases ρ with
   | leaf=>exact .inl az
   | node f=>
    rcases az with q | ⟨_,q⟩;exact .inl q;exact .inr ⟨f,V,q⟩
  rcases b1 with⟨s₀,be,U⟩ | ⟨f0,rfl,hgo⟩
  .subst a9;have Y:Fam.Dd p=false->Cx (S i) s₀:=λe=>by simpa [loc,IF,e] using be
   by_cases c1:∃k l,p=.lk k l
   .obtain⟨k,l,rfl⟩:=c1;by_cases c2:l=.Ge;subst c2;exact O.store hi K hm (Y V) U
    by_cases c3:(∃sv,l=.CL sv)/\q=0;obtain⟨⟨sv,rfl⟩,c3⟩:=c3;exact O.block hi K hb hm (Y V) U (.inr ⟨⟨k,sv,V⟩,c3⟩)
    exact O.Ce am hi K c2 hm (Y V) U λsv e a0=>c3 ⟨⟨sv,e⟩,a0⟩
   by_cases c2:∃ap,p=.Gu ap
   .obtain⟨ap,rfl⟩:=c2;have ag:i=0:=by simpa [Fam.CU] using hm
    subst ag;exact O.spawn hi K (Y V) U
   by_cases c3:p=.G3
   .subst c3;have ag:i=0:=by simpa [Fam.CU] using hm
    subst ag;exact O.over am hi K (Y V) U _
   by_cases c4:p=.Gc/\sm=0;obtain⟨rfl,c4⟩:=c4;exact O.block hi K hb hm (Y V) U (.inl ⟨V,c4⟩)
   have b2:∃a1,a1<gs.size+c.toNat/\CN c gs.size φ a1=.ph p:=by
    by_cases e:i=0
    .subst e;cases c with
     | false=>exact⟨0,by omega,by rw[Kx];exact K⟩
     | true=>exact⟨gs.size,by simp,by rw[Li];exact K⟩
    .exact⟨i,by omega,by rw[J2 e (by omega)];exact K⟩
   have b3:p=.Gc->sm=1:=by
    rintro rfl;have ag:i=0:=by simpa [Fam.CU] using hm
    subst ag;obtain⟨p0,al,_,hh⟩:=h.main;rw[K] at al;cases al;obtain rfl:c=true:=by
     rcases hh with⟨_,hm⟩ | ⟨e,_⟩;exact hm.elim;exact e
    have az:=h.CW.cj V;have bi:=h.CW.mode;rw[d6 rfl,show B.N0+F.n=gs.size by omega,Li,K] at bi;obtain⟨ct,_⟩:=bi;have:sm≠0:=λq=>c4 ⟨rfl,q⟩;omega
   obtain⟨a1,b4,b5⟩:=b2;have aq:(∀k,p≠ .Ia k)/\p≠ .HG/\(∀a2 vs,p≠ .Gr a2 vs)/\p≠ .IJ:=by
    by_cases e:i=0;subst e;have a3:=h.mn;rw[K] at a3;obtain⟨p0,al,_,hh⟩:=h.main;rw[K] at al;cases al;refine⟨λk e=>?_,λe=>?_,λa2 vs e=>?_,λe=>?_⟩;subst e;rcases hh with⟨_,Z⟩ | ⟨_,Z⟩<;>exact Z.elim;subst e;exact a3.1 V;subst e;rcases hh with⟨e,Z⟩ | ⟨_,Z⟩;have:=Z.2;rw[e] at this;cases this;exact Z.elim;subst e;exact a3.2 V
    .rcases h.Fq a7 with a0 | ⟨_,d,hd,_⟩ | ⟨k',cw,cy,_,hw⟩;exact absurd a0 e;rw[K] at hd;cases hd
     .rw [K] at hw;refine⟨λk e=>?_,λe=>?_,λa2 vs e=>?_,λe=>?_⟩<;>subst e;exact absurd hw.2 tI
      all_goals exact hw.elim
   let⟨v',w',sm',es,c0,b6⟩:=h.CW.enabled b4 b5 aq.1 (λk e=>c2 ⟨k,e⟩) aq.2.1 aq.2.2.1 aq.2.2.2 b3 c3 λk l e=>c1 ⟨k,l,e⟩;exact O.act am hi K hm be U b6
  .subst a9;have ca:Fits (loc (.ph p) (S i)) (w.at d):=by
    have:=O.Ct.fits i a7;unfold loc;split;exact⟨λb o a4=>(by cases a4),λb o a4=>(by cases a4),λb hb=>V⟩;exact this
   let⟨g',s',w',es,aw,ay,cc,ce,ci,co⟩:=hgo (w.at d) ca;exact O.own am hi K hm aw ay cc ce ci co (by rw[a8];exact⟨f0,_,rfl,rfl⟩)
theorem Inv.run(Z:∀k v E E',Le E E'->F.msg k v E->F.msg k v E'):∀(K:Mu) (gs:Array Goroutine) (w:World) (sl:Option (Nat×Nat)) (t:Trace) (φ:Nat->Nx) (r:Nat->Rk) (bt:Nat->Bool) (S:Nat->St) (Sh:Nat->Prop) (j:Nat) (c:Bool) (v wt' sm:Nat) (m:M4) (q:Nat) (f:Nat->Value),
  mu F gs.size φ m q r bt=K->Inv P F B gs w t φ r bt S Sh j c v wt' sm m q f->∃n gs' w' O U,runNT P n (crowd gs w sl) t=(.next (crowd gs' w' O),U)/\TI P F B gs' w' U:=by
 intro K
 induction K using Mu.wf.induction with
 | _ K ac=>
  intro gs w sl t φ r bt S Sh j c v wt' sm m q f ag h;let⟨gs',w',O,u,Y,hh⟩:=h.step (sl:=sl) Z;rcases hh with⟨φ',r',al,S',am,ap,aq,v',av,sm',m',q',aw,ay,az⟩ | a0;let⟨n,a1,a2,a3,a4,a5,a6⟩:=ac _ (ag▸az) gs' w' O (t++u) φ' r' al S' am ap aq v' av sm' m' q' aw V ay;exact⟨n+1,a1,a2,a3,a4,O3 Y a5,a6⟩;exact⟨1,gs',w',O,t++u,O3 Y V,a0⟩
end
def K5(H:LH)(a b c:Nat):LH:=λx=>if x=c then none else if x=b then none else if x=a then none else H x
theorem fJ{P:Program}(F:Fam){s:St}{f₀:Nat->Value}(aw:1<=F.n)(a5:F.n<134217728)(a6:∀k v E E',Le E E'->F.msg k v E->F.msg k v E')
  (ay:F.mu≠F.wg) (az:F.fd≠F.wg) (a0:F.fd≠F.mu) (ac:s.H F.wg=some (F.IV 0 0)) (ag:s.H F.mu=some (F.IU 0 0)) (am:s.H F.fd=some (F.JD f₀))
  (a7:Way P true (Stop P F (.GZ 0)) g ⟨s.E,K5 s.H F.wg F.mu F.fd,false⟩) (a8:∀g s,F.fin g s->(Hi P).ok Q g s):(Hi P).ok Q g s:=by
 intro gs w sl t q Sh hC;have Y:0<gs.size:=(f8.1 hC.main).1;let s1:St:={s with H:=λb=>if b=F.wg then none else s.H b}
 let s2:St:={s with H:=λb=>if b=F.mu then none else s1.H b}
 have a1:lone s 0=s:=V;have c1:Cd t w gs.size (upd (lone s) 0 s1) (λb=>Sh b∨b=F.wg):=by
  have:=hC.Ct.share (i:=0) Y (b₀:=F.wg) (o₀:=F.IV 0 0) (by rw[a1];exact ac);exact this
 have c2:Cd t w gs.size (upd (upd (lone s) 0 s1) 0 s2) (λb=>(Sh b∨b=F.wg)∨b=F.mu):=by
  have:=c1.share (i:=0) Y (b₀:=F.mu) (o₀:=F.IU 0 0) (by rw[upd_same];simp[s1,ay,ag]);refine this.congr λi hi=>?_;by_cases e:i=0;subst e;simp only[upd_same];exact⟨V,V⟩;have h:∀(f:Nat->St) (x:St),upd f 0 x i=f i:=λf x=>upd_ne f x e;constructor<;>simp only[h]
 have c3:Cd t w gs.size (upd (upd (upd (lone s) 0 s1) 0 s2) 0 ⟨s.E,K5 s.H F.wg F.mu F.fd,false⟩) (λb=>((Sh b∨b=F.wg)∨b=F.mu)∨b=F.fd):=by
  have:=c2.share (i:=0) Y (b₀:=F.fd) (o₀:=F.JD f₀) (by rw[upd_same];simp[s2,s1,az,a0,am]);refine this.congr λi hi=>?_;by_cases e:i=0;subst e;simp only[upd_same];exact⟨V,V⟩;have h:∀(f:Nat->St) (x:St),upd f 0 x i=f i:=λf x=>upd_ne f x e;constructor<;>simp only[h]
 have Z:∀b,s.H b≠none->∀x a,touchAt t x=some a->Df a.loc=some b->Knows t 0 x:=λb hb=>hC.Ct.kH 0 Y b (by rw[a1];exact hb);have ap:=hC.Ct.fits 0 Y;obtain⟨ρ,a9⟩:=a7;let φ:Nat->Nx:=λi=>if i=0 then .ph (.GZ 0) else .gone (Deaf t i)
 have z:∀f:Nx->Nat,(∀d,f (.gone d)=0)->f (.ph (.GZ 0))=0->(sumTo gs.size λi=>f (φ i))=0:=by
  intro f a2 a3;have:=sumTo_le (f:=λi=>f (φ i)) (c:=0) (j:=gs.size) λi _=>by
   show f (φ i)<=0;by_cases e:i=0;simp[φ,e,a3];simp[φ,e,a2]
  omega
 have O:∀f:LP->Nat,Sg f gs.size φ=0:=λf=>z (DL f) (λ_=>rfl) rfl;have bb:∀i,(upd (upd (upd (lone s) 0 s1) 0 s2) 0 ⟨s.E,K5 s.H F.wg F.mu F.fd,false⟩) i=if i=0 then⟨s.E,K5 s.H F.wg F.mu F.fd,false⟩ else .quiet:=by
  intro i;by_cases e:i=0;subst e;rw[upd_same];rfl;rw[upd_ne _ _ e,upd_ne _ _ e,upd_ne _ _ e];simp[lone,e]
 have be:F.IV (Fam.word 0 0) (0:Nat)=F.IV 0 0:=by simp[Fam.word]
 have bi:F.IU M4.zero.num (0:Nat)=F.IU 0 0:=by simp[M4.num,M4.zero]
 have a4:∀i,i<gs.size->(i=0∨gs.size<=i)->i=0:=λi hi al=>by omega
 have bn:Inv P F ⟨gs.size,t.size,s.E,w⟩ gs w t φ (λi=>if i=0 then ρ else chain (q i)) (λ_=>true) (upd (upd (upd (lone s) 0 s1) 0 s2) 0 ⟨s.E,K5 s.H F.wg F.mu F.fd,false⟩) (λb=>((Sh b∨b=F.wg)∨b=F.mu)∨b=F.fd) 0 false 0 0 0 M4.zero 0 f₀:=by
  refine⟨?_,⟨?_,λi hi=>?_⟩,⟨λi hi=>?_,λi hi=>hC.lv.above i hi,λx a b K hb aq U i hi al=>?_,λx a b K hb aq U=>?_,λx a K hb=>.inl λi hi al=>?_,λx g bo bv bw=>.inl (hC.over x g bo bv bw),λx K e=>?_,rJ _,λk U=>by omega⟩,λi g' av=>?_,c3,.inl (.inl (.inr V)),.inl (.inr V),.inr V,ay,az,a0,a5,by simp[φ],?_,?_,ap.h _ _ am,λi hi hb=>(by cases hb),λk U=>(by omega),?_,V,.refl _,V⟩
  .rw [Kx];refine⟨Y,aw,by omega,by simp,sC _,by simp,⟨.GZ 0,V,V,aw,V⟩,λi a2 a3=>?_,λk U=>by omega,by simp,?_,by simp[φ,pend],?_,λk U=>by omega,.nil,λk U=>by cases U⟩
   .have:i≠0:=by omega
    simp[φ,this,Qk]
   have:=z cU (λ_=>rfl) rfl;simp only[rU,sY];rw[this];simp[φ,pend];simp only[rY,sI,Em];exact⟨z cL (λ_=>V) V,z cS (λ_=>V) V,trivial,trivial,trivial⟩
  rw[O,O,O,O,O,O,O,O];simp[LN,M4.zero];by_cases e:i=0;simp[φ,e,Q2];simp[φ,e,Q2];by_cases e:i=0;subst e;simp[φ,Gv];exact hC.hears;simp[φ,e,Gv];obtain rfl:=a4 i hi al;rcases aq with rfl | rfl;exact Z _ (by rw[ac];simp) x a K hb;exact Z _ (by rw[ag];simp) x a K hb;rcases aq with rfl | rfl;exact Z _ (by rw[ac];simp) x a K hb;exact Z _ (by rw[ag];simp) x a K hb;obtain rfl:=a4 i hi al;exact Z _ (by rw[am];simp) x a K hb;have:=lt_of_act? e;have c5:t.size<=x:=K;omega
  .rw [bb];by_cases e:i=0;subst e;rw[hC.main] at av;obtain rfl:=f6 av;simp only[sO,φ];exact .walk V (λh=>by cases h) a9
   .have hm:(i==0)=false:=by rw[vl];exact e
    simp only[e,sI,φ];exact .gone hm (hC.lv.old i g' (by omega) av)
  show w.heap[F.wg]?=_;rw[be];exact ap.h _ _ ac;show w.heap[F.mu]?=_;rw[bi];exact ap.h _ _ ag;rw[upd_same];exact Le.refl _
 let⟨n,gs',w',bx,bz,b0,q',b1,g',s',b2,b3,hle,b4,b5,b6⟩:=Inv.run a6 _ _ _ sl _ _ _ _ _ _ _ _ _ _ _ _ _ _ V bn;let⟨n2,ca,w2,cc,t2,ce,ci,g2,co,k1,cp,ct,cw,cy,c0,c4⟩:=a8 g' s' b3 gs' w' bx bz q' b1 b2;refine⟨n+n2,ca,w2,cc,t2,ce,ci,g2,co,?_,cp,ct,λb o h=>cw b o (hle b o h),cy.trans b4,b5.trans c0,c4.trans b6⟩;rw[runNT_add,b0];exact k1
end Pal
namespace Pal
open Go Go.Conc
variable {ops:Ao_}{i:Nat}{rest:List Nat}{d:Option Tmp}{f:FuncId}{args:Array Operand}{ats:Array TypeId}{ty:TypeId}{pp:String}{af:Ae_}{g:On_}{vs:Lv_}{p q:Ph}
variable{fn:Func}{w:World}{sm v':Nat}{T:Av_}{ad:Addr}
section
variable {P:Program}{F:Fam}{J:Judge P}{Q:GP}{n:Nat}{L L':Env}{ds:Ld_}{k:Li_}{cs:Lf_}{s s':St}{b:Frame}{main:Bool}
theorem B2(hb:b.roundOf=none)(T:Av_)(todo:Li_):fr b T ds todo=b.at ⟨T,ds⟩ todo:=by simp[fr,Frame.at,hb]
theorem MN(hb:b.roundOf=none)(T:Av_)(todo:Li_):EZ b T ds todo={b.at ⟨T,ds⟩ todo with mode:=.returning}:=by simp[EZ,Frame.at,hb]
theorem Fs(T:Av_)(ds:Ld_)(x:Operand):(⟨T,ds⟩:Act).eval x=BK T x:=by cases x<;>rfl
theorem EL(T:Av_)(ds:Ld_)(d:Option Tmp)(v:Value):(⟨T,ds⟩:Act).put d v=⟨C6 T d v,ds⟩:=by cases d<;>rfl
def JO(J:Judge P)(Q:GP)(b:Frame)(n:Nat)(L:Env)(ds:Ld_)(cs:Lf_)(s:St):Prop:=
 ∀T,Has n L T->∀todo,J.ok Q (G (EZ b T ds todo) cs) s
theorem JL.out(K:b.roundOf=none)(h:JO J Q b n L ds cs s):JL J Q b n L ds [] cs s:=λT O=>
 Judge.DU V (λw=>by simp[G,stepG,stepG.exec,fr,EZ,K]) (h T O [])
theorem HX(K:b.roundOf=none)(h:JO J Q b n L ds cs s):JL J Q b n L ds (.code .ret::k) cs s:=λT O=>
 Judge.DU V (λw=>by simp[G,stepG,stepG.exec,fr,EZ,K]) (h T O (.code .ret::k))
theorem JO.leave{c:Frame}{v:Value}(O:b.kind=.normal)(K:BL P b.fn L n s v)(h:J.ok Q (G (c.finish v) cs) s):JO J Q b n L [] (c::cs) s:=λT U todo=>by
 obtain⟨fn,Y,K⟩:=K
 exact Judge.leave O Y (K T U) h
theorem JO.leaveD{c:Frame}(O:b.kind=.deferred)(U:P.funcs[b.fn]?=some fn)(K:fn.results=#[])(Y:c.mode=.returning∨c.mode=.panicking [goexitEntry])(h:J.ok Q (G c cs) s):JO J Q b n L [] (c::cs) s:=λT ac todo=>by
 refine Judge.DU rfl (λw=>?_) h
 have Z:=results_none K T P w
 have e2:=λ(x:Array Event)=>events_results_none (P:=P) (w:=w) K T x
 rcases Y with e | e<;>simp[G,stepG,unwind,EZ,U,Z,e2,doReturn,O,GStep.after,seen_none,e,goexitEntry]
theorem JO.enter{f:FuncId}{c:Code}{vs:Lv_}(O:b.roundOf=none)(Y:P.funcs[f]?=some fn)(Z:(fn.name== "runtime.NumGoroutine")=false)(hb:fn.body=some c)(am:vs.length<=fn.ntmps)
  (h:∀T,Has n L T->∀todo,JL J Q (baseD f) fn.ntmps (GY 0 vs) [] [.code c] (EZ b T ds todo::cs) s):JO J Q b n L (dcall f vs.toArray::ds) cs s:=λT ac todo=>by
 refine Judge.DU rfl (λw=>?_) (h T ac todo (vs.toArray++Array.replicate (fn.ntmps - vs.length) undef) ⟨by simp;omega,λt v ag=>?_⟩)
 .rw [MN O,stepG_unwind_enter (a:=⟨T,dcall f vs.toArray::ds⟩) rfl Y Z hb,MN O]
  rw[B2 (b:=baseD f) rfl];simp
 .let⟨_,K⟩:=KY ag;have al:t<vs.length:=by
   rcases jH t vs.length with U | U;exact U;simp at K;have:=(d7.1 K).1;omega
  rw[j8,s0 (by simpa using al)];simp at K;simp[K]
theorem JL.defer{ops:Ao_}{i:Nat}{rest:List Nat}{d:Option Tmp}{f:FuncId}{args:Array Operand}{ats:Array TypeId}{ty:TypeId}{p:String}{af:Ae_}{g:On_}{vs:Lv_}
  (U:ops[i]?=some ⟨d,.defer ⟨.value (.func f),args,ats⟩,ty,p,af,g⟩) (Y:b.roundOf=none) (hw:A2 L ops ⟨d,.defer ⟨.value (.func f),args,ats⟩,ty,p,af,g⟩=some true) (K:((b.kind != .early)&&Bz n d)=true)
  (Z:evs L args.toList=some vs) (h:JL J Q b n (AA L d undef) (dcall f vs.toArray::ds) (.inRegion ops rest::k) cs s):
  JL J Q b n L ds (.inRegion ops (i::rest)::k) cs s:=λT O=>by
 simp only[f5] at K
 have ac:args.map (BK T)=vs.toArray:=by
  rw[← GF O.GJ Z];apply s5;simp
 refine Judge.oper U (Cn O hw) (by simpa using K.1) (.inl Y) ?_;have hd:execOp (BK T) ⟨d,.defer ⟨.value (.func f),args,ats⟩,ty,p,af,g⟩=.pure (.defer (dcall f vs.toArray)):=by
  simp only[execOp,resolve,bind,Sem.bind,Deferred.ofValue,BK,pure,dcall];rw[ac];simp
 rw[hd];exact h _ (O.put K.2 undef)
def MY:Ph->Bool
 | .Ia _ | .Gu _ | .HG | .Gr _ _ | .IJ | .Gc | .G3 | .lk _ _=>false
 | _=>true
theorem JV{p:Ph}{g:Goroutine}(K:MY p=true)(Y:g.status=.running)(Z:g.offers=none)(O:if Fam.Dd p=true then s=.quiet else s.q=false)(ac:p=.F0->mayWake P g=true)
  (h:∀v wt sm v' wt' sm' es U,F.act p v wt sm=some ((v',wt',sm'),es,U)->∃g',(∀w,F.WG w v wt sm->stepG P (Fam.CU p) g w=.go g' (F.put w v' wt' sm') es)/\g'.status=.running/\OE P (Stop P F) (Fam.CU p) U g' (Fam.KJ p s)):Stop P F p g s:=
 HQ.stop {
  run:=Y
  offers:=Z
  quiet:=λe=>by rw[d6 e] at O;exact O
  live:=λe=>by rw[d0 (by rw[e];simp)] at O;exact O
  act:=h
  J8:=λe=>by rcases e with e | ⟨k,b,e⟩;exact ac e;subst e;cases K
  FU:=λe=>by subst e;cases K
  go:=λj e=>by subst e;cases K
  lk:=λk l e=>by subst e;cases K
  CL:=λk sv e=>by subst e;cases K
  store:=λk e=>by subst e;cases K
  fin:=λe=>by subst e;cases K}
theorem MO{v wt:Nat}(h:F.WG w v wt sm):F.put w v wt sm=w:=by
 unfold Fam.put;have:w.heap.setIfInBounds F.wg (F.IV (Fam.word v wt) sm)=w.heap:=by
  apply sK;intro i;by_cases e:F.wg=i
  .subst e;unfold Fam.WG at h;have O:F.wg<w.heap.size:=by
    rcases jH F.wg w.heap.size with K | K;exact K;simp[rZ K] at h
   rw[rR O,h]
  .rw [mt e]
 rw[this]
theorem JZ{v wt:Nat}(h:F.WG w v wt sm):w.cell? F.sA=some (.int .u64 (Fam.word v wt))/\w.cell? F.mA=some (.int .u32 sm)/\w.frozen? F.sA=false/\w.frozen? F.mA=false:=by
 unfold Fam.WG Fam.IV at h;refine⟨?_,?_,?_,?_⟩;simp[World.cell?,Fam.sA,h];simp[World.cell?,Fam.mA,h];simp[World.frozen?,Fam.sA,h];simp[World.frozen?,Fam.mA,h]
theorem O5{v wt wt':Nat}(h:F.WG w v wt sm):w.setCell F.sA (.int .u64 (Fam.word v' wt'))=F.put w v' wt' sm:=by
 unfold Fam.put World.setCell;congr 1;apply sK;intro i;unfold Fam.WG Fam.IV at h;rw[tu];have O:F.wg<w.heap.size:=by
  rcases jH F.wg w.heap.size with K | K;exact K;simp[rZ K] at h
 by_cases e:F.wg=i;subst e;rw[rR O,h];simp[Fam.sA,Fam.IV];rw[mt e];simp[Fam.sA,e]
theorem UG{v wt sm':Nat}(h:F.WG w v wt sm):w.setCell F.mA (.int .u32 sm')=F.put w v wt sm':=by
 unfold Fam.put World.setCell;congr 1;apply sK;intro i;unfold Fam.WG Fam.IV at h;rw[tu];have O:F.wg<w.heap.size:=by
  rcases jH F.wg w.heap.size with K | K;exact K;simp[rZ K] at h
 by_cases e:F.wg=i;subst e;rw[rR O,h];simp[Fam.mA,Fam.IV];rw[mt e];simp[Fam.mA,e]
structure BV (P:Program) (f:FuncId) (e:Av_->Sem Value):Prop where
 h:∃fn,P.funcs[f]?=some fn/\(fn.name== "runtime.NumGoroutine")=false/\fn.body.isNone=true/\Extern.findNext fn=none/\Extern.find fn=some e
theorem Lo(K:Has n L T)(O:evs L args.toList=some vs):args.map (⟨T,ds⟩:Act).eval=vs.toArray:=by
 have:(⟨T,ds⟩:Act).eval=BK T:=funext λx=>Fs T ds x;rw[this,← GF K.GJ O];apply s5;simp
theorem NM{m:Mark}(Z:MY p=true)(ac:if Fam.Dd p=true then s=.quiet else s.q=false)(ag:p≠ .F0)(al:∀v wt sm,F.act p v wt sm=some ((v,wt,sm),#[Fam.CX m],.ph q))(am:Fam.KJ p s=s)
  (ap:ops[i]?=some ⟨d,.call ⟨.value (.func f),args,ats⟩,ty,pp,af,g⟩) (O:b.roundOf=none) (hw:A2 L ops ⟨d,.call ⟨.value (.func f),args,ats⟩,ty,pp,af,g⟩=some true) (K:((b.kind != .early)&&Bz n d)=true)
  (hm:∀x,m≠ .extern x) (he:BV P f (λ_=>do mark m;pure Extern.Race.none_))
  (h:JL (A9 P (Fam.CU p)) (Stop P F q) b n (AA L d (.tuple #[])) ds (.inRegion ops rest::k) cs s):
  JL (A9 P (Fam.CU p)) (Stop P F p) b n L ds (.inRegion ops (i::rest)::k) cs s:=λT U=>by
 simp only[f5] at K
 obtain⟨fn,aq,av,hb,aw,he⟩:=he.h
 refine(A9 P _).stop (JV Z rfl rfl ac (λe=>absurd e ag) λv wt sm v' wt' sm' es az Y=>?_)
 rw[al] at Y;cases Y
 refine⟨_,λw ay=>?_,rfl,by rw[am];exact h _ (U.put K.2 _)⟩
 rw[B2 O,B2 O,stepG_mark0 (a:=⟨T,ds⟩) m hm ap (Cn U hw) (by simpa using K.1) rfl aq av hb aw he,MO ay,EL]
 rfl
theorem RR{mk:Addr->Mark}(Z:MY p=true)(ac:if Fam.Dd p=true then s=.quiet else s.q=false)(ag:p≠ .F0)(al:∀v wt sm,F.act p v wt sm=some ((v,wt,sm),#[Fam.CX (mk ad)],.ph q))
  (am:ops[i]?=some ⟨d,.call ⟨.value (.func f),args,ats⟩,ty,pp,af,g⟩) (U:b.roundOf=none) (hw:A2 L ops ⟨d,.call ⟨.value (.func f),args,ats⟩,ty,pp,af,g⟩=some true) (K:((b.kind != .early)&&Bz n d)=true)
  (hm:∀ad x,mk ad≠ .extern x) (he:BV P f (Extern.Race.marked mk)) (ap:evs L args.toList=some vs) (aq:vs[0]?=some (.pointer (some ad)))
  (h:JL (A9 P (Fam.CU p)) (Stop P F q) b n (AA L d (.tuple #[])) ds (.inRegion ops rest::k) cs (Fam.KJ p s)):
  JL (A9 P (Fam.CU p)) (Stop P F p) b n L ds (.inRegion ops (i::rest)::k) cs s:=λT O=>by
 simp only[f5] at K
 obtain⟨fn,av,aw,hb,ay,he⟩:=he.h
 refine(A9 P _).stop (JV Z rfl rfl ac (λe=>absurd e ag) λv wt sm v' wt' sm' es a0 Y=>?_)
 rw[al] at Y;cases Y
 refine⟨_,λw az=>?_,rfl,h _ (O.put K.2 _)⟩
 rw[B2 U,B2 U,stepG_markAt (a:=⟨T,ds⟩) mk hm am (Cn O hw) (by simpa using K.1) rfl av aw hb ay he (ad:=ad) (by rw[Lo O ap];simpa using aq),MO az,EL]
 rfl
end
variable {E:LH}{S:List Seg}{j l:Nat}{o':Obj}
section
variable {H:LH}{o:Obj}
theorem LZ(ap:Av E H S)(Y:S[j]?=some [(l,o)])(o':Obj):(Ak E H S).upd l o'=Ak E H (S.set j [(l,o')])/\Av E H (S.set j [(l,o')]):=by
 let⟨K,Z⟩:=HB ap Y;have U:=Nd.iff.1 Z;have ac:E l=none:=(U.2 (l,o) (by simp)).1;have aq:H l=none:=(U.2 (l,o) (by simp)).2;have ag:Nd E H (S.set j []).flatten:=LQ.Nd.left Z;have av:∀q∈(S.set j []).flatten,q.1≠l:=λq O e=>by
  have:=U.1;rw[sB,sR] at this;exact this.2.2 q.1 (uC O) l (by simp) e
 have al:By (S.set j []).flatten H l=none:=by
  have key:∀(B:List (Nat×Obj)),(∀q∈B,q.1≠l)->By B H l=none:=by
   intro B
   induction B with
   | nil=>intro _;exact aq
   | cons q B aw=>
    intro O;obtain⟨c,ay⟩:=q;have am:l≠c:=λe=>O (c,ay) (by simp) e.symm;have K:=aw λq' az=>O q' (f4 _ az);simp only[By]
    first
    | rw[d0 am];exact K
    | rw[d0 (sy am)];exact K
  exact key _ av
 have f1:=K1 (E:=E) (H:=H) (B:=(S.set j []).flatten) (r:=l) ac al o ag;have f2:=K1 (E:=E) (H:=H) (B:=(S.set j []).flatten) (r:=l) ac al o' ag;let⟨a0,g2⟩:=J3 (seg:=[(l,o)]) Y f2.1;refine⟨?_,g2⟩;rw[K,← a0,← f1.2,← f2.2];unfold St.upd;congr 1;funext x;by_cases a1:x=l<;>simp[a1]
end
variable {P:Program}{J:Judge P}{Q:Gs_}{b:Frame}{L:Env}{ds:Ld_}{k:Li_}{cs:Lf_}
variable{r:Loop}{caps:Lv_}
section
variable {n:Nat}{H:LH}
theorem Judge.FU{α:Type}{g:Goroutine}{g':α->Goroutine}{s:St}(x:Sem α)(ac:s.q=false)(ag:g.status=.running)
  (al:∀w a w',x.run P w=.ok a w'->∃es,stepG P J.main g w=.go (g' a) w' es/\∀e∈es,e∈x.events P w #[])
  (h:lp P x s (λa s'=>J.ok Q (g' a) s') (λ_ _=>False)):J.ok Q g s:=by
 refine J.step ⟨ag,λw f=>?_,λe=>by subst e;cases ac⟩;let⟨s',O,U,Y,K⟩:=Pk _ h f;cases Z:x.run P w with
 | ok a w'=>
  rw[Z] at O U Y K;simp only[Mp] at O U Y;let⟨es,he,hm⟩:=al w a w' Z;exact⟨g' a,s',w',es,he,K,O,U,λe am=>Y e (hm e am)⟩
 | halt a w'=>rw[Z] at K;exact K.elim
theorem O6{s:St}{K:Loop->St->Prop}{X:Halt->St->Prop}(h:s.get l=some (.loop r))(k:K r s):lp P (Instr.getLoop l) s K X:=by
 unfold Instr.getLoop getObj;simp only[bind,Sem.bind,lp];exact⟨_,h,V,k⟩
theorem Zt(j:Nat)(K:Av E H S)(O:S[j]?=some [(l,.loop r)])(U:(r.state== .busy)=false)(Y:r.pending=none)
  (h:Av E H (S.set j [(l,.loop {r with state:=.exhausted})])->J.ok Q (G (fr b T ds k) cs) (Ak E H (S.set j [(l,.loop {r with state:=.exhausted})]))):
  J.ok Q (G (fr b T ds (.endRangeFunc l::k)) cs) (Ak E H S):=by
 let⟨Z,ac⟩:=LZ K O (.loop {r with state:=.exhausted});have ag:lp P (Instr.endLoop l) (Ak E H S) (λa s'=>a=none/\s'=Ak E H (S.set j [(l,.loop {r with state:=.exhausted})])) (λ_ _=>False):=by
  unfold Instr.endLoop;refine Ay _ _ (O6 (Ed (i:=0) K O V) ?_);rw[d0 (by rw[U];simp)];have al:(Ak E H S).H l=some (.loop r):=by
   have:=Ed (i:=0) K O V;have am:E l=none:=QA K O;unfold St.get at this;rw[show(Ak E H S).E l=none from am] at this;exact this
  simp only[bind,Sem.bind,lp,setObj,pure];refine⟨⟨_,al,V⟩,V,Y,?_⟩;exact Z
 refine Judge.FU (g':=λap=>G (fr b T ds ((ap.map Item.code).toList++k)) cs) (Instr.endLoop l) V V (λw a w' aq=>?_) (Es _ ag (λa s' ⟨av,aw⟩=>by subst av aw;exact h ac) (λ_ _ h=>h));refine⟨seen P b.fn ((Instr.endLoop l).events P w #[])++ #[],?_,λe he=>?_⟩;simp[G,stepG,stepG.exec,fr,aq,GStep.after];exact mem_seen (by simpa using he)
def Yc(l:Nat)(f:FuncId):Frame:={(default:Frame) with fn:=f,kind:=.normal,roundOf:=some l}
theorem HP.yield{t:Tmp}{v:Value}{B:Seg}{R:Value->LH->Seg->Prop}{i:Nat}(K:B[i]?=some (l,.loop r))(O:r.params=#[t])
  (h:∀(Q:Gs_) (U:Frame) (cs:Lf_) (H:LH),Av E H [B]->(∀w E' S' B',Le E E'->S'.flatten=B'->R w E' B'->Av E' H S'->J.ok Q (G (U.finish w) cs) (Ak E' H S'))->
   J.ok Q (G (fr (Yc l r.fn) (r.tmps.setIfInBounds t v) [] [.code r.assign,.beginRound,.code r.body]) (U::cs)) (Ak E H [B])):
  HP J (.func (.yield l) #[] #[]) [v] E B R:=λH Y Q c cs Z=>by
 have ac:(mk E H B).get l=some (.loop r):=RE Y K
 simp only[Deferred.ofValue,bind,Sem.bind,pure,invoke]
 unfold Instr.yield
 refine Ay _ _ (O6 ac ?_)
 have ag:¬((#[]:Av_)++ [v].toArray).size≠r.params.size:=by rw[O];simp
 rw[d0 ag];have e2:((r.params.zip ((#[]:Av_)++ [v].toArray)).foldl (λtmps (t,a)=>tmps.setIfInBounds t a) r.tmps)=r.tmps.setIfInBounds t v:=by rw[O];simp[Array.zip,Array.zipWith,Array.zipWithMAux]
 simp only[lp,pure];have al:mk E H B=Ak E H [B]:=by unfold Ak;simp
 rw[e2,al];exact h Q c cs H (by unfold Av;simpa using Y) λw E' S' B' hle K am ap=>by
  subst K;exact Z w _ ⟨E',S'.flatten,hle,am,ap,rfl⟩
theorem JL.beginRound(j:Nat)(U:b.roundOf=some l)(Y:b.kind=.normal)(K:Av E H S)(O:S[j]?=some [(l,.loop r)])(Z:r.state=.ready)
  (h:Av E H (S.set j [(l,.loop {r with state:=.busy})])->JL J Q b n L ds k cs (Ak E H (S.set j [(l,.loop {r with state:=.busy})]))):
  JL J Q b n L ds (.beginRound::k) cs (Ak E H S):=λT ac=>by
 let⟨ag,al⟩:=LZ K O (.loop {r with state:=.busy})
 have am:lp P (Instr.beginRound l) (Ak E H S) (λ_ s'=>s'=Ak E H (S.set j [(l,.loop {r with state:=.busy})])) (λ_ _=>False):=by
  unfold Instr.beginRound;refine Ay _ _ (O6 (Ed (i:=0) K O rfl) ?_);have ap:(Ak E H S).H l=some (.loop r):=by
   have:=Ed (i:=0) K O rfl;have aq:E l=none:=QA K O;unfold St.get at this;rw[show(Ak E H S).E l=none from aq] at this;exact this
  simp only[bind,Sem.bind,lp,setObj,pure,Z];exact⟨⟨_,ap,rfl⟩,rfl,ag⟩
 refine Judge.FU (g':=λ_=>G (fr b T ds k) cs) (Instr.beginRound l) rfl rfl (λw a w' av=>?_) (Es _ am (λa s' aw=>by subst aw;exact h al T ac) (λ_ _ h=>h));refine⟨seen P b.fn ((Instr.beginRound l).events P w #[])++ #[],?_,λe he=>?_⟩;simp[G,stepG,stepG.exec,fr,stepG.apply,U,Y,av,GStep.after,Frame.finish];exact mem_seen (by simpa using he)
theorem Lj{o:Obj}{seg:Seg}(K:Av E H S)(O:S[j]?=some ((l,o)::seg)):(Ak E H S).H l=some o:=by
 have:=Ed (i:=0) K O V;have U:E l=none:=QA K O;unfold St.get at this;rw[show(Ak E H S).E l=none from U] at this;exact this
theorem JL.endRound{c:Frame}(j:Nat)(U:b.roundOf=some l)(Y:b.kind=.normal)(K:Av E H S)(O:S[j]?=some [(l,.loop r)])
  (h:Av E H (S.set j [(l,.loop {r with state:=.ready,pending:=none})])->J.ok Q (G (c.finish (.bool true)) cs) (Ak E H (S.set j [(l,.loop {r with state:=.ready,pending:=none})]))):
  JL J Q b n L [] [] (c::cs) (Ak E H S):=λT aq=>by
 let⟨Z,ac⟩:=LZ K O (.loop {r with state:=.ready,pending:=none})
 have ag:lp P (Instr.endRound l none) (Ak E H S) (λa s'=>a=.bool true/\s'=Ak E H (S.set j [(l,.loop {r with state:=.ready,pending:=none})])) (λ_ _=>False):=by
  unfold Instr.endRound;refine Ay _ _ (O6 (Ed (i:=0) K O rfl) ?_);simp only[bind,Sem.bind,lp,setObj,pure];exact⟨⟨_,Lj K O,rfl⟩,rfl,rfl,Z⟩
 refine Judge.FU (g':=λv=>G (c.finish v) cs) (Instr.endRound l none) rfl rfl (λw a w' al=>?_) (Es _ ag (λa s' ⟨am,ap⟩=>by subst am ap;exact h ac) (λ_ _ h=>h));refine⟨seen P b.fn ((Instr.endRound l none).events P w #[])++ #[],?_,λe he=>?_⟩;simp[G,stepG,stepG.exec,fr,U,Y,al,GStep.after,doReturn];exact mem_seen (by simpa using he)
theorem JL.rangeFunc{x:Operand}{params:Array Tmp}{as O:Code}{f:FuncId}(aq:b.roundOf=none)(av:b.kind≠ .early)(ag:ev L x=some (.func (.func f) #[] caps.toArray))(hb:El P f=true)(aw:Av E H S)
  (h:∀K l T,Has n L T->Av E H (S++ [[(K,.deferred (some []))]]++ [[(l,.loop ⟨.ready,none,b.fn,T,params,as,O,K⟩)]])->
   J.ok Q (G (Frame.enter P f (.func (.yield l) #[] #[]::caps).toArray .normal) (fr b T (⟨.collected K,#[]⟩::ds) (.inRangeFunc l::k)::cs)) (Ak E H (S++ [[(K,.deferred (some []))]]++ [[(l,.loop ⟨.ready,none,b.fn,T,params,as,O,K⟩)]]))):
  JL J Q b n L ds (.code (.rangeFunc x params as O)::k) cs (Ak E H S):=λT al=>by
 have ay:lp P (Instr.enterLoop b.fn T params as O b.roundOf) (Ak E H S) (λq s'=>∃K,q.2=[⟨.collected K,#[]⟩]/\Av E H (S++ [[(K,.deferred (some []))]]++ [[(q.1,.loop ⟨.ready,none,b.fn,T,params,as,O,K⟩)]])/\s'=Ak E H (S++ [[(K,.deferred (some []))]]++ [[(q.1,.loop ⟨.ready,none,b.fn,T,params,as,O,K⟩)]])) (λ_ _=>False):=by
  unfold Instr.enterLoop;rw[aq];simp only[newObj,bind,Sem.bind,lp,pure];refine⟨rfl,λK Y Z=>?_⟩;let⟨ac,az⟩:=K1 Y Z (.deferred (some [])) aw;let⟨p1,p2⟩:=F6 ac;have a0:(Ak E H S).upd K (.deferred (some []))=Ak E H (S++ [[(K,.deferred (some []))]]):=by rw[← p1,← az];rfl
  rw[a0];refine⟨rfl,λl a1 a2=>?_⟩;let⟨a3,a4⟩:=K1 a1 a2 (.loop ⟨.ready,none,b.fn,T,params,as,O,K⟩) p2;let⟨p3,p4⟩:=F6 a3;exact⟨K,rfl,p4,by rw[← p3,← a4];rfl⟩
 refine Judge.FU (g':=λq=>G (Frame.enter P f (.func (.yield q.1) #[] #[]::caps).toArray .normal) (fr b T (q.2++ds) (.inRangeFunc q.1::k)::cs)) (Instr.enterLoop b.fn T params as O b.roundOf) rfl rfl (λw a w' a5=>?_) (Es _ ay (λa s' ⟨K,Y,Z,ac⟩=>by subst ac;simp only[Y];exact h K a.1 T al Z) (λ_ _ h=>h));obtain⟨l,mk⟩:=a;have a6:BK T x=.func (.func f) #[] caps.toArray:=al.ev ag;obtain⟨fn,U,a7,am⟩:∃fn,P.funcs[f]?=some fn/\(fn.name== "runtime.NumGoroutine")=false/\fn.body.isNone=false:=by
  unfold El at hb;cases U:P.funcs[f]? with
  | none=>rw[U] at hb;cases hb
  | some fn=>
   rw[U] at hb;simp only[f5,ua] at hb;exact⟨fn,rfl,hb.1,by cases ag:fn.body<;>simp_all⟩
 refine⟨seen P b.fn ((Instr.enterLoop b.fn T params as O b.roundOf).events P w #[])++ #[],?_,λe he=>?_⟩
 .have ap:=VI (b:=b) (ds:=mk++ds) T (.inRangeFunc l::k);simp only[fr] at ap;have a8:¬fn.name= "runtime.NumGoroutine" :=by simpa using a7
  have a9:¬fn.body=none:=by intro e;rw[e] at am;cases am
  have bb:BK T (.const (.func (.yield l) #[] #[]))=.func (.yield l) #[] #[]:=rfl;simp[G,stepG,stepG.exec,fr,a5,GStep.after,stepG.apply,resolve,ap,a6,Deferred.ofValue,invoke,callFunc,U,a8,a9,av,bb,seen_none]
 .exact mem_seen (by simpa using he)
theorem JO.collected{K:Nat}(j:Nat)(aq:b.roundOf=none)(O:Av E H S)(U:S[j]?=some [(K,.deferred (some []))])
  (h:Av E H (S.set j [(K,.deferred none)])->JO J Q b n L ds cs (Ak E H (S.set j [(K,.deferred none)]))):JO J Q b n L (⟨.collected K,#[]⟩::ds) cs (Ak E H S):=λT Y todo=>by
 let⟨Z,ac⟩:=LZ O U (.deferred none)
 have ag:lp P (Instr.takeDeferred K) (Ak E H S) (λa s'=>a=[]/\s'=Ak E H (S.set j [(K,.deferred none)])) (λ_ _=>False):=by
  unfold Instr.takeDeferred getObj;simp only[bind,Sem.bind,lp,setObj,pure];exact⟨_,Ed (i:=0) O U rfl,rfl,⟨_,Lj O U,rfl⟩,rfl,rfl,Z⟩
 refine Judge.FU (g':=λl=>G (EZ b T (l++ds) todo) cs) (Instr.takeDeferred K) rfl rfl (λw a w' al=>?_) (Es _ ag (λa s' ⟨am,ap⟩=>by subst am ap;exact h ac T Y todo) (λ_ _ h=>h));refine⟨seen P b.fn ((Instr.takeDeferred K).events P w #[])++ #[],?_,λe he=>?_⟩;simp[G,stepG,unwind,EZ,al,GStep.after];exact mem_seen (by simpa using he)
def Mr(f:FuncId)(args caps:Av_):Deferred:={target:=.fn (.func f) caps,args:=args}
theorem JO.S9{f:FuncId}{c:Code}{vs:Lv_}(ap:b.roundOf=none)(O:P.funcs[f]?=some fn)(Y:(fn.name== "runtime.NumGoroutine")=false)(hb:fn.body=some c)(Z:(vs++caps).length<=fn.ntmps){s:St}
  (h:∀T,Has n L T->∀todo,JL J Q (baseD f) fn.ntmps (GY 0 (vs++caps)) [] [.code c] (EZ b T ds todo::cs) s):JO J Q b n L (Mr f vs.toArray caps.toArray::ds) cs s:=λT ac todo=>by
 have ag:¬fn.name= "runtime.NumGoroutine" :=by simpa using Y
 refine Judge.DU rfl (λw=>?_) (h T ac todo ((vs++caps).toArray++Array.replicate (fn.ntmps - (vs++caps).length) undef) ⟨by simp;simp at Z;omega,λt v al=>?_⟩);rw[B2 (b:=baseD f) rfl];have:=enter_atD (P:=P) (vs++caps).toArray O hb;simp only[tS] at this;rw[← this];simp[G,stepG,unwind,callDeferred,EZ,Mr,invoke,callFunc,O,ag,hb,GStep.after,seen_none]
 .let⟨_,K⟩:=KY al;have am:t<(vs++caps).length:=by
   rcases jH t (vs++caps).length with U | U;exact U;simp only[tO] at K;have:=(d7.1 K).1;omega
  rw[j8,s0 (by simpa using am)];simp only[tO] at K;rw[si,K];rfl
theorem ar{ops:Ao_}{i:Nat}{rest:List Nat}{d:Option Tmp}{x:Operand}{f:FuncId}{args:Array Operand}{ats:Array TypeId}{ty:TypeId}{p:String}{af:Ae_}{g:On_}{vs:Lv_}{s:St}
  (U:ops[i]?=some ⟨d,.defer ⟨.value x,args,ats⟩,ty,p,af,g⟩) (Y:b.roundOf=none) (hw:A2 L ops ⟨d,.defer ⟨.value x,args,ats⟩,ty,p,af,g⟩=some true) (O:((b.kind != .early)&&Bz n d)=true)
  (Z:ev L x=some (.func (.func f) #[] caps.toArray)) (ac:evs L args.toList=some vs) (h:JL J Q b n (AA L d undef) (Mr f vs.toArray caps.toArray::ds) (.inRegion ops rest::k) cs s):
  JL J Q b n L ds (.inRegion ops (i::rest)::k) cs s:=λT K=>by
 simp only[f5] at O
 have ag:args.map (BK T)=vs.toArray:=by
  rw[← GF K.GJ ac];apply s5;simp
 refine Judge.oper U (Cn K hw) (by simpa using O.1) (.inl Y) ?_;have hd:execOp (BK T) ⟨d,.defer ⟨.value x,args,ats⟩,ty,p,af,g⟩=.pure (.defer (Mr f vs.toArray caps.toArray)):=by
  simp only[execOp,resolve,bind,Sem.bind,Deferred.ofValue,K.ev Z,pure,Mr];rw[ag];simp
 rw[hd];exact h _ (K.put O.2 undef)
end
variable {s:St}{ρ:Operand->Value}{x y z:Operand}{t u e:TypeId}{a:Option Addr}{c:Nat}
section
variable {p:String}
theorem O9(K:P.underlying t=some (.slice e))(O:ρ x=.slice a l c)(U:ρ (.const (.slice none 0 0))=.slice none 0 0):Yl P ⟨d,.binOp .eql t x (.const (.slice none 0 0)) u,ty,p,af,g⟩ ρ s (.bool a.isNone):=by
 refine FY (sm:=do eqGuard .eql t x (.const (.slice none 0 0)) (ρ x) (ρ (.const (.slice none 0 0)));binOp .eql t (ρ x) (ρ (.const (.slice none 0 0)))) V ?_
 rw[O,U];have Y:lp P (eqGuard .eql t x (.const (.slice none 0 0)) (.slice a l c) (.slice none 0 0)) s (λ_ s'=>s'=s) (λ_ _=>False):=by
  simp[eqGuard,lp,pure]
 refine Ay _ _ (Es _ Y ?_ (λ_ _ h=>h));rintro _ _ rfl;have hb:binOp .eql t (.slice a l c) (.slice none 0 0)=(do pure (.bool (← Op.equal t (.slice a l c) (.slice none 0 0)))):=V
 rw[hb];refine Ay (x:=Op.equal t (.slice a l c) (.slice none 0 0)) _ ?_;unfold Op.equal Op.maxDepth Op.equalIn;refine Ay _ _ (Cy K ?_);cases a<;>exact⟨rfl,rfl⟩
end
section
variable {n:Nat}
end
variable {fuel:Nat}{listed:Array Bool}
variable {v:Value}
section
variable {n m:Nat}{H:LH}
variable {p:String}
end
def Ka(P:Program)(d:Nat):GP:=λg _=>∃q,QuitsD P q d g
def Na(P:Program):Frame:={(default:Frame) with fn:=P.funcs.size,defers:=[],mode:=.panicking [goexitEntry]}
section
variable {P:Program}{F:Fam}{J:Judge P}{Q:GP}{n:Nat}{L L':Env}{ds:Ld_}{k:Li_}{cs:Lf_}{s s':St}{b:Frame}{main:Bool}
theorem Lv.quits{d:Nat}:∀{m:Nat}{g:Goroutine},Lv P (Ka P d) m g->∃q,QuitsD P q d g
 | 0,_,h=>h
 | m+1,_,h=>by
  rcases h with h | ⟨K,g',O,h⟩;exact h;obtain⟨q,U⟩:=h.quits;exact⟨q+1,.ctl K O U⟩
theorem Rv{d:Nat}{g:Goroutine}(h:(Jf P).ok (Ka P d) g .quiet):∃q,QuitsD P q d g:=by
 let⟨m,hm⟩:=h V;exact hm.quits
theorem ZF:(Jf P).ok (Ka P 0) (G (Na P) []) .quiet:=by
 refine Judge.DU (g':={frame:=Na P,callers:=[],status:=.finished,dying:=none}) V (λw=>?_) ((Jf P).stop ⟨0,V,V⟩);have K:(default:Frame).todo=[]:=V;have O:∀(m:FrameMode),Frame.catches P {fn:=P.funcs.size,tmps:=(default:Frame).tmps,todo:=[],defers:=[],mode:=m,kind:=(default:Frame).kind,roundOf:=(default:Frame).roundOf}=false:=λm=>by simp[Frame.catches]
 simp[G,stepG,unwind,Na,goexitEntry,K,O]
theorem Vu{ops:Ao_}{i:Nat}{rest:List Nat}{d:Option Tmp}{f:FuncId}{args:Array Operand}{ats:Array TypeId}{ty:TypeId}{pp:String}{af:Ae_}{g:On_}{e:Av_->Sem Value}
  (K:ops[i]?=some ⟨d,.call ⟨.value (.func f),args,ats⟩,ty,pp,af,g⟩) (he:BV P f e):mayWake P (G (fr b T ds (.inRegion ops (i::rest)::k)) cs)=true:=by
 obtain⟨fn,O,_,hb,_⟩:=he.h;have U:fn.body.isSome=false:=by cases h:fn.body<;>simp_all
 simp[mayWake,G,fr,K,Frame.eval,O,U]
theorem cB{v wt:Nat}(K:1<=v)(O:v<2147483648)(U:wt<=1):IntKind.u64.wrap (Fam.word v wt+18446744069414584320)=Fam.word (v - 1) wt:=by
 simp only[Fam.word,Fam.KK,IntKind.wrap,IntKind.bits,IntKind.signed];simp;omega
theorem dD{v:Nat}(h:v<2147483647):IntKind.u64.wrap (Fam.word v 0+4294967296)=Fam.word (v+1) 0:=by
 simp only[Fam.word,Fam.KK,IntKind.wrap,IntKind.bits,IntKind.signed];simp;omega
theorem word_inj{v wt:Nat}(h:Fam.word v wt=Fam.word v' wt):v=v':=by
 simp only[Fam.word,Fam.KK] at h;omega
theorem ei(ag:ops[i]?=some ⟨d,.call ⟨.value (.func f),#[x,y],ats⟩,ty,pp,af,g⟩)(Z:b.roundOf=none)(hw:A2 L ops ⟨d,.call ⟨.value (.func f),#[x,y],ats⟩,ty,pp,af,g⟩=some true)(O:((b.kind != .early)&&Bz n d)=true)
  (he:BV P f (Extern.Atomic.update (Op.intArith .add) .u64 true)) (al:ev L x=some (.pointer (some F.sA))) (am:ev L y=some (.int .u64 18446744069414584320))
  (ap:JL (A9 P false) (Stop P F .HE) b n (AA L d (.int .u64 (Fam.word 0 1))) ds (.inRegion ops rest::k) cs .quiet)
  (aq:∀v wt:Nat,v<2147483647->wt<=1->¬(v=0/\wt=1)->JL (Jf P) (Ka P 1) b n (AA L d (.int .u64 (Fam.word v wt))) ds (.inRegion ops rest::k) cs .quiet):
  JL (A9 P false) (Stop P F .Il) b n L ds (.inRegion ops (i::rest)::k) cs .quiet:=λT K=>by
 simp only[f5] at O
 obtain⟨fn,av,aw,hb,ay,he⟩:=he.h
 refine(A9 P _).stop (JV rfl rfl rfl rfl (by simp) λv wt sm v' wt' sm' es az U=>?_)
 simp only[Fam.act] at U
 split at U
 .rename_i Y
  cases U;refine⟨G (fr b (C6 T d (.int .u64 (Fam.word (v - 1) wt))) ds (.inRegion ops rest::k)) cs,λw ac=>?_,rfl,?_⟩
  .let⟨c1,_,c3,_⟩:=JZ ac;rw[B2 Z,B2 Z];show stepG P false _ w=_;rw[stepG_add_atomic (a:=⟨T,ds⟩) ag (Cn K hw) (by simpa using O.1) rfl av aw hb ay .u64 he (by rw[Fs];exact K.ev al) (by rw[Fs];exact K.ev am) c1 c3,cB Y.1 Y.2.1 Y.2.2,O5 ac,EL]
   rfl
  .split;rename_i e;obtain⟨rfl,rfl⟩:=e;exact ap _ (K.put O.2 _);rename_i e;exact Rv (aq (v - 1) wt (by omega) Y.2.2 (by omega) _ (K.put O.2 _))
 .cases U
theorem dW{j:Nat}(ag:s.q=false)(al:ops[i]?=some ⟨d,.call ⟨.value (.func f),#[x,y],ats⟩,ty,pp,af,g⟩)(Z:b.roundOf=none)(hw:A2 L ops ⟨d,.call ⟨.value (.func f),#[x,y],ats⟩,ty,pp,af,g⟩=some true)(O:((b.kind != .early)&&Bz n d)=true)
  (he:BV P f (Extern.Atomic.update (Op.intArith .add) .u64 true)) (am:ev L x=some (.pointer (some F.sA))) (ap:ev L y=some (.int .u64 4294967296))
  (aq:JL (A9 P true) (Stop P F (.JE j)) b n (AA L d (.int .u64 (Fam.word 1 0))) ds (.inRegion ops rest::k) cs s)
  (av:∀v:Nat,1<=v->v<2147483647->JL (A9 P true) (Stop P F (.HO j)) b n (AA L d (.int .u64 (Fam.word (v+1) 0))) ds (.inRegion ops rest::k) cs s):
  JL (A9 P true) (Stop P F (.Jv j)) b n L ds (.inRegion ops (i::rest)::k) cs s:=λT K=>by
 simp only[f5] at O
 obtain⟨fn,aw,ay,hb,az,he⟩:=he.h
 refine(A9 P _).stop (JV rfl rfl rfl ag (by simp) λv wt sm v' wt' sm' es a0 U=>?_)
 simp only[Fam.act] at U
 split at U
 .rename_i Y
  obtain⟨Y,rfl⟩:=Y;cases U;refine⟨G (fr b (C6 T d (.int .u64 (Fam.word (v+1) 0))) ds (.inRegion ops rest::k)) cs,λw ac=>?_,rfl,?_⟩
  .let⟨c1,_,c3,_⟩:=JZ ac;rw[B2 Z,B2 Z];show stepG P true _ w=_;rw[stepG_add_atomic (a:=⟨T,ds⟩) al (Cn K hw) (by simpa using O.1) rfl aw ay hb az .u64 he (by rw[Fs];exact K.ev am) (by rw[Fs];exact K.ev ap) c1 c3,dD Y,O5 ac,EL]
   rfl
  .split;rename_i e;subst e;exact aq _ (K.put O.2 _);rename_i e;exact av v (by omega) Y _ (K.put O.2 _)
 .cases U
theorem js(al:MY p=true)(am:if Fam.Dd p=true then s=.quiet else s.q=false)(ap:p≠ .F0)(aq:Fam.KJ p s=s)(av:∀v wt sm r,F.act p v wt sm=some r->r.1=(v,wt,sm)/\r.2.1=#[Fam.Cu F.sA])
  (aw:ops[i]?=some ⟨d,.call ⟨.value (.func f),#[x],ats⟩,ty,pp,af,g⟩) (U:b.roundOf=none) (hw:A2 L ops ⟨d,.call ⟨.value (.func f),#[x],ats⟩,ty,pp,af,g⟩=some true) (K:((b.kind != .early)&&Bz n d)=true)
  (he:BV P f (Extern.Atomic.loadT (.int .u64))) (ay:ev L x=some (.pointer (some F.sA)))
  (h:∀v wt sm r,F.act p v wt sm=some r->∃q,r.2.2=.ph q/\JL (A9 P (Fam.CU p)) (Stop P F q) b n (AA L d (.int .u64 (Fam.word v wt))) ds (.inRegion ops rest::k) cs s):
  JL (A9 P (Fam.CU p)) (Stop P F p) b n L ds (.inRegion ops (i::rest)::k) cs s:=λT O=>by
 simp only[f5] at K
 obtain⟨fn,az,a0,hb,a1,he⟩:=he.h
 refine(A9 P _).stop (JV al rfl rfl am (λe=>absurd e ap) λv wt sm v' wt' sm' es a3 Y=>?_)
 let⟨Z,e2⟩:=av _ _ _ _ Y
 let⟨q,ac,a2⟩:=h _ _ _ _ Y
 simp only at Z e2 ac
 cases Z
 subst e2 ac
 refine⟨_,λw ag=>?_,rfl,by rw[aq];exact a2 _ (O.put K.2 _)⟩
 let⟨c1,_,_,_⟩:=JZ ag
 rw[B2 U,B2 U,stepG_load_atomic (a:=⟨T,ds⟩) aw (Cn O hw) (by simpa using K.1) rfl az a0 hb a1 .u64 he (by rw[Fs];exact O.ev ay) c1,MO ag,EL]
 rfl
theorem ik(ac:ops[i]?=some ⟨d,.call ⟨.value (.func f),#[x,y],ats⟩,ty,pp,af,g⟩)(Y:b.roundOf=none)(hw:A2 L ops ⟨d,.call ⟨.value (.func f),#[x,y],ats⟩,ty,pp,af,g⟩=some true)(U:((b.kind != .early)&&Bz n d)=true)
  (he:BV P f Extern.Atomic.storeT) (ag:ev L x=some (.pointer (some F.sA))) (al:ev L y=some (.int .u64 0))
  (h:JL (A9 P false) (Stop P F .F0) b n (AA L d (.tuple #[])) ds (.inRegion ops rest::k) cs .quiet):
  JL (A9 P false) (Stop P F .H5) b n L ds (.inRegion ops (i::rest)::k) cs .quiet:=λT K=>by
 simp only[f5] at U
 obtain⟨fn,am,ap,hb,aq,he⟩:=he.h
 refine(A9 P _).stop (JV rfl rfl rfl rfl (by simp) λv wt sm v' wt' sm' es ay O=>?_)
 simp only[Fam.act] at O
 split at O
 .rename_i av
  obtain⟨rfl,rfl⟩:=av;cases O;refine⟨_,λw Z=>?_,rfl,h _ (K.put U.2 _)⟩;let⟨c1,_,c3,_⟩:=JZ Z;have aw:(.int .u64 0:Value)=.int .u64 (Fam.word 0 0):=by simp[Fam.word]
  rw[B2 Y,B2 Y];show stepG P false _ w=_;rw[stepG_store_atomic (a:=⟨T,ds⟩) ac (Cn K hw) (by simpa using U.1) rfl am ap hb aq he (by rw[Fs];exact K.ev ag) (by rw[Fs];exact K.ev al) c1 c3,aw,O5 Z,EL]
  rfl
 .cases O
theorem iB{m:Nat}(aw:s.q=false)(ac:ops[i]?=some ⟨d,.call ⟨.value (.func f),#[x,y,z],ats⟩,ty,pp,af,g⟩)(Z:b.roundOf=none)(hw:A2 L ops ⟨d,.call ⟨.value (.func f),#[x,y,z],ats⟩,ty,pp,af,g⟩=some true)(U:((b.kind != .early)&&Bz n d)=true)
  (he:BV P f (Extern.Atomic.casT (.int .u64))) (ag:ev L x=some (.pointer (some F.sA))) (al:ev L y=some (.int .u64 (Fam.word m 0))) (am:ev L z=some (.int .u64 (Fam.word m 1)))
  (ay:JL (A9 P true) (Stop P F .JF) b n (AA L d (.bool true)) ds (.inRegion ops rest::k) cs s)
  (az:JL (A9 P true) (Stop P F (.GK (m - 1))) b n (AA L d (.bool false)) ds (.inRegion ops rest::k) cs s):
  JL (A9 P true) (Stop P F (.Ih m)) b n L ds (.inRegion ops (i::rest)::k) cs s:=λT K=>by
 simp only[f5] at U
 obtain⟨fn,ap,aq,hb,av,he⟩:=he.h
 refine(A9 P _).stop (JV rfl rfl rfl aw (by simp) λv wt sm v' wt' sm' es a1 O=>?_)
 simp only[Fam.act] at O
 split at O
 .rename_i a0
  obtain⟨_,_,rfl⟩:=a0;split at O
  .rename_i e;subst e;cases O;refine⟨_,λw Y=>?_,rfl,ay _ (K.put U.2 _)⟩;let⟨c1,_,c3,_⟩:=JZ Y;rw[B2 Z,B2 Z];show stepG P true _ w=_;rw[stepG_cas_hit (a:=⟨T,ds⟩) ac (Cn K hw) (by simpa using U.1) rfl ap aq hb av .u64 he (by rw[Fs];exact K.ev ag) (by rw[Fs];exact K.ev al) (by rw[Fs];exact K.ev am) c1 c3,O5 Y,EL]
   rfl
  .rename_i e;cases O;refine⟨_,λw Y=>?_,rfl,az _ (K.put U.2 _)⟩;let⟨c1,_,c3,_⟩:=JZ Y;rw[B2 Z,B2 Z];show stepG P true _ w=_;rw[stepG_cas_miss (a:=⟨T,ds⟩) ac (Cn K hw) (by simpa using U.1) rfl ap aq hb av .u64 he (by rw[Fs];exact K.ev ag) (by rw[Fs];exact K.ev al) (by rw[Fs];exact K.ev am) c1 c3 (λq=>e (word_inj q)),MO Y,EL]
   rfl
 .cases O
theorem cI{args:Array Operand}{vs:Lv_}(Y:ops[i]?=some ⟨d,.call ⟨.value (.func f),args,ats⟩,ty,pp,af,g⟩)(Z:b.roundOf=none)(hw:A2 L ops ⟨d,.call ⟨.value (.func f),args,ats⟩,ty,pp,af,g⟩=some true)(O:((b.kind != .early)&&Bz n d)=true)
  (he:BV P f Extern.Sync.semrelease) (ag:evs L args.toList=some vs) (al:vs[0]?=some (.pointer (some F.mA)))
  (h:JL (Jf P) (Ka P 1) b n (AA L d (.tuple #[])) ds (.inRegion ops rest::k) cs .quiet):
  JL (A9 P false) (Stop P F .F0) b n L ds (.inRegion ops (i::rest)::k) cs .quiet:=λT U=>by
 simp only[f5] at O
 have am:=Vu (P:=P) (b:=b) (ds:=ds) (k:=k) (cs:=cs) (rest:=rest) (T:=T) Y he
 obtain⟨fn,ap,aq,hb,av,he⟩:=he.h
 refine(A9 P _).stop (JV rfl rfl rfl rfl (λ_=>am) λv wt sm v' wt' sm' es az K=>?_)
 simp only[Fam.act] at K
 split at K
 .rename_i aw
  subst aw;cases K;refine⟨_,λw ac=>?_,rfl,Rv (h _ (U.put O.2 _))⟩;let⟨_,c2,_,c4⟩:=JZ ac;rw[B2 Z,B2 Z];show stepG P false _ w=_;rw[stepG_semrelease (a:=⟨T,ds⟩) Y (Cn U hw) (by simpa using O.1) rfl ap aq hb av he (ad:=F.mA) (by rw[Lo U ag];simpa using al) c2 c4,EL];have ay:IntKind.u32.wrap (((0:Nat):Int)+1)=((1:Nat):Int):=by decide
  rw[ay,UG ac]
 .cases K
theorem ZY{args:Array Operand}{vs:Lv_}(aq:s.q=false)(ac:ops[i]?=some ⟨d,.call ⟨.value (.func f),args,ats⟩,ty,pp,af,g⟩)(Y:b.roundOf=none)(hw:A2 L ops ⟨d,.call ⟨.value (.func f),args,ats⟩,ty,pp,af,g⟩=some true)(Z:((b.kind != .early)&&Bz n d)=true)
  (he:BV P f Extern.Sync.semacquire) (av:evs L args.toList=some vs) (aw:vs[0]?=some (.pointer (some F.mA)))
  (h:JL (A9 P true) (Stop P F .H6) b n (AA L d (.tuple #[])) ds (.inRegion ops rest::k) cs s):
  JL (A9 P true) (Stop P F .Gc) b n L ds (.inRegion ops (i::rest)::k) cs s:=λT K=>by
 simp only[f5] at Z
 obtain⟨fn,ag,al,hb,am,he⟩:=he.h
 have ap:(args.map (⟨T,ds⟩:Act).eval)[0]?=some (.pointer (some F.mA)):=by rw[Lo K av];simpa using aw
 refine(A9 P _).stop (HQ.stop {
  run:=rfl,offers:=rfl,quiet:=(by simp[Fam.Dd]),live:=λ_=>aq,act:=?_,J8:=(by simp),FU:=?_,go:=(by simp),lk:=(by simp),CL:=(by simp),store:=(by simp),fin:=(by simp)})
 .intro v wt sm v' wt' sm' es a0 O;simp only[Fam.act] at O;split at O
  .rename_i ay;subst ay;cases O;refine⟨_,λw U=>?_,rfl,h _ (K.put Z.2 _)⟩;let⟨_,c2,_,c4⟩:=JZ U;rw[B2 Y,B2 Y];show stepG P true _ w=_;rw[stepG_semacquire (a:=⟨T,ds⟩) ac (Cn K hw) (by simpa using Z.1) rfl ag al hb am he (ad:=F.mA) ap c2 (by decide) c4,EL];have az:(((1:Nat):Int) - 1)=((0:Nat):Int):=by decide
   rw[az,UG U]
  .cases O
 .intro _ w v wt U;let⟨_,c2,_,c4⟩:=JZ U;rw[B2 Y];exact stepG_semacquire_wait (a:=⟨T,ds⟩) ac (Cn K hw) rfl ag al hb am he (ad:=F.mA) ap c2
theorem WK{args:Array Operand}{vs:Lv_}(Y:s.q=false)(Z:ops[i]?=some ⟨d,.call ⟨.value (.func f),args,ats⟩,ty,pp,af,g⟩)(U:b.roundOf=none)(hw:A2 L ops ⟨d,.call ⟨.value (.func f),args,ats⟩,ty,pp,af,g⟩=some true)(K:((b.kind != .early)&&Bz n d)=true)
  (he:BV P f (Extern.Race.marked .acquire)) (ac:evs L args.toList=some vs) (ag:vs[0]?=some (.pointer (some F.sA)))
  (h:∀E' f,Le s.E E'->E' F.fd=none->(∀b,E' b≠none->s.H b=none)->(∀k,k<F.n->F.msg k (f k) E')->∀T,Has n (AA L d (.tuple #[])) T->F.fin (G (fr b T ds (.inRegion ops rest::k)) cs) ⟨E',F.K9 s.H f,false⟩):
  JL (A9 P true) (Stop P F .G3) b n L ds (.inRegion ops (i::rest)::k) cs s:=λT O=>by
 simp only[f5] at K
 obtain⟨fn,al,am,hb,ap,he⟩:=he.h
 refine(A9 P _).stop (HQ.stop {
  run:=rfl,offers:=rfl,quiet:=(by simp[Fam.Dd]),live:=λ_=>Y,act:=(by simp[Fam.act]),J8:=(by simp),FU:=(by simp),go:=(by simp),lk:=(by simp),CL:=(by simp),store:=(by simp),fin:=λ_=>?_})
 refine⟨_,λw=>?_,λE' f a1 aq av aw=>h E' f a1 aq av aw _ (O.put K.2 _)⟩
 rw[B2 U,B2 U,stepG_markAt (a:=⟨T,ds⟩) .acquire (by simp) Z (Cn O hw) (by simpa using K.1) rfl al am hb ap he (ad:=F.sA) (by rw[Lo O ac];simpa using ag),EL]
 rfl
end
variable{fi:Av_}{as:Lv_}
section
variable {P:Program}{F:Fam}{J:Judge P}{Q:GP}{n:Nat}{L L':Env}{ds:Ld_}{k:Li_}{cs:Lf_}{s s':St}{b:Frame}{main:Bool}
theorem ML(T:Av_)(ds:Ld_):(⟨T,ds⟩:Act).eval=BK T:=funext λx=>Fs T ds x
theorem de{X:GP}{c:Code}{vs:Lv_}{caps args:Av_}(O:P.funcs[f]?=some fn)(Z:(fn.name== "runtime.NumGoroutine")=false)(hb:fn.body=some c)(ac:args++caps=vs.toArray)(ap:vs.length<=fn.ntmps)
  (h:JL (A9 P false) X (baseD f) fn.ntmps (GY 0 vs) [] [.code c] [Na P] s):Way P false X (born P {target:=.fn (.func f) caps,args:=args}) s:=by
 have ag:¬fn.name= "runtime.NumGoroutine" :=by simpa using Z
 refine Judge.DU (J:=A9 P false) V (λw=>?_) (h (vs.toArray++Array.replicate (fn.ntmps - vs.length) undef) ⟨by simp;omega,λt v al=>?_⟩);show stepG P false _ w=_;have U:=enter_atD (P:=P) vs.toArray O hb;rw[B2 (b:=baseD f) rfl];simp only[tS] at U;simp[G,born,stepG,unwind,callDeferred,invoke,callFunc,O,ag,hb,GStep.after,seen_none,ac,Na,U]
 .let⟨_,K⟩:=KY al;have am:t<vs.length:=by
   rcases jH t vs.length with Y | Y;exact Y;simp at K;have:=(d7.1 K).1;omega
  rw[j8,s0 (by simpa using am)];simp at K;simp[K]
theorem jV{args:Array Operand}{K:Go.Fn}{O:Av_}(U:Has n L T)(Y:ev L x=some (.func K fi O))(Z:evs L args.toList=some as):
  execOp (BK T) ⟨d,.go ⟨.value x,args,ats⟩,ty,pp,af,g⟩=.pure (.spawn {target:=.fn K O,args:=fi++as.toArray}):=by
 have ac:args.map (BK T)=as.toArray:=by
  rw[← GF U.GJ Z];apply s5;simp
 simp only[execOp,resolve,bind,Sem.bind,Deferred.ofValue,U.ev Y,pure,ac]
theorem j5{j:Nat}{args:Array Operand}{U:Av_}{Y:FuncId}(ag:s.q=false)(al:ops[i]?=some ⟨d,.go ⟨.value x,args,ats⟩,ty,pp,af,g⟩)(Z:b.roundOf=none)(hw:A2 L ops ⟨d,.go ⟨.value x,args,ats⟩,ty,pp,af,g⟩=some true)(K:((b.kind != .early)&&Bz n d)=true)
  (am:ev L x=some (.func (.func Y) fi U)) (ap:evs L args.toList=some as)
  (aq:Way P false (Stop P F (F.start j)) (born P {target:=.fn (.func Y) U,args:=fi++as.toArray}) ⟨s.E,λ_=>none,false⟩)
  (av:JL (A9 P true) (Stop P F (F.Fp j)) b n (AA L d undef) ds (.inRegion ops rest::k) cs s):
  JL (A9 P true) (Stop P F (.Gu j)) b n L ds (.inRegion ops (i::rest)::k) cs s:=λT O=>by
 simp only[f5] at K
 have ac:=jV (d:=d) (ats:=ats) (ty:=ty) (pp:=pp) (af:=af) (g:=g) O am ap
 refine(A9 P _).stop (HQ.stop {
  run:=rfl,offers:=rfl,quiet:=(by simp[Fam.Dd]),live:=λ_=>ag,act:=(by simp[Fam.act]),J8:=(by simp),FU:=(by simp),go:=λaw e=>?_,lk:=(by simp),CL:=(by simp),store:=(by simp),fin:=(by simp)})
 cases e
 refine⟨G (fr b (C6 T d undef) ds (.inRegion ops rest::k)) cs,_,rfl,rfl,λw=>?_,aq,av _ (O.put K.2 _)⟩
 rw[B2 Z,B2 Z,stepG_spawn (a:=⟨T,ds⟩) (w':=w) al (Cn O hw) (by simpa using K.1) (by rw[ML,ac];rfl) rfl,listed_none (by rw[ML,ac];simp[Sem.events_pure']),EL]
theorem JO.WO{j:Nat}(Y:s.q=false)(K:b.roundOf=none)(he:BV P f (λ_=>do mark .enable;pure Extern.Race.none_))
  (h:JO (A9 P true) (Stop P F (.Gu j)) b n L ds cs s):JO (A9 P true) (Stop P F (.HO j)) b n L (dcall f #[]::ds) cs s:=λT Z todo=>by
 obtain⟨fn,ac,ag,hb,al,he⟩:=he.h
 refine(A9 P _).stop (JV rfl rfl rfl Y (by simp) λv wt sm v' wt' sm' es ap O=>?_)
 simp only[Fam.act] at O
 cases O
 refine⟨G (EZ b T ds todo) cs,λw am=>?_,rfl,h T Z todo⟩
 rw[MN K,MN K,MO am]
 exact stepG_unwind_entry (a:=⟨T,dcall f #[]::ds⟩) (v:=.tuple #[]) (evs:=#[Fam.CX .enable]) rfl ac ag hb al he (by simp[Extern.Race.none_]) (by simp;rfl) (by
  intro x U
  simp at U
  subst U
  exact⟨rfl,λg h=>by cases h⟩)
theorem JO.P2(K:b.roundOf=none)(he:BV P f (λ_=>do mark .enable;pure Extern.Race.none_))
  (h:JO (Jf P) (Ka P 0) b n L ds cs .quiet):JO (Jf P) (Ka P 1) b n L (dcall f #[]::ds) cs .quiet:=λT U todo=>by
 obtain⟨fn,Y,Z,hb,ac,he⟩:=he.h
 refine(Jf P).stop ?_
 let⟨q,O⟩:=Rv (h T U todo)
 rw[MN K] at O
 rw[MN K]
 exact⟨q+1,QuitsD.unwind_mark (a:=⟨T,dcall f #[]::ds⟩) .enable rfl (by simp) rfl Y Z hb ac he O⟩
end
def Yz:BinOp->Int->Int->Option Bool
 | .lss,m,m'=>some (decide (m<m'))
 | .leq,m,m'=>some (decide (m<=m'))
 | .gtr,m,m'=>some (decide (m'<m))
 | .geq,m,m'=>some (decide (m'<=m))
 | .eql,m,m'=>some (decide (m=m'))
 | .neq,m,m'=>some (decide (m≠m'))
 | _,_,_=>none
def Ms(L:Env):Op->Option Value
 | .move x=>ev L x
 | .assign x=>ev L x
 | .pick z x y=>match ev L z with
  | some (.bool true)=>ev L x
  | some (.bool false)=>ev L y
  | _=>none
 | .extract x i=>match ev L x with
  | some (.tuple vs)=>vs[i]?
  | _=>none
 | .nilCheck x=>match ev L x with
  | some (.pointer (some a))=>some (.pointer (some a))
  | _=>none
 | .binOp op _ x y _=>match ev L x with
  | some (.int kd m)=>match ev L y with
   | some (.int kd' m')=>if kd=kd' then(match Yz op m m' with | some t=>some (.bool t) | none=>none) else none
   | _=>none
  | _=>none
 | _=>none
theorem fx{P:Program}{s:St}{ρ:Operand->Value}{d:Option Tmp}{x y:Operand}{t u ty:TypeId}{p:String}{af:Ae_}{g:On_}{kd:IntKind}{m m':Int}(K:ρ x=.int kd m)(O:ρ y=.int kd m'):Yl P ⟨d,.binOp .neq t x y u,ty,p,af,g⟩ ρ s (.bool (decide (m≠m'))):=by
 have h:=Yl.neq (P:=P) (s:=s) (d:=d) (t:=t) (u:=u) (ty:=ty) (p:=p) (af:=af) (g:=g) K O;simpa using h
theorem P8{P:Program}{L:Env}{ρ:Operand->Value}{s:St}{o:Oper}{v:Value}(K:Ft L ρ)(h:Ms L o.op=some v):Yl P o ρ s v:=by
 obtain⟨d,op,ty,p,af,g⟩:=o;simp only at h;unfold Ms at h;split at h;exact Yl.move (K _ _ h);exact Yl.assign (K _ _ h);split at h;rename_i e;exact NK (K _ _ e) (K _ _ h);rename_i e;exact aM (K _ _ e) (K _ _ h);cases h;split at h;rename_i e;exact Yl.extract (K _ _ e) h;cases h;split at h;rename_i e;cases h;exact Yl.nilCheck (K _ _ e);cases h;split at h;rename_i O;split at h;rename_i U;split at h;rename_i e;subst e;split at h;rename_i e;cases h;unfold Yz at e;split at e;cases e;exact Yl.lss (K _ _ O) (K _ _ U);cases e;exact Yl.leq (K _ _ O) (K _ _ U);cases e;exact Yl.gtr (K _ _ O) (K _ _ U);cases e;exact Yl.geq (K _ _ O) (K _ _ U);cases e;exact Yl.eql (K _ _ O) (K _ _ U);cases e;exact fx (K _ _ O) (K _ _ U);cases e;cases h;cases h;cases h;cases h;cases h
def KF:List Oper->Nat->Option Oper
 | [],_=>none
 | o::_,0=>some o
 | _::os,i+1=>KF os i
theorem MX:∀(os:List Oper) (i:Nat),KF os i=os[i]?
 | [],i=>by simp[KF]
 | _::_,0=>rfl
 | _::os,i+1=>by simp[KF,MX os i]
def QV(b:Frame)(n:Nat)(L:Env):Li_->Option (Li_×Env)
 | .code (.seq x y)::k=>some (.code x:: .code y::k,L)
 | .code (.block i c)::k=>some (.code c:: .inBlock i::k,L)
 | .code (.scope c)::k=>some (.code c:: .inScope c::k,L)
 | .code .skip::k=>some (k,L)
 | .code (.exit i)::k=>match exitTo i k with
  | some k'=>some (k',L)
  | none=>none
 | .code (.cond c x y)::k=>match ev L c with
  | some (.bool true)=>some (.code x::k,L)
  | some (.bool false)=>some (.code y::k,L)
  | _=>none
 | .code (.region _ ops false)::k=>some (.inRegion ops (List.range ops.size)::k,L)
 | .inBlock _::k=>some (k,L)
 | .inScope _::k=>some (k,L)
 | .inRegion _ []::k=>some (k,L)
 | .inRegion ops (i::rest)::k=>match KF ops.toList i with
  | some ⟨d,op,ty,p,af,g⟩=>match A2 L ops ⟨d,op,ty,p,af,g⟩ with
   | some true=>match BZ b n ⟨d,op,ty,p,af,g⟩ with
    | true=>match Ms L op with
     | some v=>match d with
      | some d=>some (.inRegion ops rest::k,(d,v)::L)
      | none=>some (.inRegion ops rest::k,L)
     | none=>none
    | false=>none
   | some false=>match Bz n d with
    | true=>match d with
     | some d=>some (.inRegion ops rest::k,(d,undef)::L)
     | none=>some (.inRegion ops rest::k,L)
    | false=>none
   | none=>none
  | none=>none
 | _=>none
def Qi(b:Frame)(n:Nat):Nat->Li_->Env->Option (Li_×Env)
 | 0,k,L=>some (k,L)
 | m+1,k,L=>match QV b n L k with
  | some (k',L')=>Qi b n m k' L'
  | none=>none
variable {L':Env}{k':Li_}
section
variable {n:Nat}
theorem Xg(h:QV b n L k=some (k',L'))(K:JL J Q b n L' ds k' cs s):JL J Q b n L ds k cs s:=by
 unfold QV at h;split at h;cases h;exact JL.seq K;cases h;exact JL.block K;cases h;exact JL.scope K;cases h;exact JL.skip K;split at h;rename_i e;cases h;exact JL.exit e K;cases h;split at h;rename_i e;cases h;exact aK e K;rename_i e;cases h;exact au e K;cases h;cases h;exact JL.region K;cases h;exact O1 K;cases h;exact Zn K;cases h;exact JL.done K
 .split at h
  .rename_i d op ty p af g O;rw[MX,sM] at O;split at h
   .rename_i hw;split at h
    .rename_i U;split at h
     .rename_i v Z;cases d with
      | none=>cases h;exact Bi O hw U (λρ Y=>P8 Y Z) K
      | some d=>cases h;exact Bi O hw U (λρ Y=>P8 Y Z) K
     .cases h
    .cases h
   .rename_i hw;split at h
    .rename_i U;cases d with
     | none=>cases h;exact Jo O hw U K
     | some d=>cases h;exact Jo O hw U K
    .cases h
   .cases h
  .cases h
 .cases h
theorem JL.go(m:Nat)(h:Qi b n m k L=some (k',L'))(K:JL J Q b n L' ds k' cs s):JL J Q b n L ds k cs s:=by
 induction m generalizing k L with
 | zero=>cases h;exact K
 | succ m O=>
  unfold Qi at h;split at h;rename_i e;exact Xg e (O h);cases h
end
abbrev Ar(a o:Nat):Value:=.pointer (some ⟨a,o,none⟩)
abbrev sV{α:Type}(a:Option Addr)(l:List α)(c:Nat):Value:=.slice a l.length c
abbrev fV(n:Nat):Value:=.func (.func n) #[] #[]
abbrev nS:Value:=.slice none 0 0
abbrev Bd(r:Nat):Option Addr:=some ⟨r,0,none⟩
open Go.Conc.Lib Go.ConcR.Gen
theorem GQ{P:Program}{t:TypeId}{n:Nat}(h:∀w,Sem.run P (Go.sizeOf t) w=.ok n w):BB P t=some n:=by
 have K:=h default;unfold BB;simp only[Go.sizeOf,typeInfo,bind,Sem.bind,program,Sem.run] at K;cases hi:P.info? t with
 | none=>rw[hi] at K;simp[stuck,Sem.run,Sem.bind] at K
 | some i=>
  rw[hi] at K;simp[pure,Sem.bind,Sem.run] at K;simp[K]
section
variable {L:WgLink}(H:WgLib P L)
include H
theorem O2:BV P L.disable (λ_=>do mark .disable;pure Extern.Race.none_):=⟨⟨_,H.f_disable,x_disable_n L,x_disable_b L,x_disable_x L,x_disable_f L⟩⟩
theorem Km:BV P L.enable (λ_=>do mark .enable;pure Extern.Race.none_):=⟨⟨_,H.f_enable,x_enable_n L,x_enable_b L,x_enable_x L,x_enable_f L⟩⟩
theorem T8:BV P L.relMerge (Extern.Race.marked .releaseMerge):=⟨⟨_,H.f_relMerge,x_relMerge_n L,x_relMerge_b L,x_relMerge_x L,x_relMerge_f L⟩⟩
theorem Ry:BV P L.acquire (Extern.Race.marked .acquire):=⟨⟨_,H.f_acquire,x_acquire_n L,x_acquire_b L,x_acquire_x L,x_acquire_f L⟩⟩
theorem cH:BV P L.raceRead (Extern.Race.marked .read):=⟨⟨_,H.f_raceRead,x_raceRead_n L,x_raceRead_b L,x_raceRead_x L,x_raceRead_f L⟩⟩
theorem aV:BV P L.raceWrite (Extern.Race.marked .write):=⟨⟨_,H.f_raceWrite,x_raceWrite_n L,x_raceWrite_b L,x_raceWrite_x L,x_raceWrite_f L⟩⟩
theorem WI:BV P L.addU64 (Extern.Atomic.update (Op.intArith .add) .u64 true):=⟨⟨_,H.f_addU64,x_addU64_n L,x_addU64_b L,x_addU64_x L,x_addU64_f L⟩⟩
theorem dh:BV P L.loadU64 (Extern.Atomic.loadT (.int .u64)):=⟨⟨_,H.f_loadU64,x_loadU64_n L,x_loadU64_b L,x_loadU64_x L,x_loadU64_f L⟩⟩
theorem aN:BV P L.storeU64 Extern.Atomic.storeT:=⟨⟨_,H.f_storeU64,x_storeU64_n L,x_storeU64_b L,x_storeU64_x L,x_storeU64_f L⟩⟩
theorem fS:BV P L.casU64 (Extern.Atomic.casT (.int .u64)):=⟨⟨_,H.f_casU64,x_casU64_n L,x_casU64_b L,x_casU64_x L,x_casU64_f L⟩⟩
theorem bh:BV P L.semrelease Extern.Sync.semrelease:=⟨⟨_,H.f_semrelease,x_semrelease_n L,x_semrelease_b L,x_semrelease_x L,x_semrelease_f L⟩⟩
theorem Zl:BV P L.semacquire Extern.Sync.semacquire:=⟨⟨_,H.f_semacquire,x_semacquire_n L,x_semacquire_b L,x_semacquire_x L,x_semacquire_f L⟩⟩
theorem Uw:BV P L.inBubble (λ_=>pure (.bool false)):=⟨⟨_,H.f_inBubble,x_inBubble_n L,x_inBubble_b L,x_inBubble_x L,x_inBubble_f L⟩⟩
end
variable {tw:TypeId}
section
variable {P:Program}{F:Fam}{J:Judge P}{Q:GP}{n:Nat}{L L':Env}{ds:Ld_}{k:Li_}{cs:Lf_}{s s':St}{b:Frame}{main:Bool}
theorem Yl.to{o:Oper}{ρ:Operand->Value}{v v':Value}(h:Yl P o ρ s v)(e:v=v'):Yl P o ρ s v':=e▸h
theorem NY(av:MY p=true)(aw:if Fam.Dd p=true then s=.quiet else s.q=false)(ay:p≠ .F0)(az:∀v wt sm,F.act p v wt sm=some ((v,wt,sm),#[],.ph q))(a0:Fam.KJ p s=s)
  (a1:ops[i]?=some ⟨d,.convert t u x,ty,pp,af,g⟩) (U:b.roundOf=none) (hw:A2 L ops ⟨d,.convert t u x,ty,pp,af,g⟩=some true) (K:((b.kind != .early)&&Bz n d)=true)
  (Y:P.underlying t=some (.pointer tw)) (hu:P.underlying u=some .unsafePointer) (Z:(P.info? tw).map (λi=>decide (i.size=0))=some false) (a2:ev L x=some (.pointer (some ad))) (hb:ad=F.sA∨ad=F.mA)
  (h:JL (A9 P (Fam.CU p)) (Stop P F q) b n (AA L d (.pointer (some ad))) ds (.inRegion ops rest::k) cs s):
  JL (A9 P (Fam.CU p)) (Stop P F p) b n L ds (.inRegion ops (i::rest)::k) cs s:=λT O=>by
 simp only[f5] at K
 refine(A9 P _).stop (JV av rfl rfl aw (λe=>absurd e ay) λv wt sm v' wt' sm' es a4 ac=>?_)
 rw[az] at ac;cases ac
 refine⟨_,λw ag=>?_,rfl,by rw[a0];exact h _ (O.put K.2 _)⟩
 obtain⟨al,am⟩:∃al,w.cell? ad=some al:=by
  let⟨c1,c2,_,_⟩:=JZ ag;rcases hb with e | e<;>rw[e];exact⟨_,c1⟩;exact⟨_,c2⟩
 have ap:=run_convert_to_unsafe (P:=P) (w:=w) Y hu Z am;have a3:=events_convert_to_unsafe (P:=P) (w:=w) Y hu Z am;have aq:execOp (⟨T,ds⟩:Act).eval ⟨d,.convert t u x,ty,pp,af,g⟩=(do pure (Next.value (← Go.convert t u (.pointer (some ad))))):=by
  rw[ML];simp only[execOp,O.ev a2]
 rw[B2 U,B2 U,stepG_value (a:=⟨T,ds⟩) (v:=.pointer (some ad)) (w':=w) a1 (Cn O hw) (by simpa using K.1) (by rw[aq];simp[ap,Result.andThen]),MO ag,EL];have e2:listed P b.fn ⟨T,ds⟩ ⟨d,.convert t u x,ty,pp,af,g⟩ w=#[]:=by
  unfold listed;rw[aq];simp[ap,a3,Result.evThen,seen_none]
 rw[e2]
end
section
variable {P:Program}{F:Fam}{J:Judge P}{Q:GP}{n:Nat}{L L':Env}{ds:Ld_}{k:Li_}{cs:Lf_}{s s':St}{b:Frame}{main:Bool}
def mj(P:Program)(b:Frame)(n:Nat)(L:Env)(d:Option Tmp)(ds:Ld_)(todo:Li_)(cs:Lf_)(U:Frame):Prop:=
 ∀(K:Judge P) (O:GP) (v:Value) (s':St),JL K O b n (AA L d v) ds todo cs s'->K.ok O (G (U.finish v) cs) s'
theorem H3{c:Code}(Y:ops[i]?=some ⟨d,.call ⟨.value (.func f),args,ats⟩,ty,pp,af,g⟩)(hw:A2 L ops ⟨d,.call ⟨.value (.func f),args,ats⟩,ty,pp,af,g⟩=some true)(O:((b.kind != .early)&&Bz n d)=true)
  (Z:P.funcs[f]?=some fn) (al:(fn.name== "runtime.NumGoroutine")=false) (hb:fn.body=some c) (am:evs L args.toList=some vs) (a0:vs.length<=fn.ntmps)
  (h:∀ac:Frame,mj P b n L d ds (.inRegion ops rest::k) cs ac->JL J Q (base f) fn.ntmps (GY 0 vs) [] [.code c] (ac::cs) s):
  JL J Q b n L ds (.inRegion ops (i::rest)::k) cs s:=λT U=>by
 simp only[f5] at O
 have ap:args.map (BK T)=vs.toArray:=by
  rw[← GF U.GJ am];apply s5;simp
 refine Judge.oper Y (Cn U hw) (by simpa using O.1) (.inr λc aq=>by cases aq) ?_;have av:El P f=true:=by unfold El;rw[Z];simp[al,hb]
 have hd:lp P (execOp (BK T) ⟨d,.call ⟨.value (.func f),args,ats⟩,ty,pp,af,g⟩) s (upon J Q b T ds ops i rest k cs d) (M7 J Q b T ds ops i rest k cs):=by
  simp only[execOp,resolve,bind,Sem.bind,Deferred.ofValue,BK,pure,invoke];have e: #[]++args.map (BK T)++ #[]=vs.toArray:=by rw[ap];simp
  rw[e];refine Kl av ?_;have he:Frame.enter P f vs.toArray .normal=fr (base f) (vs.toArray++Array.replicate (fn.ntmps - vs.length) undef) [] [.code c]:=by
   simp[Frame.enter,fr,Z,hb,base];rfl
  show J.ok Q (G (Frame.enter P f vs.toArray .normal) _) s;rw[he];refine h _ (λa1 a2 v s' aw=>?_) _ ⟨by simp;omega,λt v ay=>?_⟩;rw[Hg (o:=⟨d,.call ⟨.value (.func f),args,ats⟩,ty,pp,af,g⟩) _ _ _ _ _ Y];exact aw _ (U.put O.2 v)
  .let⟨_,K⟩:=KY ay;have az:t<vs.length:=by
    rcases jH t vs.length with ag | ag;exact ag;simp at K;have:=(d7.1 K).1;omega
   rw[j8,s0 (by simpa using az)];simp at K;simp[K]
 exact hd
theorem Yl.ext{e:Av_->Sem Value}{v:Value}{ρ:Operand->Value}(he:BV P f e)(O:args.map ρ=vs.toArray)(h:e vs.toArray=.pure v):Yl P ⟨d,.call ⟨.value (.func f),args,ats⟩,ty,pp,af,g⟩ ρ s v∨ρ (.func f)≠ .func (.func f) #[] #[]:=by
 by_cases K:ρ (.func f)=.func (.func f) #[] #[]
 .left;obtain⟨fn,U,Y,Z,ac,ag⟩:=he.h;unfold Yl;simp only[execOp,resolve,bind,Sem.bind,Deferred.ofValue,K,pure,invoke];have al: #[]++args.map ρ++ #[]=vs.toArray:=by rw[O];simp
  rw[al];have am:fn.body=none:=by simpa using Z
  simp only[callFunc,bind,Sem.bind,program,lp,U,Y,am,Option.isNone_none,rY,sI,sO,mark,ac,ag,h,pure];exact⟨.inr ⟨f,V⟩,trivial,trivial⟩
 .exact .inr K
theorem JL.ext{e:Av_->Sem Value}{v:Value}(O:ops[i]?=some ⟨d,.call ⟨.value (.func f),args,ats⟩,ty,pp,af,g⟩)(hw:A2 L ops ⟨d,.call ⟨.value (.func f),args,ats⟩,ty,pp,af,g⟩=some true)(U:BZ b n ⟨d,.call ⟨.value (.func f),args,ats⟩,ty,pp,af,g⟩=true)
  (he:BV P f e) (Y:evs L args.toList=some vs) (Z:e vs.toArray=.pure v) (h:JL J Q b n (AA L d v) ds (.inRegion ops rest::k) cs s):JL J Q b n L ds (.inRegion ops (i::rest)::k) cs s:=
 Bi O hw U (λρ K=>by
  have ac:args.map ρ=vs.toArray:=by
   rw[← GF K Y]
   apply s5;simp
  rcases Yl.ext (s:=s) (d:=d) (ats:=ats) (ty:=ty) (pp:=pp) (af:=af) (g:=g) he ac Z with q | q;exact q
  .exact absurd (K (.func f) _ rfl) q) h
end
section
variable {P:Program}{L:WgLink}(H:WgLib P L){F:Fam}{n:Nat}{M:Env}{ds:Ld_}{k:Li_}{cs:Lf_}{s:St}{b:Frame}
include H
theorem dz(K:ops[i]?=some ⟨d,.call ⟨.value (.func L.uAdd),#[x,y],ats⟩,ty,pp,af,g⟩)(hw:A2 M ops ⟨d,.call ⟨.value (.func L.uAdd),#[x,y],ats⟩,ty,pp,af,g⟩=some true)(O:((b.kind != .early)&&Bz n d)=true)
  (U:ev M x=some (.pointer (some F.sA))) (Y:ev M y=some (.int .u64 18446744069414584320))
  (Z:JL (A9 P false) (Stop P F .HE) b n (AA M d (.int .u64 (Fam.word 0 1))) ds (.inRegion ops rest::k) cs .quiet)
  (ac:∀v wt:Nat,v<2147483647->wt<=1->¬(v=0/\wt=1)->JL (Jf P) (Ka P 1) b n (AA M d (.int .u64 (Fam.word v wt))) ds (.inRegion ops rest::k) cs .quiet):
  JL (A9 P false) (Stop P F .Il) b n M ds (.inRegion ops (i::rest)::k) cs .quiet:=by
 refine H3 (vs:=[.pointer (some F.sA),.int .u64 18446744069414584320]) K hw O H.f_uAdd (nm_uAdd L) V (by simp[evs,U,Y]) (rT V) λap back=>JL.go 8 V (Bi V V V (λρ h=>Yl.fieldAddr H.underlying_tAU V (GQ H.sizeOf_tU64) (h _ _ V)) ?_);refine JL.go 1 V (ei V V V V (WI H) V V ?_ λv wt ag al am=>?_);refine Bi V V V (λρ h=>Yl.assign (h _ _ V)) (JL.done ?_);exact JL.ret V V (BL.one H.f_uAdd V V) (back _ _ _ _ Z);refine Bi V V V (λρ h=>Yl.assign (h _ _ V)) (JL.done ?_);exact JL.ret V V (BL.one H.f_uAdd V V) (back _ _ _ _ (ac v wt ag al am))
theorem du{j:Nat}(K:s.q=false)(O:ops[i]?=some ⟨d,.call ⟨.value (.func L.uAdd),#[x,y],ats⟩,ty,pp,af,g⟩)(hw:A2 M ops ⟨d,.call ⟨.value (.func L.uAdd),#[x,y],ats⟩,ty,pp,af,g⟩=some true)(U:((b.kind != .early)&&Bz n d)=true)
  (Y:ev M x=some (.pointer (some F.sA))) (Z:ev M y=some (.int .u64 4294967296))
  (ac:JL (A9 P true) (Stop P F (.JE j)) b n (AA M d (.int .u64 (Fam.word 1 0))) ds (.inRegion ops rest::k) cs s)
  (ag:∀v:Nat,1<=v->v<2147483647->JL (A9 P true) (Stop P F (.HO j)) b n (AA M d (.int .u64 (Fam.word (v+1) 0))) ds (.inRegion ops rest::k) cs s):
  JL (A9 P true) (Stop P F (.Jv j)) b n M ds (.inRegion ops (i::rest)::k) cs s:=by
 refine H3 (vs:=[.pointer (some F.sA),.int .u64 4294967296]) O hw U H.f_uAdd (nm_uAdd L) V (by simp[evs,Y,Z]) (rT V) λap back=>JL.go 8 V (Bi V V V (λρ h=>Yl.fieldAddr H.underlying_tAU V (GQ H.sizeOf_tU64) (h _ _ V)) ?_);refine JL.go 1 V (dW K V V V V (WI H) V V ?_ λv al am=>?_);refine Bi V V V (λρ h=>Yl.assign (h _ _ V)) (JL.done ?_);exact JL.ret V V (BL.one H.f_uAdd V V) (back _ _ _ _ ac);refine Bi V V V (λρ h=>Yl.assign (h _ _ V)) (JL.done ?_);exact JL.ret V V (BL.one H.f_uAdd V V) (back _ _ _ _ (ag v al am))
theorem JL.uLoad(K:MY p=true)(O:if Fam.Dd p=true then s=.quiet else s.q=false)(U:p≠ .F0)(Y:Fam.KJ p s=s)(Z:∀v wt sm r,F.act p v wt sm=some r->r.1=(v,wt,sm)/\r.2.1=#[Fam.Cu F.sA])(ac:ops[i]?=some ⟨d,.call ⟨.value (.func L.uLoad),#[x],ats⟩,ty,pp,af,g⟩)(hw:A2 M ops ⟨d,.call ⟨.value (.func L.uLoad),#[x],ats⟩,ty,pp,af,g⟩=some true)(ag:((b.kind != .early)&&Bz n d)=true)
  (al:ev M x=some (.pointer (some F.sA)))
  (h:∀v wt sm r,F.act p v wt sm=some r->∃q,r.2.2=.ph q/\JL (A9 P (Fam.CU p)) (Stop P F q) b n (AA M d (.int .u64 (Fam.word v wt))) ds (.inRegion ops rest::k) cs s):
  JL (A9 P (Fam.CU p)) (Stop P F p) b n M ds (.inRegion ops (i::rest)::k) cs s:=by
 refine H3 (vs:=[.pointer (some F.sA)]) ac hw ag H.f_uLoad (nm_uLoad L) V (by simp[evs,al]) (rT V) λav back=>JL.go 8 V (Bi V V V (λρ h=>Yl.fieldAddr H.underlying_tAU V (GQ H.sizeOf_tU64) (h _ _ V)) ?_);refine js K O U Y Z V V V V (dh H) V λv wt sm r am=>?_;let⟨q,ap,aq⟩:=h v wt sm r am;refine⟨q,ap,?_⟩;refine Bi V V V (λρ h=>Yl.assign (h _ _ V)) (JL.done ?_);exact JL.ret V V (BL.one H.f_uLoad V V) (back _ _ _ _ aq)
theorem JL.uStore(K:ops[i]?=some ⟨d,.call ⟨.value (.func L.uStore),#[x,y],ats⟩,ty,pp,af,g⟩)(hw:A2 M ops ⟨d,.call ⟨.value (.func L.uStore),#[x,y],ats⟩,ty,pp,af,g⟩=some true)(O:((b.kind != .early)&&Bz n d)=true)
  (U:ev M x=some (.pointer (some F.sA))) (Y:ev M y=some (.int .u64 0))
  (h:JL (A9 P false) (Stop P F .F0) b n (AA M d (.tuple #[])) ds (.inRegion ops rest::k) cs .quiet):
  JL (A9 P false) (Stop P F .H5) b n M ds (.inRegion ops (i::rest)::k) cs .quiet:=by
 refine H3 (vs:=[.pointer (some F.sA),.int .u64 0]) K hw O H.f_uStore (nm_uStore L) V (by simp[evs,U,Y]) (rT V) λZ back=>JL.go 3 V (Bi V V V (λρ h=>Yl.fieldAddr H.underlying_tAU V (GQ H.sizeOf_tU64) (h _ _ V)) ?_);refine JL.go 1 V (ik V V V V (aN H) V V ?_);exact JL.done (JL.fin V V (BL.none H.f_uStore V) (back _ _ _ _ h))
theorem JL.uCas{m:Nat}(K:s.q=false)(O:ops[i]?=some ⟨d,.call ⟨.value (.func L.uCas),#[x,y,z],ats⟩,ty,pp,af,g⟩)(hw:A2 M ops ⟨d,.call ⟨.value (.func L.uCas),#[x,y,z],ats⟩,ty,pp,af,g⟩=some true)(U:((b.kind != .early)&&Bz n d)=true)
  (Y:ev M x=some (.pointer (some F.sA))) (Z:ev M y=some (.int .u64 (Fam.word m 0))) (ac:ev M z=some (.int .u64 (Fam.word m 1)))
  (ag:JL (A9 P true) (Stop P F .JF) b n (AA M d (.bool true)) ds (.inRegion ops rest::k) cs s)
  (al:JL (A9 P true) (Stop P F (.GK (m - 1))) b n (AA M d (.bool false)) ds (.inRegion ops rest::k) cs s):
  JL (A9 P true) (Stop P F (.Ih m)) b n M ds (.inRegion ops (i::rest)::k) cs s:=by
 refine H3 (vs:=[.pointer (some F.sA),.int .u64 (Fam.word m 0),.int .u64 (Fam.word m 1)]) O hw U H.f_uCas (nm_uCas L) V (by simp[evs,Y,Z,ac]) (rT V) λam back=>JL.go 8 V (Bi V V V (λρ h=>Yl.fieldAddr H.underlying_tAU V (GQ H.sizeOf_tU64) (h _ _ V)) ?_);refine JL.go 2 V (iB (m:=m) K V V V V (fS H) V V V ?_ ?_);refine Bi V V V (λρ h=>Yl.assign (h _ _ V)) (JL.done ?_);exact JL.ret V V (BL.one H.f_uCas V V) (back _ _ _ _ ag);refine Bi V V V (λρ h=>Yl.assign (h _ _ V)) (JL.done ?_);exact JL.ret V V (BL.one H.f_uCas V V) (back _ _ _ _ al)
end
theorem M6{v wt:Nat}(K:v<2147483648)(O:wt<=1):IntKind.u64.wrap (BitVec.ofInt IntKind.u64.bits (Fam.word v wt)&&& BitVec.ofInt IntKind.u64.bits 2147483648).toNat=0:=by
 have:=Go.ConcN.st_flag v wt K O;simpa [bits,Fam.word,Fam.KK] using this
theorem M8{v wt:Nat}(K:v<2147483648)(O:wt<=1):IntKind.u64.wrap (BitVec.ofInt IntKind.u64.bits (Fam.word v wt)&&& BitVec.ofInt IntKind.u64.bits 2147483647).toNat=(wt:Int):=by
 have:=Go.ConcN.st_waiters v wt K O;simpa [bits,Fam.word,Fam.KK] using this
theorem MQ{v wt:Nat}(K:wt<=1):(Fam.word v wt).fdiv (2^(min (32:Int).toNat IntKind.u64.bits))=(v:Int):=by
 have e:(2:Int)^(min (32:Int).toNat IntKind.u64.bits)=4294967296:=by decide
 rw[e,t8 _ (by decide)];simp only[Fam.word,Fam.KK];omega
theorem wrap_i32{v:Nat}(K:v<2147483648):IntKind.i32.wrap (v:Int)=v:=by
 simp only[IntKind.wrap,IntKind.bits,IntKind.signed];simp;split<;>omega
theorem wrap_u32{v:Nat}(K:v<=1):IntKind.u32.wrap (v:Int)=v:=by
 simp only[IntKind.wrap,IntKind.bits,IntKind.signed];simp;omega
theorem bm{F:Fam}:∀v wt sm r,F.act .HE v wt sm=some r->r.1=(v,wt,sm)/\r.2.1=#[Fam.Cu F.sA]:=by
 intro v wt sm r h;simp only[Fam.act] at h;split at h;rename_i K;obtain⟨rfl,rfl⟩:=K;cases h;exact⟨V,V⟩;cases h
theorem cC{F:Fam}{v wt:Nat}{r}(h:F.act .HE v wt sm=some r):v=0/\wt=1/\r.2.2=.ph .H5:=by
 simp only[Fam.act] at h;split at h;rename_i K;cases h;exact⟨K.1,K.2,V⟩;cases h
section
variable {P:Program}{L:WgLink}(H:WgLib P L){F:Fam}{n:Nat}{M:Env}{ds:Ld_}{k:Li_}{cs:Lf_}{s:St}{b:Frame}
include H
theorem bI(U:s.q=false)(Y:ops[i]?=some ⟨d,.call ⟨.value (.func L.add),#[x,y],ats⟩,ty,pp,af,g⟩)(hw:A2 M ops ⟨d,.call ⟨.value (.func L.add),#[x,y],ats⟩,ty,pp,af,g⟩=some true)(Z:((b.kind != .early)&&Bz n d)=true)
  (ac:ev M x=some (.pointer (some F.sA))) (ag:ev M y=some (.int .i64 (-1)))
  (h:JL (Jf P) (Ka P 0) b n (AA M d (.tuple #[])) ds (.inRegion ops rest::k) cs .quiet):
  JL (A9 P false) (Stop P F .I1) b n M ds (.inRegion ops (i::rest)::k) cs s:=by
 refine H3 (vs:=[.pointer (some F.sA),.int .i64 (-1)]) Y hw Z H.f_add (nm_add L) V (by simp[evs,ac,ag]) (rT V) λam back=>JL.go 11 V (NY (p:=.I1) (q:=.Hp) (ad:=F.sA) V U (by simp) (λ_ _ _=>V) V V V V V H.underlying_tWgP H.underlying_tUP H.room_tWg V (.inl V) ?_)
 refine RR (p:=.Hp) (q:=.Kb) (mk:=.releaseMerge) (ad:=F.sA) (vs:=[.pointer (some F.sA)]) V U (by simp) (λ_ _ _=>V) V V V V (by simp) (T8 H) V V (JL.go 3 V ?_);refine NM (p:=.Kb) (q:=.Il) V V (by simp) (λ_ _ _=>V) V V V V V (by simp) (O2 H) (JL.go 2 V ?_);refine JL.defer (vs:=[]) V V V V V (JL.go 8 V ?_);refine JL.ext (vs:=[]) V V V (Uw H) V V (JL.go 7 V ?_);refine Bi V V V (λρ h=>Yl.fieldAddr H.underlying_tWg V (GQ H.sizeOf_tAU) (h _ _ V)) (JL.go 1 V ?_);refine Bi V V V (λρ h=>FZ H.underlying_t3 H.underlying_tU64 (h _ _ V)) ?_
 refine Bi (v:=.int .u64 18446744069414584320) V V V (λρ h=>(Yl.shl (h _ _ V) (h _ _ V) (by decide)).to (r5 _ (by decide))) (dz H V V V V V ?_ λv wt ap K aq=>?_)
 .refine Bi V V V (λρ h=>Yl.assign (h _ _ V)) (JL.go 5 V ?_);refine Bi (v:=.int .u64 0) V V V (λρ h=>(Yl.and (h _ _ V) (h _ _ V)).to (r5 _ (M6 (v:=0) (wt:=1) (by decide) (by decide)))) (Bi V V V (λρ h=>Yl.neq (h _ _ V) (h _ _ V)) ?_);refine JL.go 10 V (Bi (v:=.int .u64 (0:Nat)) V V V (λρ h=>(Yl.shr (h _ _ V) (h _ _ V) (by decide)).to (r5 _ (MQ (v:=0) (wt:=1) (by decide)))) ?_);refine Bi (v:=.int .i32 (0:Nat)) V V V (λρ h=>(FZ H.underlying_tU64 H.underlying_t21 (h _ _ V)).to (r5 _ (wrap_i32 (by decide)))) ?_
  refine JL.go 5 V (Bi (v:=.int .u64 (1:Nat)) V V V (λρ h=>(Yl.and (h _ _ V) (h _ _ V)).to (r5 _ (M8 (v:=0) (wt:=1) (by decide) (by decide)))) ?_);refine Bi (v:=.int .u32 (1:Nat)) V V V (λρ h=>(FZ H.underlying_tU64 H.underlying_tU32 (h _ _ V)).to (r5 _ (wrap_u32 (by decide)))) ?_
  refine JL.go 30 V (Bi V V V (λρ h=>Yl.neq (h _ _ V) (h _ _ V)) ?_);refine JL.go 30 V (Bi V V V (λρ h=>Yl.fieldAddr H.underlying_tWg V (GQ H.sizeOf_tAU) (h _ _ V)) ?_);refine JL.uLoad H (p:=.HE) V V (by simp) V bm V V V V λv wt sm r al=>?_;obtain⟨rfl,rfl,e⟩:=cC al;refine⟨.H5,e,?_⟩;refine JL.go 1 V (Bi (v:=.bool false) V V V (λρ h=>(Yl.neq (h _ _ V) (h _ _ V)).to (by simp)) ?_);refine JL.go 7 V (Bi V V V (λρ h=>Yl.fieldAddr H.underlying_tWg V (GQ H.sizeOf_tAU) (h _ _ V)) ?_);refine JL.uStore H V V V V V (JL.go 9 V ?_);refine Ja (JL.go 4 V ?_);refine Bi V V V (λρ h=>Yl.neq (h _ _ V) (h _ _ V)) (JL.go 8 V ?_);refine Bi V V V (λρ h=>Yl.fieldAddr H.underlying_tWg V (GQ H.sizeOf_tU32) (h _ _ V)) (cI (vs:=[.pointer (some F.mA),.bool false,.int .i64 0]) V V V V (bh H) V V ?_);refine JL.go 4 V (Bi (v:=.int .u32 ((0:Nat):Int)) V V V (λρ h=>(Yl.sub (h _ _ V) (h _ _ V)).to (r5 _ (by decide))) ?_);refine JL.go 2 V (JL.again ?_);refine JL.go 4 V (Bi V V V (λρ h=>Yl.neq (h _ _ V) (h _ _ V)) ?_);refine JL.go 3 V (JL.out V (JO.P2 V (Km H) (JO.leave V (BL.none H.f_add V) (back _ _ _ _ h))))
 .refine Bi V V V (λρ h=>Yl.assign (h _ _ V)) (JL.go 5 V ?_);refine Bi (v:=.int .u64 0) V V V (λρ h=>(Yl.and (h _ _ V) (h _ _ V)).to (r5 _ (M6 (v:=v) (wt:=wt) (by omega) K))) (Bi V V V (λρ h=>Yl.neq (h _ _ V) (h _ _ V)) ?_);refine JL.go 10 V (Bi (v:=.int .u64 (v:Nat)) V V V (λρ h=>(Yl.shr (h _ _ V) (h _ _ V) (by decide)).to (r5 _ (MQ (v:=v) (wt:=wt) K))) ?_);refine Bi (v:=.int .i32 (v:Nat)) V V V (λρ h=>(FZ H.underlying_tU64 H.underlying_t21 (h _ _ V)).to (r5 _ (wrap_i32 (by omega)))) ?_
  refine JL.go 5 V (Bi (v:=.int .u64 (wt:Nat)) V V V (λρ h=>(Yl.and (h _ _ V) (h _ _ V)).to (r5 _ (M8 (v:=v) (wt:=wt) (by omega) K))) ?_);refine Bi (v:=.int .u32 (wt:Nat)) V V V (λρ h=>(FZ H.underlying_tU64 H.underlying_tU32 (h _ _ V)).to (r5 _ (wrap_u32 K))) ?_
  refine JL.go 22 V (Bi (v:=.bool false) V V V (λρ h=>(Yl.lss (h _ _ V) (h _ _ V)).to (by simp)) ?_);refine JL.go 6 V ?_;by_cases O:wt=0;refine Bi V V V (λρ h=>Yl.move (h _ _ V)) (Bi (v:=.bool false) V V V (λρ h=>(Yl.neq (h _ _ V) (h _ _ V)).to (by simp[O])) ?_);refine JL.go 16 V ?_;by_cases av:0<v;refine Bi V V V (λρ h=>Yl.move (h _ _ V)) (Bi (v:=.bool true) V V V (λρ h=>(Yl.gtr (h _ _ V) (h _ _ V)).to (by simp<;>omega)) ?_);refine JL.go 6 V (HX V (JO.P2 V (Km H) (JO.leave V (BL.none H.f_add V) (back _ _ _ _ h))));refine Bi V V V (λρ h=>Yl.move (h _ _ V)) (Bi (v:=.bool false) V V V (λρ h=>(Yl.gtr (h _ _ V) (h _ _ V)).to (by simp<;>omega)) ?_);refine JL.go 2 V (Bi (v:=.bool true) V V V (λρ h=>(Yl.eql (h _ _ V) (h _ _ V)).to (by simp[O])) ?_);refine JL.go 3 V (HX V (JO.P2 V (Km H) (JO.leave V (BL.none H.f_add V) (back _ _ _ _ h))));refine Bi V V V (λρ h=>Yl.move (h _ _ V)) (Bi (v:=.bool true) V V V (λρ h=>(Yl.neq (h _ _ V) (h _ _ V)).to (by simp[O])) ?_);refine JL.go 17 V (Bi (v:=.bool true) V V V (λρ h=>(Yl.gtr (h _ _ V) (h _ _ V)).to (by simp<;>omega)) ?_);refine JL.go 6 V (HX V (JO.P2 V (Km H) (JO.leave V (BL.none H.f_add V) (back _ _ _ _ h))))
theorem bU{j:Nat}(K:s.q=false)(O:ops[i]?=some ⟨d,.call ⟨.value (.func L.add),#[x,y],ats⟩,ty,pp,af,g⟩)(hw:A2 M ops ⟨d,.call ⟨.value (.func L.add),#[x,y],ats⟩,ty,pp,af,g⟩=some true)(U:((b.kind != .early)&&Bz n d)=true)
  (Y:ev M x=some (.pointer (some F.sA))) (Z:ev M y=some (.int .i64 1))
  (h:JL (A9 P true) (Stop P F (.Gu j)) b n (AA M d (.tuple #[])) ds (.inRegion ops rest::k) cs s):
  JL (A9 P true) (Stop P F (.GZ j)) b n M ds (.inRegion ops (i::rest)::k) cs s:=by
 refine H3 (vs:=[.pointer (some F.sA),.int .i64 1]) O hw U H.f_add (nm_add L) V (by simp[evs,Y,Z]) (rT V) λac back=>JL.go 12 V (NM (p:=.GZ j) (q:=.Jv j) V K (by simp) (λ_ _ _=>V) V V V V V (by simp) (O2 H) ?_);refine JL.go 2 V (JL.defer (vs:=[]) V V V V V ?_);refine JL.go 8 V (JL.ext (vs:=[]) V V V (Uw H) V V ?_);refine JL.go 7 V (Bi V V V (λρ h=>Yl.fieldAddr H.underlying_tWg V (GQ H.sizeOf_tAU) (h _ _ V)) ?_);refine JL.go 1 V (Bi V V V (λρ h=>FZ H.underlying_t3 H.underlying_tU64 (h _ _ V)) ?_)
 refine Bi (v:=.int .u64 4294967296) V V V (λρ h=>(Yl.shl (h _ _ V) (h _ _ V) (by decide)).to (r5 _ (by decide))) (du H K V V V V V ?_ λv ag al=>?_)
 .refine Bi V V V (λρ h=>Yl.assign (h _ _ V)) (JL.go 5 V ?_);refine Bi (v:=.int .u64 0) V V V (λρ h=>(Yl.and (h _ _ V) (h _ _ V)).to (r5 _ (M6 (v:=1) (wt:=0) (by decide) (by decide)))) (Bi V V V (λρ h=>Yl.neq (h _ _ V) (h _ _ V)) ?_);refine JL.go 10 V (Bi (v:=.int .u64 (1:Nat)) V V V (λρ h=>(Yl.shr (h _ _ V) (h _ _ V) (by decide)).to (r5 _ (MQ (v:=1) (wt:=0) (by decide)))) ?_);refine Bi (v:=.int .i32 (1:Nat)) V V V (λρ h=>(FZ H.underlying_tU64 H.underlying_t21 (h _ _ V)).to (r5 _ (wrap_i32 (by decide)))) ?_
  refine JL.go 5 V (Bi (v:=.int .u64 (0:Nat)) V V V (λρ h=>(Yl.and (h _ _ V) (h _ _ V)).to (r5 _ (M8 (v:=1) (wt:=0) (by decide) (by decide)))) ?_);refine Bi (v:=.int .u32 (0:Nat)) V V V (λρ h=>(FZ H.underlying_tU64 H.underlying_tU32 (h _ _ V)).to (r5 _ (wrap_u32 (by decide)))) ?_
  refine JL.go 12 V (Bi (v:=.int .i32 1) V V V (λρ h=>(FZ H.underlying_t3 H.underlying_t21 (h _ _ V)).to (r5 _ (by decide))) ?_)
  refine Bi (v:=.bool true) V V V (λρ h=>(Yl.eql (h _ _ V) (h _ _ V)).to (by simp)) (JL.go 6 V ?_);refine Bi V V V (λρ h=>Yl.fieldAddr H.underlying_tWg V (GQ H.sizeOf_tU32) (h _ _ V)) (NY (p:=.JE j) (q:=.IQ j) (ad:=F.mA) V K (by simp) (λ_ _ _=>V) V V V V V H.underlying_tPU32 H.underlying_tUP H.room_tU32 V (.inr V) ?_)
  refine RR (p:=.IQ j) (q:=.HO j) (mk:=.read) (ad:=F.mA) (vs:=[.pointer (some F.mA)]) V K (by simp) (λ_ _ _=>V) V V V V (by simp) (cH H) V V (JL.go 5 V ?_);refine Bi (v:=.bool false) V V V (λρ h=>(Yl.lss (h _ _ V) (h _ _ V)).to (by simp)) (JL.go 7 V ?_);refine Bi (v:=.bool false) V V V (λρ h=>(Yl.neq (h _ _ V) (h _ _ V)).to (by simp)) (JL.go 17 V ?_);refine Bi (v:=.bool true) V V V (λρ h=>(Yl.gtr (h _ _ V) (h _ _ V)).to (by simp)) (JL.go 6 V ?_);exact HX V (JO.WO K V (Km H) (JO.leave V (BL.none H.f_add V) (back _ _ _ _ h)))
 .refine Bi V V V (λρ h=>Yl.assign (h _ _ V)) (JL.go 5 V ?_);refine Bi (v:=.int .u64 0) V V V (λρ h=>(Yl.and (h _ _ V) (h _ _ V)).to (r5 _ (M6 (v:=(v+1)) (wt:=0) (by omega) (by decide)))) (Bi V V V (λρ h=>Yl.neq (h _ _ V) (h _ _ V)) ?_);refine JL.go 10 V (Bi (v:=.int .u64 ((v+1):Nat)) V V V (λρ h=>(Yl.shr (h _ _ V) (h _ _ V) (by decide)).to (r5 _ (MQ (v:=(v+1)) (wt:=0) (by decide)))) ?_);refine Bi (v:=.int .i32 ((v+1):Nat)) V V V (λρ h=>(FZ H.underlying_tU64 H.underlying_t21 (h _ _ V)).to (r5 _ (wrap_i32 (by omega)))) ?_
  refine JL.go 5 V (Bi (v:=.int .u64 (0:Nat)) V V V (λρ h=>(Yl.and (h _ _ V) (h _ _ V)).to (r5 _ (M8 (v:=(v+1)) (wt:=0) (by omega) (by decide)))) ?_);refine Bi (v:=.int .u32 (0:Nat)) V V V (λρ h=>(FZ H.underlying_tU64 H.underlying_tU32 (h _ _ V)).to (r5 _ (wrap_u32 (by decide)))) ?_
  refine JL.go 12 V (Bi (v:=.int .i32 1) V V V (λρ h=>(FZ H.underlying_t3 H.underlying_t21 (h _ _ V)).to (r5 _ (by decide))) ?_)
  refine Bi (v:=.bool false) V V V (λρ h=>(Yl.eql (h _ _ V) (h _ _ V)).to (by simp<;>omega)) (JL.go 8 V ?_);refine Bi (v:=.bool false) V V V (λρ h=>(Yl.lss (h _ _ V) (h _ _ V)).to (by simp<;>omega)) (JL.go 7 V ?_);refine Bi (v:=.bool false) V V V (λρ h=>(Yl.neq (h _ _ V) (h _ _ V)).to (by simp)) (JL.go 17 V ?_);refine Bi (v:=.bool true) V V V (λρ h=>(Yl.gtr (h _ _ V) (h _ _ V)).to (by simp<;>omega)) (JL.go 6 V ?_);exact HX V (JO.WO K V (Km H) (JO.leave V (BL.none H.f_add V) (back _ _ _ _ h)))
omit H in
theorem bF{m:Nat}:∀v wt sm r,F.act (.GK m) v wt sm=some r->r.1=(v,wt,sm)/\r.2.1=#[Fam.Cu F.sA]:=by
 intro v wt sm r h;simp only[Fam.act] at h;split at h;rename_i K;obtain⟨_,rfl⟩:=K;cases h;exact⟨V,V⟩;cases h
omit H in
theorem cW{m v wt:Nat}{r}(h:F.act (.GK m) v wt sm=some r):v<=m/\wt=0/\r.2.2=if v=0 then .ph .GN else .ph (.Ih v):=by
 simp only[Fam.act] at h;split at h;rename_i K;cases h;exact⟨K.1,K.2,V⟩;cases h
omit H in
theorem ZB:∀v wt sm r,F.act .H6 v wt sm=some r->r.1=(v,wt,sm)/\r.2.1=#[Fam.Cu F.sA]:=by
 intro v wt sm r h;simp only[Fam.act] at h;split at h;rename_i K;obtain⟨rfl,rfl⟩:=K;cases h;exact⟨V,V⟩;cases h
omit H in
theorem aY{v wt:Nat}{r}(h:F.act .H6 v wt sm=some r):v=0/\wt=0/\r.2.2=.ph .GN:=by
 simp only[Fam.act] at h;split at h;rename_i K;cases h;exact⟨K.1,K.2,V⟩;cases h
omit H in
theorem bD{v:Nat}(K:v<2147483648):IntKind.u64.wrap (Fam.word v 0+1)=Fam.word v 1:=by
 simp only[Fam.word,Fam.KK,IntKind.wrap,IntKind.bits,IntKind.signed];simp;omega
theorem JL.wait(ap:F.n<2147483648)(K:s.q=false)(aq:ops[i]?=some ⟨d,.call ⟨.value (.func L.wait),#[x],ats⟩,ty,pp,af,g⟩)(hw:A2 M ops ⟨d,.call ⟨.value (.func L.wait),#[x],ats⟩,ty,pp,af,g⟩=some true)(av:((b.kind != .early)&&Bz n d)=true)
  (aw:ev M x=some (.pointer (some F.sA)))
  {Q:GP}(al:∀g s,(Hi P).ok Q g s->F.fin g s)
  (h:∀E' f,Le s.E E'->E' F.fd=none->(∀b,E' b≠none->s.H b=none)->(∀k,k<F.n->F.msg k (f k) E')->JL (Hi P) Q b n (AA M d (.tuple #[])) ds (.inRegion ops rest::k) cs ⟨E',F.K9 s.H f,false⟩):
  JL (A9 P true) (Stop P F .DZ) b n M ds (.inRegion ops (i::rest)::k) cs s:=by
 refine H3 (vs:=[.pointer (some F.sA)]) aq hw av H.f_wait (nm_wait L) V (by simp[evs,aw]) (rT V) λa0 back=>JL.go 3 V (NM (p:=.DZ) (q:=.GK F.n) V K (by simp) (λ_ _ _=>V) V V V V V (by simp) (O2 H) ?_);refine JL.go 2 V (Ja ?_);refine EV (L':=[(0,.pointer (some F.sA))]) ⟨V,trivial⟩ ?_;generalize F.n=m at ap ⊢
 induction m using Nat.strongRecOn with
 | _ m ay=>?_
 refine JL.go 5 V (Bi V V V (λρ h=>Yl.fieldAddr H.underlying_tWg V (GQ H.sizeOf_tAU) (h _ _ V)) ?_);refine JL.uLoad H (p:=.GK m) V K (by simp) V bF V V V V λv wt sm r U=>?_;obtain⟨a1,rfl,e⟩:=cW U;have O:v<2147483648:=by omega
 by_cases am:v=0
 .subst am;refine⟨.GN,e,?_⟩;refine JL.go 5 V (Bi (v:=.int .u64 (0:Nat)) V V V (λρ h=>(Yl.shr (h _ _ V) (h _ _ V) (by decide)).to (r5 _ (MQ (v:=0) (wt:=0) (by decide)))) ?_);refine Bi (v:=.int .i32 (0:Nat)) V V V (λρ h=>(FZ H.underlying_tU64 H.underlying_t21 (h _ _ V)).to (r5 _ (wrap_i32 (by decide)))) ?_
  refine JL.go 5 V (Bi (v:=.int .u64 ((0:Nat):Int)) V V V (λρ h=>(Yl.and (h _ _ V) (h _ _ V)).to (r5 _ (M8 (v:=0) (wt:=0) (by decide) (by decide)))) ?_);refine Bi (v:=.int .u32 ((0:Nat):Int)) V V V (λρ h=>(FZ H.underlying_tU64 H.underlying_tU32 (h _ _ V)).to (r5 _ (wrap_u32 (by decide)))) ?_
  refine JL.go 6 V (Bi (v:=.bool true) V V V (λρ h=>(Yl.eql (h _ _ V) (h _ _ V)).to (by simp)) ?_);refine JL.go 6 V (NM (p:=.GN) (q:=.Ju) V K (by simp) (λ_ _ _=>V) V V V V V (by simp) (Km H) ?_);refine JL.go 3 V (NY (p:=.Ju) (q:=.G3) (ad:=F.sA) V K (by simp) (λ_ _ _=>V) V V V V V H.underlying_tWgP H.underlying_tUP H.room_tWg V (.inl V) ?_)
  refine WK (vs:=[.pointer (some F.sA)]) K V V V V (Ry H) V V λE' Y z1 Z ac ag T az=>al _ _ ?_;revert T;refine(?_:JL (Hi P) Q _ _ _ _ _ _ _);refine JL.go 5 V (Bi (v:=.bool true) V V V (λρ h=>(Yl.eql (h _ _ V) (h _ _ V)).to (by simp)) ?_);refine JL.go 2 V (Bi (v:=.int .u64 0) V V V (λρ h=>(Yl.and (h _ _ V) (h _ _ V)).to (r5 _ (M6 (v:=0) (wt:=0) (by decide) (by decide)))) ?_);refine Bi (v:=.bool false) V V V (λρ h=>(Yl.neq (h _ _ V) (h _ _ V)).to (by simp)) (JL.go 8 V ?_);exact JL.ret V V (BL.none H.f_wait V) (back _ _ _ _ (h E' Y z1 Z ac ag))
 .refine⟨.Ih v,by rw[e,d0 am],?_⟩;refine JL.go 5 V (Bi (v:=.int .u64 (v:Nat)) V V V (λρ h=>(Yl.shr (h _ _ V) (h _ _ V) (by decide)).to (r5 _ (MQ (v:=v) (wt:=0) (by decide)))) ?_);refine Bi (v:=.int .i32 (v:Nat)) V V V (λρ h=>(FZ H.underlying_tU64 H.underlying_t21 (h _ _ V)).to (r5 _ (wrap_i32 O))) ?_
  refine JL.go 5 V (Bi (v:=.int .u64 ((0:Nat):Int)) V V V (λρ h=>(Yl.and (h _ _ V) (h _ _ V)).to (r5 _ (M8 (v:=v) (wt:=0) O (by decide)))) ?_);refine Bi (v:=.int .u32 ((0:Nat):Int)) V V V (λρ h=>(FZ H.underlying_tU64 H.underlying_tU32 (h _ _ V)).to (r5 _ (wrap_u32 (by decide)))) ?_
  refine JL.go 6 V (Bi (v:=.bool false) V V V (λρ h=>(Yl.eql (h _ _ V) (h _ _ V)).to (by simp<;>omega)) ?_);refine JL.go 7 V (Bi V V V (λρ h=>Yl.fieldAddr H.underlying_tWg V (GQ H.sizeOf_tAU) (h _ _ V)) ?_);refine JL.go 2 V (Bi (v:=.int .u64 (Fam.word v 1)) V V V (λρ h=>(Yl.add (h _ _ V) (h _ _ V)).to (r5 _ (bD O))) ?_);refine JL.uCas H (m:=v) K V V V V V V ?_ ?_
  .refine JL.done (JL.go 6 V ?_);refine Bi (v:=.bool true) V V V (λρ h=>(Yl.eql (h _ _ V) (h _ _ V)).to (by simp)) (JL.go 6 V ?_);refine Bi V V V (λρ h=>Yl.fieldAddr H.underlying_tWg V (GQ H.sizeOf_tU32) (h _ _ V)) (NY (p:=.JF) (q:=.IZ) (ad:=F.mA) V K (by simp) (λ_ _ _=>V) V V V V V H.underlying_tPU32 H.underlying_tUP H.room_tU32 V (.inr V) ?_)
   refine RR (p:=.IZ) (q:=.Gc) (mk:=.write) (ad:=F.mA) (vs:=[.pointer (some F.mA)]) V K (by simp) (λ_ _ _=>V) V V V V (by simp) (aV H) V V (JL.go 9 V ?_);refine Bi (v:=.int .u64 0) V V V (λρ h=>(Yl.and (h _ _ V) (h _ _ V)).to (r5 _ (M6 (v:=v) (wt:=0) O (by decide)))) (Bi (v:=.bool false) V V V (λρ h=>(Yl.neq (h _ _ V) (h _ _ V)).to (by simp)) ?_);refine JL.go 10 V (Bi V V V (λρ h=>Yl.fieldAddr H.underlying_tWg V (GQ H.sizeOf_tU32) (h _ _ V)) ?_);refine JL.go 1 V (ZY (vs:=[.pointer (some F.mA),.bool false]) K V V V V (Zl H) V V ?_);refine JL.go 5 V (Bi V V V (λρ h=>Yl.fieldAddr H.underlying_tWg V (GQ H.sizeOf_tAU) (h _ _ V)) ?_);refine JL.uLoad H (p:=.H6) V K (by simp) V ZB V V V V λv wt sm r U=>?_;obtain⟨rfl,rfl,e⟩:=aY U;refine⟨.GN,e,?_⟩;refine Bi (v:=.bool false) V V V (λρ h=>(Yl.neq (h _ _ V) (h _ _ V)).to (by simp[Fam.word])) (JL.go 6 V ?_);refine NM (p:=.GN) (q:=.Ju) V K (by simp) (λ_ _ _=>V) V V V V V (by simp) (Km H) (JL.go 3 V ?_);refine NY (p:=.Ju) (q:=.G3) (ad:=F.sA) V K (by simp) (λ_ _ _=>V) V V V V V H.underlying_tWgP H.underlying_tUP H.room_tWg V (.inl V) ?_
   refine WK (vs:=[.pointer (some F.sA)]) K V V V V (Ry H) V V λE' Y z1 Z ac ag T az=>al _ _ ?_;revert T;refine(?_:JL (Hi P) Q _ _ _ _ _ _ _);exact JL.go 8 V (JL.ret V V (BL.none H.f_wait V) (back _ _ _ _ (h E' Y z1 Z ac ag)))
  .refine JL.done (JL.go 3 V ?_);refine JL.again (EV (L':=[(0,.pointer (some F.sA))]) ⟨V,trivial⟩ ?_);exact ay (v - 1) (by omega) (by omega)
theorem JO.lA(K:b.roundOf=none)(O:s.q=false)(h:JO (Jf P) (Ka P 0) b n M ds cs .quiet):
  JO (A9 P false) (Stop P F .I1) b n M (dcall L.done #[.pointer (some F.sA)]::ds) cs s:=by
 refine JO.enter (vs:=[.pointer (some F.sA)]) K H.f_done (nm_done L) V (rT V) λT U todo=>JL.go 2 V (bI H O V V V V V ?_);exact JL.done (JL.out V (JO.leaveD V H.f_done V (.inl V) (h T U todo)))
end
end Pal
namespace Pal
open Go Go.Conc
variable {P:Program}{J:Judge P}{Q:Gs_}{g:Goroutine}{cs:Lf_}{c:Frame}{E:LH}{S S':List Seg}
variable{f:FuncId}{vs:Lv_}{seg:Seg}{R:Value->LH->Seg->Prop}
section
variable {H:LH}
theorem Pv(K:S.flatten.Perm S'.flatten)(O:Av E H S)(h:Av E H S'->J.ok Q g (Ak E H S')):J.ok Q g (Ak E H S):=by
 have U:Ak E H S=Ak E H S':=FK O K;rw[U];exact h (Nd.perm O K)
theorem So(K:S'.flatten=S.flatten)(O:Av E H S)(h:Av E H S'->J.ok Q g (Ak E H S')):J.ok Q g (Ak E H S):=Pv (by rw[K]) O h
theorem dF(j:Nat)(al:AZ J f vs E seg R)(K:Av E H S)(O:S[j]?=some seg)
  (am:∀v E' seg',Le E E'->R v E' seg'->Av E' H (S.set j seg')->J.ok Q (G (c.finish v) cs) (Ak E' H (S.set j seg'))):
  J.ok Q (G (Frame.enter P f vs.toArray .normal) (c::cs)) (Ak E H S):=by
 have U:S.flatten.Perm (seg++(S.set j []).flatten):=(EU (seg':=seg) O).1.trans r0;have Y:Nd E H (seg++(S.set j []).flatten):=Nd.perm K U;have ap:Ak E H S=mk E (By (S.set j []).flatten H) seg:=by
  rw[show Ak E H S=mk E H S.flatten from rfl,FK K U];unfold mk;rw[Gm]
 have Z:=Fj.Mk (al (By (S.set j []).flatten H) (Nd.front Y)) (by rintro v s' ⟨E',B',_,_,_,rfl⟩;rfl);rw[← ap] at Z;refine Z Q c cs ?_;rintro v a4 ⟨⟨E',B',hle,aq,av,rfl⟩,w,aw⟩;have e2:mk E' (By (S.set j []).flatten H) B'=mk E' H (B'++(S.set j []).flatten):=by unfold mk;rw[Gm]
 have ay:Nd E H (S.set j []).flatten:=by
  have:=Y;rw[Nd.iff] at this ⊢;rw[sB,sR] at this;exact⟨this.1.2.1,λq az=>this.2 q (sc _ az)⟩
 have a0:Nd E' H (S.set j []).flatten:=ay.grow λx a1=>by
  have a2:=aw.d x a1;have a3:By B' (By (S.set j []).flatten H) x=none:=a2;exact(IA a3).1
 have ac:Nd E' H (B'++(S.set j []).flatten):=Nd.glue av a0;rw[e2];have ag:(B'++(S.set j []).flatten).Perm (S.set j B').flatten:=r0.trans (EU O).2.symm;rw[FK ac ag];exact am v E' B' hle aq (Nd.perm ac ag)
end
variable {b:Frame}{L:Env}{ds:Ld_}{k:Li_}{ops:Ao_}{i:Nat}{rest:List Nat}{d:Option Tmp}{t ty e:TypeId}{p:String}{af:Ae_}
section
variable {n:Nat}{H:LH}{g:On_}
end
theorem ZG{E H:LH}{a b c:Nat}{K O U:Obj}(ac:Av E H [[(a,K)],[(b,O)],[(c,U)]]):(⟨E,K5 (Ak E H [[(a,K)],[(b,O)],[(c,U)]]).H b a c,false⟩:St)=Ak E H []:=by
 have h:=Nd.iff.1 ac;have ag:H a=none:=(h.2 (a,K) (by simp)).2;have al:H b=none:=(h.2 (b,O) (by simp)).2;have am:H c=none:=(h.2 (c,U) (by simp)).2;unfold Ak mk;congr 1;funext x;simp only[K5,Ak,mk,su,vI,r9,tl,sP,By];by_cases Y:x=a;subst Y;simp[ag];by_cases e2:x=b;subst e2;simp[al];by_cases Z:x=c;subst Z;simp[am];simp[Y,e2,Z]
theorem Hy{P:Program}{J:Judge P}{Q:Gs_}{b:Frame}{n:Nat}{L:Env}{ds:Ld_}{cs:Lf_}{E H:LH}{S:List Seg}{todo:Li_}{A B:Seg}(j K:Nat)(O:S[j]?=some A)(Z:(S.set j [])[K]?=some B)(ac:Av E H S)
  (h:Av E H (((S.set j []).set K []).set j (A++B))->JL J Q b n L ds todo cs (Ak E H (((S.set j []).set K []).set j (A++B)))):JL J Q b n L ds todo cs (Ak E H S):=by
 refine JS.perm ?_ ac h;have U:j<S.length:=(d7.1 O).1;have ag:=(EU (seg':=A) O).1;have al:=(EU (seg':=B) Z).1;have am:((S.set j []).set K [])[j]?=some []:=by
  by_cases e:K=j;subst e;rw[tE (by simpa using U)];rw[tb e,tE U]
 have Y:=(EU (seg':=A++B) am).2;have ap:(((S.set j []).set K []).set j [])=(S.set j []).set K []:=by
  by_cases e:K=j;subst e;simp;rw[vy _ _ e];simp
 rw[ap] at Y;refine ag.trans (List.Perm.trans ?_ Y.symm);refine(List.Perm.append_right A al).trans ?_;rw[sb];exact u4 _ r0
def WL{α:Type}(e:TypeId)(pp:Rp α)(E:LH)(bk c n:Nat)(f:Av_)(xs:List α):Prop:=
 OL e pp E (some ⟨bk,0,none⟩) c [(bk,.cells f e (0,0))] xs/\xs.length=n
variable{α:Type}{bk:Nat}
theorem WL.M{e:TypeId}{pp:Rp α}{E E':LH}{c n:Nat}{f:Av_}{xs:List α}(h:WL e pp E bk c n f xs)(hle:Le E E'):WL e pp E' bk c n f xs:=⟨h.1.M hle,h.2⟩
theorem WL.at{e:TypeId}{pp:Rp α}{E:LH}{c n:Nat}{f:Av_}{xs:List α}{m:Int}{x:α}(h:WL e pp E bk c n f xs)(hm:ix xs m=some x):
  ∃ws,pp.r E ws x/\(∀j w,ws[j]?=some w->f[m.toNat*pp.n+j]?=some w):=by
 let⟨ws,K,O,_,_⟩:=OL.again h.1 hm V;exact⟨ws,K,O⟩
theorem WL.put{e:TypeId}{pp:Rp α}{E:LH}{c n:Nat}{f:Av_}{xs O:List α}{m:Int}{x0 x':α}{ws':Lv_}(h:WL e pp E bk c n f xs)(U:O.length=n)(hm:ix O m=some x0)(Y:pp.r E ws' x'):
  WL e pp E bk c n (Bc f (m.toNat*pp.n) ws') (xs.set m.toNat x')/\m.toNat*pp.n+pp.n<=f.size:=by
 obtain⟨K,rfl,Z⟩:=F7 hm;have ac:K<xs.length:=by rw[h.2,← U];exact(d7.1 Z).1
 have ag:ix xs (K:Int)=some xs[K]:=by simp[ix,ac]
 let⟨ws,ap,aq,al,am⟩:=OL.again h.1 ag V;exact⟨⟨am x' ws' Y,by rw[rW];exact h.2⟩,al⟩
theorem OL.cases{e:TypeId}{pp:Rp α}{E:LH}{a:Option Addr}{c:Nat}{xs:List α}(h:OL e pp E a c seg xs):
  (a=none/\c=0/\seg=[]/\xs=[])∨∃bk f,a=some ⟨bk,0,none⟩/\seg=[(bk,.cells f e (0,0))]/\WL e pp E bk c xs.length f xs:=by
 have Y:=h;obtain⟨wss,Z,ag,al⟩:=h;rcases Z with⟨K,O,U,ac,am⟩ | ⟨bk,f,K,O,U⟩;exact .inl ⟨K,U,ac,tk.1 O⟩;subst K O;exact .inr ⟨bk,f,V,V,Y,V⟩
theorem WL.of{e:TypeId}{pp:Rp α}{E:LH}{a:Option Addr}{c:Nat}{xs:List α}{m:Int}{x:α}(h:OL e pp E a c seg xs)(hm:ix xs m=some x):
  ∃bk f,(a=some ⟨bk,0,none⟩/\seg=[(bk,.cells f e (0,0))])/\WL e pp E bk c xs.length f xs:=by
 rcases OL.cases h with⟨_,_,_,rfl⟩ | ⟨bk,f,K,O,U⟩;let⟨k,_,h⟩:=F7 hm;simp at h;exact⟨bk,f,⟨K,O⟩,U⟩
theorem EW{P:Program}{s:St}{ρ:Operand->Value}{x y:Operand}{d:Option Tmp}{t ty e:TypeId}{p:String}{af:Ae_}{g:On_}{kd:IntKind}{xs:List α}{xv:α}{m:Int}{c K n:Nat}(O:xs.length=n)(hm:ix xs m=some xv)(U:P.underlying t=some (.slice e))(Y:BB P e=some K)(Z:ρ x=.slice (some ⟨bk,0,none⟩) n c)(ac:ρ y=.int kd m):
  Yl P ⟨d,.indexAddr t x y,ty,p,af,g⟩ ρ s (.pointer (some ⟨bk,m.toNat*K,none⟩)):=by
 subst O;exact df hm U Y Z ac
variable{ats:Array TypeId}
theorem W1{P:Program}{s:St}{ρ:Operand->Value}{x:Operand}{d:Option Tmp}{t ty e:TypeId}{p:String}{af:Ae_}{g:On_}{xs:List α}{a:Option Addr}{n c:Nat}(K:xs.length=n)(O:ats[0]?=some t)(U:P.underlying t=some (.slice e))(Y:ρ x=.slice a n c):
  Yl P ⟨d,.call ⟨.builtin .len,#[x],ats⟩,ty,p,af,g⟩ ρ s (.int .i64 (xs.length:Int)):=by
 subst K;exact Yl.len O U Y
variable {fuel:Nat}{D:Nat->Bool}{listed:Array Bool}{s:St}{E':LH}
variable {x y:Operand}{u:TypeId}{v:Value}{kd:IntKind}
variable{args:Array Operand}
section
variable {n m:Nat}{H:LH}
variable {g:On_}
theorem aG{R:Value->St->Prop}(U:s.q=false)(Y:Region.ready .any ops listed=[i])
  (Z:ops[i]?=some ⟨d,.call ⟨.value x,args,ats⟩,ty,p,af,g⟩) (ac:ev L x=some (.func (.func f) #[] #[])) (ag:Bz n d=true) (hw:A2 L ops ⟨d,.call ⟨.value x,args,ats⟩,ty,p,af,g⟩=some true) (hb:El P f=true) (al:evs L args.toList=some vs)
  (am:Fj J f vs.toArray s R) (h:∀v K,R v K->K.q=false/\(∀x o,(BC D s).E x=some o->(BC D K).E x=some o)/\A3 J Q b n ds ops k cs m D fuel (Bp listed i) (AA L d v) K):
  A3 J Q b n ds ops k cs m D (fuel+1) listed L s:=by
 refine A3.one U Y Z (by simp[EN,ag]) hw λρ O=>?_;have ap:args.map ρ=vs.toArray:=by
  rw[← GF O al];apply s5;simp
 have aq:ρ x=.func (.func f) #[] #[]:=O _ _ ac;simp only[execOp,resolve,bind,Sem.bind,Deferred.ofValue,aq,pure,invoke];have e: #[]++args.map ρ++ #[]=vs.toArray:=by rw[ap];simp
 rw[e];refine Kl hb ?_;rw[MI];exact⟨R,am,h⟩
theorem I8{bks:List Nat}(am:H7 S bks)(ap:AZ J f vs E [] R)(aq:Region.ready .any ops listed=[i])
  (av:ops[i]?=some ⟨d,.call ⟨.value x,args,ats⟩,ty,p,af,g⟩) (K:ev L x=some (.func (.func f) #[] #[])) (aw:Bz n d=true) (hw:A2 L ops ⟨d,.call ⟨.value x,args,ats⟩,ty,p,af,g⟩=some true) (hb:El P f=true) (ay:evs L args.toList=some vs) (Z:Av E H S)
  (az:∀v E' seg',Le E E'->R v E' seg'->Av E' H (S++ [seg'])->A3 J Q b n ds ops k cs m (AG bks) fuel (Bp listed i) (AA L d v) (Ak E' H (S++ [seg']))):
  A3 J Q b n ds ops k cs m (AG bks) (fuel+1) listed L (Ak E H S):=by
 have a0:=Fj.Mk (ap (By S.flatten H) trivial) (by rintro v s' ⟨E',B',_,_,_,rfl⟩;rfl);refine aG V aq av K aw hw hb ay a0 ?_;rintro v a8 ⟨⟨E',B',hle,a1,a2,rfl⟩,w,a3⟩;have e2:mk E' (By S.flatten H) B'=mk E' H (B'++S.flatten):=by unfold mk;rw[Gm]
 have a4:Nd E' H S.flatten:=Nd.grow Z λx K=>by
  have a5:=a3.d x K;have U:By B' (By S.flatten H) x=none:=a5;exact(IA U).1
 have ac:Nd E' H (B'++S.flatten):=Nd.glue a2 a4;have ag:(B'++S.flatten).Perm (S++ [B']).flatten:=by rw[Hz];exact r0
 have al:Av E' H (S++ [B']):=Nd.perm ac ag;rw[e2,FK ac ag];refine⟨V,λx o K=>?_,az v E' B' hle a1 al⟩;by_cases hd:AG bks x=true
 .obtain⟨j,o',Y⟩:=am.mem x (by simpa [AG] using hd);have U:(Ak E H S).get x=some o':=Ed (i:=0) Z Y V;have a6:j<S.length:=(d7.1 Y).1;have a7:(Ak E' H (S++ [B'])).get x=some o':=Ed (i:=0) al (by rw[rQ a6];exact Y) rfl;have O:(if AG bks x then(Ak E H S).get x else E x)=some o:=K
  show(if AG bks x then(Ak E' H (S++ [B'])).get x else E' x)=some o
  rw[d6 hd] at O ⊢;rw[a7,← U];exact O
 .have O:(if AG bks x then(Ak E H S).get x else E x)=some o:=K
  show(if AG bks x then(Ak E' H (S++ [B'])).get x else E' x)=some o
  rw[d0 hd] at O ⊢;exact hle _ _ O
end
section
variable {n:Nat}{H:LH}
variable {g:On_}
theorem LV
  (O:AZ J f vs E [] R) (U:ops[i]?=some ⟨d,.call ⟨.value x,args,ats⟩,ty,p,af,g⟩) (Y:ev L x=some (.func (.func f) #[] ([]:Lv_).toArray)) (hw:A2 L ops ⟨d,.call ⟨.value x,args,ats⟩,ty,p,af,g⟩=some true) (Z:((b.kind != .early)&&Bz n d)=true) (hb:El P f=true)
  (ac:evs L args.toList=some vs) (ag:Av E H S) (al:∀v E' seg',Le E E'->R v E' seg'->Av E' H (S++ [seg'])->JL J Q b n (AA L d v) ds (.inRegion ops rest::k) cs (Ak E' H (S++ [seg']))):
  JL J Q b n L ds (.inRegion ops (i::rest)::k) cs (Ak E H S):=by
 have am:HP J (.func (.func f) #[] ([]:Lv_).toArray) vs E [] R:=HP.ofFn hb (by rw[r9];exact O);have ap:Av E H (S++ [[]]):=by unfold Av at*;rw[Hz,r9];exact ag
 have aq:Ak E H S=Ak E H (S++ [[]]):=by unfold Ak;rw[Hz,r9]
 rw[aq];refine MP (seg:=[]) S.length am U hw Z Y ac ap (by simp) λv E' seg' hle av K=>?_;have aw:(S++ [([]:Seg)]).set S.length seg'=S++ [seg']:=JW _ _ _ _;rw[aw] at K ⊢;exact al v E' seg' hle av K
end
def Jy(a b:Int):Option Int:=if b=0 then none else Au (a.tdiv b)
def TL(l:List Nat)(i:Int):Option Nat:=if 0<=i then l[i.toNat]? else none
variable {ρ:Operand->Value}{z:Operand}{kd':IntKind}{m':Int}{a:Nat}
variable{r:Int}
section
variable {g:On_}{m:Int}{b:Nat}
theorem L5(K:ρ x=iV m)(O:ρ y=iV m')(h:Jy m m'=some r):Yl P ⟨d,.binOp .quo t x y u,ty,p,af,g⟩ ρ s (iV r):=by
 unfold Jy at h;split at h;cases h
 .rename_i U;obtain⟨rfl,hb⟩:=MJ h;have:=Yl.quo (P:=P) (s:=s) (d:=d) (t:=t) (u:=u) (ty:=ty) (p:=p) (af:=af) (g:=g) K O U
  rwa[KZ hb] at this
theorem mr{a:Nat}:IntKind.u8.wrap (a:Int)=((a%256:Nat):Int):=by
 simp only[IntKind.wrap,IntKind.bits,IntKind.signed];simp
theorem gI(K:P.underlying t=some (.int .u64))(hu:P.underlying u=some (.int .u8))(O:ρ x=.int .u64 (a:Int)):Yl P ⟨d,.convert t u x,ty,p,af,g⟩ ρ s (.int .u8 ((a%256:Nat):Int)):=by
 have h:=FZ (P:=P) (s:=s) (d:=d) (ty:=ty) (p:=p) (af:=af) (g:=g) K hu O
 rw[mr] at h;exact h
theorem fQ(K:P.underlying t=some (.int .u8))(hu:P.underlying u=some (.int .i64))(O:ρ x=.int .u8 (a:Int))(h:Au ((a:Nat):Int)=some r):Yl P ⟨d,.convert t u x,ty,p,af,g⟩ ρ s (iV r):=by
 obtain⟨rfl,hb⟩:=MJ h;have h:=FZ (P:=P) (s:=s) (d:=d) (ty:=ty) (p:=p) (af:=af) (g:=g) K hu O
 rwa[KZ hb] at h
theorem bP{l:List Nat}{bs:ByteArray}{r:Nat}(O:(bs.data.toList.map UInt8.toNat==l)=true)(U:P.underlying t=some .string)(Y:ρ y=.int kd m)(Z:ρ (.const (.string bs))=.string bs)(h:TL l m=some r):Yl P ⟨d,.index t (.const (.string bs)) y,ty,p,af,g⟩ ρ s (.int .u8 (r:Int)):=by
 unfold TL at h;split at h
 .rename_i ac;have ag:=eq_of_beq O;rw[← ag,sk] at h;obtain⟨K,hb,rfl⟩:=sr.1 h;have al:bs[m.toNat]?=some K:=by
   have am:bs.data[m.toNat]?=some K:=by rw[← sM];exact hb
   let⟨ap,aq⟩:=f8.1 am;rw[getElem?_pos bs m.toNat ap];exact r5 some aq
  simp[Yl,execOp,lp,pure,bind,Sem.bind,Z,Y,Instr.index,underlying,program,U,ac,al,asIntOf]
 .cases h
end
end Pal
