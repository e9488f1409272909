/- DebtFewests is true for every input: the first settlement with the fewest payments: a part (2 of 10) of the proof of its row. -/
import Derived.Test.YteafnffcpbehhaaGreatFwa
import Derived.Conc.CrowdComm
import Derived.Conc.TokenWalk
import Derived.Conc.MarkLaws
import Derived.Conc.AtomicLaws2
import Derived.Conc.ClockLaws
import Derived.Conc.WgLib
import Derived.Conc.WgArith
import Derived.Conc.WgGenW
set_option linter.all false
set_option maxRecDepth 100000
namespace Pal
open Go Go.Conc
open Go.ConcN (upd upd_same upd_ne)
variable{i:Nat}
section
variable {t u:Trace}{w w':World}{N:Nat}{S:Nat->St}{Sh:Nat->Prop}
theorem Cu.ext(h:Cu t w N S Sh)(Z:∀said,¬Race said (t++u))(hu:∀op∈u,∀a,op.act.touch?=some a->∀b,DY a.loc=some b->Sh b)
  (ac:∀op∈u,op.act.low w.heap.size) (hs:w'.heap.size=w.heap.size) (hw:∀b,¬Sh b->w'.heap[b]?=w.heap[b]?):Cu (t++u) w' N S Sh:=by
 have hold:∀x a b,touchAt (t++u) x=some a->DY a.loc=some b->¬Sh b->touchAt t x=some a:=by
  intro x a b O hb K;let⟨op,I,Y⟩:=touch_of O;rcases getElem?_append_cases I with⟨am,ag⟩ | ⟨_,ai⟩;rw[touchAt_of ag];exact Y;exact absurd (hu op ai a Y b hb) K
 have K:∀i,i<N->∀b,((S i).H b≠none∨(S i).E b≠none)->¬Sh b:=by
  intro i hi b hb aj;have:=h.sh i hi b aj;exact hb.elim (λx=>x this.1) (λx=>x this.2)
 refine⟨λi hi=>⟨λb o I=>?_,λb o I=>?_,(h.fits i hi).d⟩,h.hh,h.sh,λb hb=>by rw[hs];exact h.HF b hb,Z,λop I=>?_,λi hi b hb x a O U=>?_,λi hi b hb x a O U al=>?_⟩;rw[hw b (K i hi b (.inr (by rw[I];simp)))];exact(h.fits i hi).e b o I;rw[hw b (K i hi b (.inl (by rw[I];simp)))];exact(h.fits i hi).h b o I;rcases ux.1 I with I | I;rw[hs];exact h.low op I;rw[hs];exact ac op I;exact(h.kH i hi b hb x a (hold x a b O U (K i hi b (.inl hb))) U).app _;exact(h.kE i hi b hb x a (hold x a b O U (K i hi b (.inr hb))) U al).app _
theorem Cu.congr{S':Nat->St}(h:Cu t w N S Sh)(I:∀i,i<N->(S' i).E=(S i).E/\(S' i).H=(S i).H):Cu t w N S' Sh:=by
 refine⟨λi hi=>⟨by rw[(I i hi).1];exact(h.fits i hi).e,by rw[(I i hi).2];exact(h.fits i hi).h,by rw[(I i hi).1,(I i hi).2];exact(h.fits i hi).d⟩,λi j hi hj K b=>?_,λi hi b=>?_,h.HF,h.clean,h.low,λi hi b=>?_,λi hi b=>?_⟩;rw[(I i hi).2,(I j hj).1,(I j hj).2];exact h.hh i j hi hj K b;rw[(I i hi).1,(I i hi).2];exact h.sh i hi b;rw[(I i hi).2];exact h.kH i hi b;rw[(I i hi).1];exact h.kE i hi b
theorem Cu.less(h:Cu t w N S Sh){s':St}(ac:∀b o,s'.E b=some o->(S i).E b=some o)(ag:∀b o,s'.H b=some o->(S i).H b=some o):Cu t w N (upd S i s') Sh:=by
 have O:∀j b o,(upd S i s' j).E b=some o->(S j).E b=some o:=by
  intro j b o I;by_cases e:j=i;subst e;rw[upd_same] at I;exact ac b o I;rwa[upd_ne _ _ e] at I
 have e2:∀j b o,(upd S i s' j).H b=some o->(S j).H b=some o:=by
  intro j b o I;by_cases e:j=i;subst e;rw[upd_same] at I;exact ag b o I;rwa[upd_ne _ _ e] at I
 have n1:∀j b,(S j).E b=none->(upd S i s' j).E b=none:=by
  intro j b hb;cases K:(upd S i s' j).E b with
  | none=>rfl
  | some o=>rw[O j b o K] at hb;cases hb
 have n2:∀j b,(S j).H b=none->(upd S i s' j).H b=none:=by
  intro j b hb;cases K:(upd S i s' j).H b with
  | none=>rfl
  | some o=>rw[e2 j b o K] at hb;cases hb
 have p1:∀j b,(upd S i s' j).E b≠none->(S j).E b≠none:=λj b hb x=>hb (n1 j b x);have p2:∀j b,(upd S i s' j).H b≠none->(S j).H b≠none:=λj b hb x=>hb (n2 j b x);exact⟨λj hj=>⟨λb o I=>(h.fits j hj).e b o (O j b o I),λb o I=>(h.fits j hj).h b o (e2 j b o I),λb hb=>n2 j b ((h.fits j hj).d b (p1 j b hb))⟩,
  λa c U Y Z b hb=>⟨n2 c b (h.hh a c U Y Z b (p2 a b hb)).1,n1 c b (h.hh a c U Y Z b (p2 a b hb)).2⟩,
  λj hj b hb=>⟨n2 j b (h.sh j hj b hb).1,n1 j b (h.sh j hj b hb).2⟩,h.HF,h.clean,h.low,
  λj hj b hb=>h.kH j hj b (p2 j b hb),λj hj b hb=>h.kE j hj b (p1 j b hb)⟩
theorem Cu.push(h:Cu t w N S Sh)(hi:i<N){E:LH}(Y:∀b o,E b=some o->(S i).E b=some o)
  (ag:∀b,E b≠none->∀x a,touchAt t x=some a->DY a.loc=some b->a.write=true->Knows t N x):Cu t w (N+1) (upd S N ⟨E,λ_=>none,false⟩) Sh:=by
 have I:∀j,j<N->upd S N ⟨E,λ_=>none,false⟩ j=S j:=λj hj=>upd_ne _ _ AB;have aj:∀b,E b≠none->(S i).E b≠none:=λb hb=>by let⟨o,O⟩:=Jx hb;rw[Y b o O];simp
 have ac:∀b,(S i).E b=none->E b=none:=λb hb=>by
  cases Z:E b with
  | none=>rfl
  | some o=>rw[Y b o Z] at hb;cases hb
 have cs:∀j,j<N+1->j<N∨j=N:=λj hj=>by omega
 constructor;intro j hj;rcases cs j hj with hj | rfl;rw[I j hj];exact h.fits j hj;rw[upd_same];exact⟨λb o O=>(h.fits i hi).e b o (Y b o O),λb o O=>(by cases O),λb _=>V⟩
 .intro a c K U ai b hb;rcases cs a K with K | rfl
  .rw [I a K] at hb;rcases cs c U with U | rfl;rw[I c U];exact h.hh a c K U ai b hb
   .rw [upd_same];refine⟨V,ac b ?_⟩;by_cases e:a=i
    .subst e;cases Z:(S a).E b with
     | none=>rfl
     | some o=>exact absurd ((h.fits a K).d b (by rw[Z];simp)) hb
    .exact(h.hh a i K hi e b hb).2
  .rw [upd_same] at hb;exact absurd V hb
 intro j hj b hb;rcases cs j hj with hj | rfl;rw[I j hj];exact h.sh j hj b hb;rw[upd_same];exact⟨V,ac b (h.sh i hi b hb).2⟩;exact h.HF;exact h.clean;exact h.low;intro j hj b hb;rcases cs j hj with hj | rfl;rw[I j hj] at hb;exact h.kH j hj b hb;rw[upd_same] at hb;exact absurd V hb;intro j hj b hb;rcases cs j hj with hj | rfl;rw[I j hj] at hb;exact h.kE j hj b hb;rw[upd_same] at hb;exact ag b hb
theorem Cu.share(h:Cu t w N S Sh)(hi:i<N){b₀:Nat}{o₀:Obj}(O:(S i).H b₀=some o₀):
  Cu t w N (upd S i {S i with H:=λb=>if b=b₀ then none else(S i).H b}) (λb=>Sh b∨b=b₀):=by
 have I:Cu t w N (upd S i {S i with H:=λb=>if b=b₀ then none else(S i).H b}) Sh:=
  h.less (λb o K=>K) (λb o K=>by simp only at K;split at K<;>first | (cases K;done) | exact K)
 have Y:b₀<w.heap.size:=by
  have:=(h.fits i hi).h b₀ o₀ O;rcases mt b₀ w.heap.size with U | U;exact U;simp[ta U] at this
 refine⟨I.fits,I.hh,λj hj b hb=>?_,λb hb=>hb.elim (I.HF b) (λe=>e▸Y),I.clean,I.low,I.kH,I.kE⟩;rcases hb with hb | rfl;exact I.sh j hj b hb
 .by_cases e:j=i
  .subst e;rw[upd_same];refine⟨AM,?_⟩;cases Z:(S j).E b with
   | none=>rfl
   | some o=>have:=(h.fits j hj).d b (by rw[Z];simp);rw[O] at this;cases this
  .rw [upd_ne _ _ e];exact h.hh i j hi hj (ti e) b (by rw[O];simp)
end
open Go.ConcN (sumTo sumTo_upd)
abbrev GP:=Gs_
structure M4 where
 l:Bool
 k:Bool
 s:Bool
 w:Nat
instance:DecidableEq M4:=λa b=>decidable_of_iff (a.l=b.l/\a.k=b.k/\a.s=b.s/\a.w=b.w) ⟨λh=>by cases a;cases b;simp_all,λh=>by subst h;simp⟩
def M4.zero:M4:=⟨false,false,false,0⟩
def M4.num(m:M4):Int:=((m.l.toNat+2*m.k.toNat+4*m.s.toNat+8*m.w:Nat):Int)
inductive LP where
 | HG | Jd | Gh (sv aw:Bool) (it:Nat) | DL (sv aw:Bool) (it:Nat) (old:M4) | Ku (sv:Bool) | Dr (sv:Bool) | HT | GG (sv:Bool) | Ie (ex:Bool) | len | Pg | NW | GY
 | Il | MO | MW | MK | JZ | Gf (old:M4) | Jf | Gq (st:Bool) | G0
inductive Ph where
 | IB (k:Nat) | HZ | Kz | IF | Ib | Iy | GF
 | EL | Ht (m:Nat) | IE (v:Nat) | Jl | GV | Iz | Hx | HH | I8
 | HE (j:Nat) | J3 (j:Nat) | Ja (j:Nat) | Ik (j:Nat) | Hi (j:Nat) | Ic | Hc (I:List Nat) (vs:Lv_)
 | Jk | Ka | J1 | J7 (j:Nat)
 | lk (k:Nat) (p:LP)
inductive Nx where
 | ph (p:Ph) | gone (d:Nat)
structure Fam where
 wg:Nat
 mu:Nat
 fd:Nat
 ty:TypeId
 nz:TypeId
 nJ:TypeId
 n:Nat
 msg:Nat->Value->LH->Prop
 fin:GP
namespace Fam
variable (F:Fam)
def has(_:Fam)(_:Nat):Bool:=false
def KK:Int:=4294967296
def Jo(st sm:Int):Obj:=.cells #[.int .u64 st,.int .u32 sm] F.ty (0,0)
def word(v wt:Nat):Int:=(v:Int)*KK+wt
def WG(w:World)(v wt sm:Nat):Prop:=w.heap[F.wg]?=some (F.Jo (word v wt) sm)
def put(w:World)(v wt sm:Nat):World:={w with heap:=w.heap.setIfInBounds F.wg (F.Jo (word v wt) sm)}
def sA:Addr:=⟨F.wg,0,none⟩
def mA:Addr:=⟨F.wg,1,none⟩
def Jp(st sm:Int):Obj:=.cells #[.int .i32 st,.int .u32 sm] F.nz (0,0)
def MU(w:World)(m:M4)(q:Nat):Prop:=w.heap[F.mu]?=some (F.Jp m.num q)
def Hf(w:World)(m:M4)(q:Nat):World:={w with heap:=w.heap.setIfInBounds F.mu (F.Jp m.num q)}
def uA:Addr:=⟨F.mu,0,none⟩
def qA:Addr:=⟨F.mu,1,none⟩
def Kc(f:Nat->Value):Obj:=.cells (Array.ofFn λi:Fin F.n=>f i) F.nJ (0,0)
def FD(w:World)(f:Nat->Value):Prop:=w.heap[F.fd]?=some (F.Kc f)
def IG(w:World)(f:Nat->Value):World:={w with heap:=w.heap.setIfInBounds F.fd (F.Kc f)}
def CR(a:Addr):Event:=⟨.cell a,false,true⟩
def FN(a:Addr):Event:=⟨.cell a,true,true⟩
def DF(m:Mark):Event:=⟨.mark m,false,true⟩
def act:Ph->Nat->Nat->Nat->Option ((Nat×Nat×Nat)×Array Event×Nx)
 | .HZ,v,wt,sm=>some ((v,wt,sm),#[DF (.releaseMerge F.sA)],.ph .Kz)
 | .Kz,v,wt,sm=>some ((v,wt,sm),#[DF .disable],.ph .IF)
 | .IF,v,wt,sm=>if 1<=v/\v<2147483648/\wt<=1 then some ((v - 1,wt,sm),#[CR F.sA,FN F.sA],if v=1/\wt=1 then .ph .Ib else .gone 1) else none
 | .Ib,v,wt,sm=>if v=0/\wt=1 then some ((0,1,sm),#[CR F.sA],.ph .Iy) else none
 | .Iy,v,wt,sm=>if v=0/\wt=1 then some ((0,0,sm),#[FN F.sA],.ph .GF) else none
 | .GF,v,wt,sm=>if sm=0 then some ((v,wt,1),semEvents F.mA,.gone 1) else none
 | .EL,v,wt,sm=>some ((v,wt,sm),#[DF .disable],.ph (.Ht F.n))
 | .Ht m,v,wt,sm=>if v<=m/\wt=0 then some ((v,0,sm),#[CR F.sA],if v=0 then .ph .Hx else .ph (.IE v)) else none
 | .IE m,v,wt,sm=>if v<=m/\1<=m/\wt=0 then some (if v=m then((v,1,sm),#[CR F.sA,FN F.sA],.ph .Ka) else((v,0,sm),#[CR F.sA],.ph (.Ht (m - 1)))) else none
 | .Jl,v,wt,sm=>some ((v,wt,sm),#[DF (.write F.mA)],.ph .GV)
 | .GV,v,wt,sm=>if sm=1 then some ((v,wt,0),semEvents F.mA,.ph .Iz) else none
 | .Iz,v,wt,sm=>if v=0/\wt=0 then some ((0,0,sm),#[CR F.sA],.ph .Hx) else none
 | .Hx,v,wt,sm=>some ((v,wt,sm),#[DF .enable],.ph .J1)
 | .Jk,v,wt,sm=>some ((v,wt,sm),#[],.ph .HZ)
 | .Ka,v,wt,sm=>some ((v,wt,sm),#[],.ph .Jl)
 | .J1,v,wt,sm=>some ((v,wt,sm),#[],.ph .HH)
 | .J7 j,v,wt,sm=>some ((v,wt,sm),#[],.ph (.Ja j))
 | .HE j,v,wt,sm=>some ((v,wt,sm),#[DF .disable],.ph (.J3 j))
 | .J3 j,v,wt,sm=>if v<2147483647/\wt=0 then some ((v+1,0,sm),#[CR F.sA,FN F.sA],if v=0 then .ph (.J7 j) else .ph (.Ik j)) else none
 | .Ja j,v,wt,sm=>some ((v,wt,sm),#[DF (.read F.mA)],.ph (.Ik j))
 | .Ik j,v,wt,sm=>some ((v,wt,sm),#[DF .enable],.ph (.Hi j))
 | _,_,_,_=>none
abbrev LO:=M4×Nat×Array Event×Option LP
def GU(sv aw:Bool)(it:Nat)(old m:M4)(q:Nat):List LO:=
 (if old.l=true/\old.s=false/\it<4 then
  (if aw=false/\old.k=false/\old.w≠0 then
   [if m=old then({m with k:=true},q,#[CR F.uA,FN F.uA],some (.Gh sv true (it+1))) else(m,q,#[CR F.uA],some (.Gh sv aw (it+1)))]
  else [(m,q,#[],some (.DL sv aw (it+1) m))])
 else [])++
 (if m=old then
  (if old.l=false/\old.s=false then [({m with l:=true,k:= !aw&&m.k},q,#[CR F.uA,FN F.uA],some .len)]
  else [({m with k:= !aw&&m.k,s:=m.s || (sv&&m.l),w:=m.w+1},q,#[CR F.uA,FN F.uA],some (.Ku sv)),({m with k:= !aw&&m.k,s:=m.s || (sv&&m.l),w:=m.w+1},q,#[CR F.uA,FN F.uA],some (.Dr sv))])
 else [(m,q,#[CR F.uA],some (.Gh sv aw it))])
def Cy:LP->M4->Nat->List LO
 | .HG,m,q=>[(m,q,#[DF .disable],some .Jd)]
 | .Jd,m,q=>if m=M4.zero then [(⟨true,false,false,0⟩,q,#[CR F.uA,FN F.uA],some .len)] else [(m,q,#[CR F.uA],some (.Gh false false 0))]
 | .Gh sv aw it,m,q=>[(m,q,#[],some (.DL sv aw it m))]
 | .DL sv aw it old,m,q=>F.GU sv aw it old m q
 | .Ku sv,m,q=>[(m,q,#[],some (.Dr sv))]
 | .Dr sv,m,q=>[(m,q - 1,semEvents F.qA,some (if sv then .GG true else .HT))]
 | .HT,m,q=>[(m,q,#[],some (.GG false)),(m,q,#[],some (.GG true))]
 | .GG sv,m,q=>if m.s=true then [(m,q,#[],some (.Ie (!sv || m.w==1)))] else [(m,q,#[],some (.DL sv true 0 m))]
 | .Ie ex,m,q=>[(⟨true,m.k,!ex,m.w - 1⟩,q,#[CR F.uA,FN F.uA],some .len)]
 | .len,m,q=>[(m,q,#[DF .enable],some .Pg)]
 | .Pg,m,q=>[(m,q,#[],some .NW)]
 | .NW,m,q=>[(m,q,#[DF (.acquire F.uA)],some .GY)]
 | .GY,_,_=>[]
 | .Il,m,q=>[(m,q,#[],some .MO)]
 | .MO,m,q=>[(m,q,#[],some .MW)]
 | .MW,m,q=>[(m,q,#[DF (.releaseMerge F.uA)],some .MK)]
 | .MK,m,q=>[(m,q,#[DF .disable],some .JZ)]
 | .JZ,m,q=>[({m with l:=false},q,#[CR F.uA,FN F.uA],some (if m.s=true then .Gq true else if m.k=false/\m.w≠0 then .Gf {m with l:=false} else .G0))]
 | .Gf old,m,q=>if m=old then [(⟨false,true,false,old.w - 1⟩,q,#[CR F.uA,FN F.uA],some (.Gq false))] else [(m,q,#[CR F.uA],some .Jf)]
 | .Jf,m,q=>[(m,q,#[],some (if m.l=false/\m.k=false/\m.s=false/\m.w≠0 then .Gf m else .G0))]
 | .Gq _,m,q=>[(m,q+1,semEvents F.qA,some .G0)]
 | .G0,m,q=>[(m,q,#[DF .enable],none)]
def Dw:Ph->Bool
 | .HE _ | .J3 _ | .Ja _ | .Ik _ | .Hi _ | .Ic | .Hc _ _ | .J7 _=>true
 | .EL | .Ht _ | .IE _ | .Jl | .GV | .Iz | .Hx | .HH | .I8 | .Ka | .J1=>true
 | _=>false
def DX:Ph->Bool
 | .Kz | .IF | .Ib | .Iy | .GF=>true
 | _=>false
def Lg:Ph->St->St
 | .HZ,_=>.quiet
 | _,s=>s
def start(_:Fam)(k:Nat):Ph:=.lk k .HG
def GR(j:Nat):Ph:=if j+1=F.n then .Ic else .HE (j+1)
def FY(j:Nat):Ph:=if j+1=F.n then .EL else .HE (j+1)
def Ez(k:Nat):Option LP->Ph
 | some p=>.lk k p
 | none=>.Jk
end Fam
def ED(m:M4):Prop:=m.w<134217728
def EZ:LP->M4->Nat->Prop
 | .DL sv aw it old,m,_=>(aw=true->old.k=true)/\(sv=true->aw=true)/\it<=4/\ED old/\ED m/\(aw=true->m.k=true)
 | .Gh sv aw it,m,_=>(sv=true->aw=true)/\it<=4/\ED m/\(aw=true->m.k=true)
 | .Dr _,_,q=>q≠0
 | .GG _,m,_=>(m.s=true->m.l=false/\m.k=false/\m.w≠0)/\(m.s=false->m.k=true)/\ED m
 | .Ie ex,m,_=>m.s=true/\m.l=false/\m.k=false/\1<=m.w/\(ex=false->2<=m.w)/\ED m
 | .JZ,m,_=>m.l=true/\ED m
 | .Gf old,m,_=>old.l=false/\old.k=false/\old.s=false/\old.w≠0/\ED old/\ED m
 | .Gq _,m,q=>q<=1/\ED m
 | _,m,_=>ED m
def Way(P:Program)(main:Bool)(X:GP):GP:=(Bo P main).ok X
theorem Jr.Aj{P:Program}{main:Bool}{Q I:GP}(h:∀g s,Q g s->I g s):∀{r:Rk}{g:Goroutine}{s:St},Jr P main Q r g s->Jr P main I r g s
 | .leaf,_,_,x=>h _ _ x
 | .node _,_,_,.inl x=>.inl (h _ _ x)
 | .node _,_,_,.inr ⟨K,x⟩=>.inr ⟨K,λw f=>let ⟨g',s',w',es,O,U,Y⟩:=x w f;⟨g',s',w',es,O,Jr.Aj h U,Y⟩⟩
variable{g:Goroutine}{s:St}
theorem Way.Aj{P:Program}{main:Bool}{Q I:GP}(h:∀g s,Q g s->I g s)(x:Way P main Q g s):Way P main I g s:=
 let ⟨r,K⟩:=x;⟨r,Jr.Aj (λg s ⟨s₀,a,b⟩=>⟨s₀,a,h g s₀ b⟩) K⟩
def HY(w I w':World):Prop:=w'.heap=I.heap/\w'.tape=w.tape/\HI w.os w'.os/\w'.output=w.output
variable{X:Ph->GP}{p:Ph}
section
variable (P:Program)(F:Fam)
def Pe(X:Ph->GP)(main:Bool):Nx->GP
 | .ph p,g,s=>Way P main (X p) g s
 | .gone d,g,_=>∃q,QuitsD P q d g
def Fam.LD(H:LH)(f:Nat->Value):LH:=λb=>if b=F.fd then some (F.Kc f) else H b
structure Ij (X:Ph->GP) (p:Ph) (g:Goroutine) (s:St):Prop where
 run:g.status=.running
 offers:g.offers=none
 quiet:Fam.DX p=true->s=.quiet
 live:Fam.DX p=false->s.q=false
 act:∀v wt sm v' wt' sm' es I,F.act p v wt sm=some ((v',wt',sm'),es,I)->
  ∃g',(∀w,F.WG w v wt sm->stepG P (Fam.Dw p) g w=.go g' (F.put w v' wt' sm') es)/\g'.status=.running/\Pe P X (Fam.Dw p) I g' (Fam.Lg p s)
 Ky:(p=.GF∨∃k b,p=.lk k (.Gq b))->mayWake P g=true
 Gs:p=.GV->∀w v wt,F.WG w v wt 0->stepG P true g w=.go {g with status:=.blocked} w #[]
 go:∀j,p=.Hi j->∃g' child,g'.status=.running/\child.status=.running/\(∀w,stepG P true g w=.spawn g' child w #[])/\Way P false (X (F.start j)) child ⟨s.E,λ_=>none,false⟩/\Way P true (X (F.FY j)) g' s
 lk:∀k l,p=.lk k l->l≠ .GY->∀w m q,F.MU w m q->EZ l m q->∃m' q' es x g' w',(m',q',es,x)∈F.Cy l m q/\stepG P false g w=.go g' w' es/\HY w (F.Hf w m' q') w'/\g'.status=.running/\Way P false (X (Fam.Ez k x)) g' s
 Dr:∀k sv,p=.lk k (.Dr sv)->∀w m,F.MU w m 0->stepG P false g w=.go {g with status:=.blocked} w #[]
 store:∀k,p=.lk k .GY->∃v,F.msg k v s.E/\∃g',g'.status=.running/\(∀w f,F.FD w f->stepG P false g w=.go g' (F.IG w (upd f k v)) #[⟨.cell ⟨F.fd,k,none⟩,true,false⟩])/\Way P false (X (.lk k .Il)) g' s
 fin:p=.HH->∃g',(∀w,stepG P true g w=.go g' w #[Fam.DF (.acquire F.sA)])/\∀E' f,Le s.E E'->E' F.fd=none->(∀b,E' b≠none->s.H b=none)->(∀k,k<F.n->F.msg k (f k) E')->F.fin g' ⟨E',F.LD s.H f,false⟩
theorem Pe.Aj{K:Ph->GP}(h:∀p g s,X p g s->K p g s){main:Bool}{I:Nx}(x:Pe P X main I g s):Pe P K main I g s:=by
 cases I with
 | ph p=>exact Way.Aj (h p) x
 | gone d=>exact x
theorem Ij.Aj{Z:Ph->GP}(h:∀p g s,X p g s->Z p g s)(x:Ij P F X p g s):Ij P F Z p g s where
 run:=x.run
 offers:=x.offers
 quiet:=x.quiet
 live:=x.live
 act v wt sm v' wt' sm' es ac e:=let ⟨g',I,K,O⟩:=x.act v wt sm v' wt' sm' es ac e;⟨g',I,K,O.Aj P h⟩
 Ky:=x.Ky
 Gs:=x.Gs
 go j e:=let ⟨g',c,I,K,O,U,Y⟩:=x.go j e;⟨g',c,I,K,O,U.Aj (h _),Y.Aj (h _)⟩
 lk k l e ag w m q hm ai:=let ⟨m',q',es,y,g',w',I,K,O,U,Y⟩:=x.lk k l e ag w m q hm ai;⟨m',q',es,y,g',w',I,K,O,U,Y.Aj (h _)⟩
 Dr:=x.Dr
 store k e:=let ⟨v,I,g',K,O,U⟩:=x.store k e;⟨v,I,g',K,O,U.Aj (h _)⟩
 fin:=x.fin
def Stop(p:Ph)(g:Goroutine)(s:St):Prop:=∃X:Ph->GP,(∀p g s,X p g s->Ij P F X p g s)/\X p g s
variable {P F}
theorem Stop.law(h:Stop P F p g s):Ij P F (Stop P F) p g s:=by
 obtain⟨X,K,I⟩:=h;exact(K p g s I).Aj P F λp g s I=>⟨X,K,I⟩
theorem Ij.stop(h:Ij P F (Stop P F) p g s):Stop P F p g s:=
 ⟨λp g s=>Ij P F (Stop P F) p g s,λ_ _ _ x=>x.Aj P F λ_ _ _ y=>y.law,h⟩
end
end Pal
namespace Pal
open Go Go.Conc
open Go.ConcN (upd upd_same upd_ne sumTo sumTo_upd sumTo_upd_out sumTo_congr le_sumTo sumTo_le)
def cU:Nx->Nat
 | .ph (.IB _) | .ph .Jk | .ph .HZ | .ph .Kz | .ph .IF | .ph (.lk _ _)=>1
 | _=>0
def cL:Nx->Nat
 | .ph .Ib | .ph .Iy=>1
 | _=>0
def cS:Nx->Nat
 | .ph .GF=>1
 | _=>0
def pend:Nx->Nat
 | .ph (.J7 _) | .ph (.Ja _) | .ph (.Ik _) | .ph (.Hi _)=>1
 | _=>0
def got:Nx->List Nat
 | .ph (.Hc I _)=>I
 | _=>[]
def Rl:Nx->Prop
 | .gone _=>True
 | _=>False
def I7(n j:Nat)(c:Bool):Ph->Prop
 | .HE I | .J3 I | .J7 I | .Ja I | .Ik I | .Hi I=>I=j/\j<n/\c=false
 | .Ic=>j=n/\c=false
 | .Hc _ _=>j=n/\c=true
 | _=>False
def H8(F:Fam)(k:Nat):Nx->Prop
 | .gone _=>True
 | .ph (.IB k')=>k'=k/\F.has k=true
 | .ph (.lk k' _)=>k'=k
 | .ph .Jk | .ph .HZ | .ph .Kz | .ph .IF | .ph .Ib | .ph .Iy | .ph .GF=>True
 | _=>False
def K7:Nx->Prop
 | .gone _=>True
 | .ph .EL | .ph (.Ht _) | .ph (.IE _) | .ph .Ka | .ph .Jl | .ph .GV | .ph .Iz | .ph .Hx | .ph .J1 | .ph .HH | .ph .I8=>True
 | _=>False
def EV(x:Nx)(v wt sm L S:Nat)(cl:Bool):Prop:=
 match x with
 | .ph .EL=>L=0/\S=0/\sm=0/\wt=0/\cl=false
 | .ph (.Ht m)=>L=0/\S=0/\sm=0/\wt=0/\cl=false/\v<=m
 | .ph (.IE m)=>L=0/\S=0/\sm=0/\wt=0/\cl=false/\v<=m/\1<=m
 | .ph .Ka | .ph .Jl | .ph .GV=>L+S+sm+min v 1=1/\wt=L+min v 1/\cl=false
 | .ph .Iz | .ph .Hx | .ph .J1 | .ph .HH | .ph .I8=>L=0/\S=0/\sm=0/\wt=0/\v=0/\cl=false
 | .gone _=>L=0/\S=0/\sm=0/\wt=0/\v=0/\cl=true
 | _=>False
structure Dy (F:Fam) (N0 N j:Nat) (c:Bool) (φ:Nat->Nx) (v wt sm:Nat) (cl:Bool):Prop where
 pos:0<N0
 n1:1<=F.n
 Jq:F.n<2147483647
 size:N=N0+j+c.toNat
 jn:j<=F.n
 cj:c=true->j=F.n
 main:∃p,φ 0=.ph p/\I7 F.n j c p
 old:∀i,0<i->i<N0->Rl (φ i)
 work:∀k,k<j->H8 F k (φ (N0+k))
 cls:c=true->K7 (φ (N0+F.n))
 cnt:v=sumTo N (λi=>cU (φ i))+pend (φ 0)
 LS:v<=j+pend (φ 0)
 mode:EV (if c=true then φ (N0+F.n) else .ph .EL) v wt sm (sumTo N λi=>cL (φ i)) (sumTo N λi=>cS (φ i)) cl
 MN:∀k,k<j->F.has k=true->(φ (N0+k)=.ph (.IB k)↔k ∉ got (φ 0))
 nd:(got (φ 0)).Nodup
 sub:∀k∈got (φ 0),k<j/\F.has k=true
variable{i:Nat}{x:Nx}{p:Ph}{es:Array Event}
section
variable {F:Fam}{N0 N j:Nat}{c:Bool}{φ:Nat->Nx}{v wt sm v' wt' sm':Nat}{cl cl':Bool}
theorem Dy.F0(h:Dy F N0 N j c φ v wt sm cl)(hi:i<N):i=0∨(0<i/\i<N0)∨(∃k,k<j/\i=N0+k)∨(c=true/\i=N0+F.n):=by
 have:=h.size;rcases tO i with I | I;exact .inl I
 rcases mt i N0 with O | O;exact .inr (.inl ⟨I,O⟩)
 rcases mt i (N0+j) with U | U;exact .inr (.inr (.inl ⟨i - N0,AB,AB⟩))
 .cases K:c with
  | false=>rw[K] at this;simp at this;omega
  | true=>have e:=h.cj K;rw[K] at this;simp at this;exact .inr (.inr (.inr ⟨rfl,AB⟩))
theorem Dy.US(h:Dy F N0 N j c φ v wt sm cl):v<=F.n:=by
 have I:=h.LS;obtain⟨p,K,hm⟩:=h.main;have:=h.jn;rw[K] at I;cases p<;>simp[I7] at hm<;>simp[pend] at I<;>omega
theorem Dy.J0(h:Dy F N0 N j c φ v wt sm cl){k:Nat}(ac:k<j)(ag:H8 F k x)(hs:∀k',φ (N0+k)≠ .ph (.IB k'))(ai:∀k',x≠ .ph (.IB k'))
  (ay:v'+cU (φ (N0+k))=v+cU x)
  (hm:∀L S,L+cL (φ (N0+k))=(sumTo N λi=>cL (φ i))+cL x->S+cS (φ (N0+k))=(sumTo N λi=>cS (φ i))+cS x->EV (if c=true then φ (N0+F.n) else .ph .EL) v' wt' sm' L S cl'):
  Dy F N0 N j c (upd φ (N0+k) x) v' wt' sm' cl':=by
 have az:=h.size;have a0:=h.jn;have a1:=h.pos;have U:N0+k<N:=by omega
 have I:upd φ (N0+k) x 0=φ 0:=upd_ne _ _ AB;have aj:(if c=true then upd φ (N0+k) x (N0+F.n) else .ph .EL)=(if c=true then φ (N0+F.n) else .ph .EL):=by
  cases K:c with
  | false=>rfl
  | true=>have:=h.cj K;simp only[tS];exact upd_ne _ _ AB
 refine have s1:=sumTo_upd φ x cU U;have s2:=sumTo_upd φ x cL U;have al:=sumTo_upd φ x cS U;have a2:=h.cnt;have a3:=h.LS;⟨h.pos,h.n1,h.Jq,h.size,h.jn,h.cj,by rw[I];exact h.main,λi am ap=>by rw[upd_ne _ _ AB];exact h.old i am ap,λk' O=>?_,λK=>?_,by rw[I];omega,?_,?_,λk' O hh=>?_,by rw[I];exact h.nd,by rw[I];exact h.sub⟩;by_cases e:k'=k;subst e;rw[upd_same];exact ag;rw[upd_ne _ _ AB];exact h.work k' O;have:=h.cj K;rw[upd_ne _ _ AB];exact h.cls K
 .rw [I];have:cU x<=1:=by cases x with
   | gone d=>simp[cU]
   | ph p=>cases p<;>simp[cU]
  have hw:=h.work k ac;have key:cU x<=cU (φ (N0+k))∨cU (φ (N0+k))<cU x:=by omega
  rcases key with hle | a4;omega
  ·
   have:(sumTo N λa=>cU (upd φ (N0+k) x a))<=j:=by
    have hb:∀M,M<=N->(sumTo M λa=>cU (upd φ (N0+k) x a))<=min (M - N0) j:=by
     intro M
     induction M with
     | zero=>intro _;simp[sumTo]
     | succ M aq=>
      intro a5;have:=aq AB;simp only[sumTo];have a6:cU (upd φ (N0+k) x M)<=1:=by
       generalize upd φ (N0+k) x M=y;cases y with
       | gone d=>simp[cU]
       | ph p=>cases p<;>simp[cU]
      have Z:(M<N0∨N0+j<=M)->cU (upd φ (N0+k) x M)=0:=by
       intro a7;rw[upd_ne _ _ AB];rcases h.F0 (i:=M) AB with rfl | ⟨a,b⟩ | ⟨k',a,rfl⟩ | ⟨a,rfl⟩;obtain⟨p,av,hm⟩:=h.main;rw[av];cases p<;>simp[I7] at hm<;>rfl
       .have:=h.old M a b;cases Y:φ M with
        | gone d=>rfl
        | ph p=>rw[Y] at this;exact this.elim
       .omega
       .have:=h.cls a;cases Y:φ (N0+F.n) with
        | gone d=>rfl
        | ph p=>rw[Y] at this;cases p<;>simp[K7] at this<;>rfl
      rcases mt M N0 with q | q;rw[Z (.inl q)];omega;rcases mt M (N0+j) with q' | q';omega;rw[Z (.inr q')];omega
    have:=hb N (jK _);omega
   omega
 rw[aj];exact hm _ _ s2 al;rw[I];by_cases e:k'=k;subst e;rw[upd_same];have:=h.MN k' O hh;constructor;intro aw;exact absurd aw (ai k');intro hg;exact absurd (this.2 hg) (hs k');rw[upd_ne _ _ AB];exact h.MN k' O hh
theorem Dy.Jh(h:Dy F N0 N j c φ v wt sm cl)(K:c=true)(Y:K7 x)
  (hm:EV x v wt' sm' (sumTo N λi=>cL (φ i)) (sumTo N λi=>cS (φ i)) cl'):
  Dy F N0 N j c (upd φ (N0+F.n) x) v wt' sm' cl':=by
 have Z:=h.size;have al:=h.pos;have hj:=h.cj K;have O:N0+F.n<N:=by rw[K] at Z;simp at Z;omega
 have I:upd φ (N0+F.n) x 0=φ 0:=upd_ne _ _ AB;have z:∀y,K7 y->cU y=0/\cL y=0/\cS y=0:=by
  intro y ac;cases y with
  | gone d=>exact⟨rfl,rfl,rfl⟩
  | ph p=>cases p<;>simp[K7] at ac<;>exact⟨rfl,rfl,rfl⟩
 refine have z1:=z _ (h.cls K);have am:=z x Y;have s1:=sumTo_upd φ x cU O;have s2:=sumTo_upd φ x cL O;have ap:=sumTo_upd φ x cS O;have aq:=h.cnt;⟨h.pos,h.n1,h.Jq,h.size,h.jn,h.cj,by rw[I];exact h.main,λi ag ai=>by rw[upd_ne _ _ AB];exact h.old i ag ai,λk' U=>?_,λK=>?_,by rw[I];omega,by rw[I];exact h.LS,?_,λk' U hh=>?_,by rw[I];exact h.nd,by rw[I];exact h.sub⟩;rw[upd_ne _ _ AB];exact h.work k' U;rw[upd_same];exact Y
 .rw [d9 K,upd_same];have e2:(sumTo N λi=>cL (upd φ (N0+F.n) x i))=sumTo N λi=>cL (φ i):=by omega
  have aj:(sumTo N λi=>cS (upd φ (N0+F.n) x i))=sumTo N λi=>cS (φ i):=by omega
  rw[e2,aj];exact hm
 .rw [I,upd_ne _ _ AB];exact h.MN k' U hh
theorem Wr{n j:Nat}{c:Bool}(h:I7 n j c p):cU (.ph p)=0/\cL (.ph p)=0/\cS (.ph p)=0:=by
 cases p<;>simp[I7] at h<;>exact⟨rfl,rfl,rfl⟩
theorem Dy.NZ(h:Dy F N0 N j c φ v wt sm cl)(O:I7 F.n j c p)(hg:got (.ph p)=got (φ 0))(am:v'+pend (φ 0)=v+pend (.ph p))(U:v'<=j+pend (.ph p))
  (hm:EV (if c=true then φ (N0+F.n) else .ph .EL) v' wt' sm' (sumTo N λi=>cL (φ i)) (sumTo N λi=>cS (φ i)) cl'):
  Dy F N0 N j c (upd φ 0 (.ph p)) v' wt' sm' cl':=by
 have ap:=h.size;have aq:=h.pos;have I:0<N:=by omega
 obtain⟨av,Y,Z⟩:=h.main;have z1:=Wr Z;have aw:=Wr O;rw[← Y] at z1;have s1:=sumTo_upd φ (.ph p) cU I;have s2:=sumTo_upd φ (.ph p) cL I;have ay:=sumTo_upd φ (.ph p) cS I;have az:=h.cnt;have ac:(if c=true then upd φ 0 (.ph p) (N0+F.n) else .ph .EL)=(if c=true then φ (N0+F.n) else .ph .EL):=by rw[upd_ne _ _ AB]
 refine⟨h.pos,h.n1,h.Jq,h.size,h.jn,h.cj,⟨p,upd_same _ _ _,O⟩,λi ag ai=>by rw[upd_ne _ _ AB];exact h.old i ag ai,λk' K=>by rw[upd_ne _ _ AB];exact h.work k' K,λaj=>by rw[upd_ne _ _ AB];exact h.cls aj,by rw[upd_same];omega,by rw[upd_same];exact U,?_,λk' K hh=>?_,by rw[upd_same,hg];exact h.nd,by rw[upd_same,hg];exact h.sub⟩
 .rw [ac];have e2:(sumTo N λi=>cL (upd φ 0 (.ph p) i))=sumTo N λi=>cL (φ i):=by omega
  have al:(sumTo N λi=>cS (upd φ 0 (.ph p) i))=sumTo N λi=>cS (φ i):=by omega
  rw[e2,al];exact hm
 .rw [upd_same,hg,upd_ne _ _ AB];exact h.MN k' K hh
theorem Dy.act(h:Dy F N0 N j c φ v wt sm cl)(hi:i<N)(I:φ i=.ph p){az:Nx}(K:F.act p v wt sm=some ((v',wt',sm'),es,az)):
  Dy F N0 N j c (upd φ i az) v' wt' sm' cl:=by
 have O:=h.mode;have a1:=h.US;rcases h.F0 hi with rfl | ⟨a,b⟩ | ⟨k,aj,rfl⟩ | ⟨Z,rfl⟩
 ·
  obtain⟨aq,a0,al⟩:=h.main;have:aq=p:=by rw[a0] at I;exact Nx.ph.inj I
  subst this;have a3:∀q,I7 F.n j c q->(∀a2 vs,q≠ .Hc a2 vs)->c=false:=by
   intro q av aw;cases q<;>simp[I7] at av<;>first | exact av.2.2 | exact av.2 | exact absurd rfl (aw _ _)
  have ai:=h.LS;cases aq<;>simp only[I7] at al<;>(try exact al.elim)<;>simp only[Fam.act] at K<;>(try (cases K;done));cases K;obtain⟨rfl,hj,rfl⟩:=al;exact h.NZ (p:=.J3 _) ⟨V,hj,V⟩ (by rw[I];rfl) (by rw[I];rfl) (by rw[I] at ai;exact ai) (by simpa [EV] using O);split at K;rename_i ac;cases K;obtain⟨rfl,hj,rfl⟩:=al;rw[I] at ai;simp only[pend,tQ] at ai;simp only[s5,tP,EV] at O;split;exact h.NZ (p:=.J7 _) ⟨V,hj,V⟩ (by rw[I];rfl) (by rw[I];simp[pend]) (by simp[pend];omega) ⟨O.1,O.2.1,O.2.2.1,V,O.2.2.2.2⟩;exact h.NZ (p:=.Ik _) ⟨V,hj,V⟩ (by rw[I];rfl) (by rw[I];simp[pend]) (by simp[pend];omega) ⟨O.1,O.2.1,O.2.2.1,V,O.2.2.2.2⟩;cases K;cases K;obtain⟨rfl,hj,rfl⟩:=al;exact h.NZ (p:=.Ik _) ⟨V,hj,V⟩ (by rw[I];rfl) (by rw[I];rfl) (by rw[I] at ai;exact ai) (by simpa [EV] using O);cases K;obtain⟨rfl,hj,rfl⟩:=al;exact h.NZ (p:=.Hi _) ⟨V,hj,V⟩ (by rw[I];rfl) (by rw[I];rfl) (by rw[I] at ai;exact ai) (by simpa [EV] using O);cases K;obtain⟨rfl,hj,rfl⟩:=al;exact h.NZ (p:=.Ja _) ⟨V,hj,V⟩ (by rw[I];rfl) (by rw[I];rfl) (by rw[I] at ai;exact ai) (by simpa [EV] using O)
 .have:=h.old i a b;rw[I] at this;exact this.elim
 ·
  have hw:=h.work k aj;rw[I] at hw;have a4:∀q k',q=Nx.ph p->(∀k',p≠ .IB k')->q≠ .ph (.IB k'):=by
   rintro q k' rfl aw e;exact aw k' (Nx.ph.inj e)
  cases p<;>simp only[H8] at hw<;>(try exact hw.elim)<;>simp only[Fam.act] at K<;>(try (cases K;done));cases K;refine h.J0 aj (x:=.ph .Kz) trivial (λk'=>by rw[I];simp) AM (by rw[I];rfl) λL S U Y=>?_;rw[I] at U Y;simp only[cL,cS,tQ] at U Y;subst U Y;exact O;cases K;refine h.J0 aj (x:=.ph .IF) trivial (λk'=>by rw[I];simp) AM (by rw[I];rfl) λL S U Y=>?_;rw[I] at U Y;simp only[cL,cS,tQ] at U Y;subst U Y;exact O
  .split at K
   .rename_i ac;cases K;have ap:∀y ag S0 L S,y=(if c=true then φ (N0+F.n) else .ph .EL)->EV y v wt sm ag S0 cl->(if v=1/\wt=1 then L=ag+1 else L=ag)->S=S0->EV y (v - 1) wt sm L S cl:=by
     intro y ag S0 L S a5 hm U Y;cases y with
     | gone d=>simp only[EV] at hm ⊢;split at U<;>omega
     | ph q=>
      cases q<;>simp only[EV] at hm ⊢<;>(try exact hm)<;>(try (split at U<;>omega));split at U;exfalso;omega;exact⟨AB,AB,AB,AB,hm.2.2.2.2⟩;split at U;exfalso;omega;exact⟨AB,AB,AB,AB,hm.2.2.2.2.1,AB⟩;split at U;exfalso;omega;exact⟨AB,AB,AB,AB,hm.2.2.2.2.1,AB,AB⟩;split at U;exact⟨AB,AB,hm.2.2⟩;exact⟨AB,AB,hm.2.2⟩;split at U;exact⟨AB,AB,hm.2.2⟩;exact⟨AB,AB,hm.2.2⟩;split at U;exact⟨AB,AB,hm.2.2⟩;exact⟨AB,AB,hm.2.2⟩
    split;rename_i am;refine h.J0 aj (x:=.ph .Ib) trivial (λk'=>by rw[I];simp) AM (by rw[I];simp[cU];omega) λL S U Y=>?_;rw[I] at U Y;simp only[cL,cS,tQ] at U Y;exact ap _ _ _ L S V O (by rw[d9 am];exact U) Y;rename_i am;refine h.J0 aj (x:=.gone 1) trivial (λk'=>by rw[I];simp) AM (by rw[I];simp[cU];omega) λL S U Y=>?_;rw[I] at U Y;simp only[cL,cS,tQ] at U Y;exact ap _ _ _ L S V O (by rw[d0 am];exact U) Y
   .cases K
  .split at K
   .rename_i ac;cases K;refine h.J0 aj (x:=.ph .Iy) trivial (λk'=>by rw[I];simp) AM (by rw[I];simp[cU];omega) λL S U Y=>?_;rw[I] at U Y;simp only[cL,cS,tQ] at U Y;have e:L=sumTo N λi=>cL (φ i):=by
     have a6:L+1=(sumTo N λi=>cL (φ i))+1:=U;omega
    obtain⟨am,ay⟩:=ac;subst e Y am ay;exact O
   .cases K
  .split at K
   .rename_i ac;cases K;obtain⟨am,ay⟩:=ac;subst am ay;refine h.J0 aj (x:=.ph .GF) trivial (λk'=>by rw[I];simp) AM (by rw[I];simp[cU]) λL S U Y=>?_;rw[I] at U Y;simp only[cL,cS,tQ] at U Y;have ap:∀y ag S0,EV y 0 1 sm ag S0 cl->L+1=ag->S=S0+1->EV y 0 0 sm L S cl:=by
     intro y ag S0 hm U Y;cases y with
     | gone d=>simp only[EV] at hm ⊢;omega
     | ph q=>
      cases q<;>simp only[EV] at hm ⊢<;>(try exact hm)<;>(try (exfalso;omega));exact⟨AB,AB,hm.2.2⟩;exact⟨AB,AB,hm.2.2⟩;exact⟨AB,AB,hm.2.2⟩
    exact ap _ _ _ O U Y
   .cases K
  .split at K
   .rename_i ac;cases K;subst ac;refine h.J0 aj (x:=.gone 1) trivial (λk'=>by rw[I];simp) AM (by rw[I];simp[cU]) λL S U Y=>?_;rw[I] at U Y;simp only[cL,cS,tQ] at U Y;have ap:∀y ag S0,EV y v wt 0 ag S0 cl->L=ag->S+1=S0->EV y v wt 1 L S cl:=by
     intro y ag S0 hm U Y;cases y with
     | gone d=>simp only[EV] at hm ⊢;omega
     | ph q=>
      cases q<;>simp only[EV] at hm ⊢<;>(try exact hm)<;>(try (exfalso;omega));exact⟨AB,AB,hm.2.2⟩;exact⟨AB,AB,hm.2.2⟩;exact⟨AB,AB,hm.2.2⟩
    exact ap _ _ _ O U Y
   .cases K
  .cases K;refine h.J0 aj (x:=.ph .HZ) trivial (λk'=>by rw[I];simp) AM (by rw[I];rfl) λL S U Y=>?_;rw[I] at U Y;simp only[cL,cS,tQ] at U Y;subst U Y;exact O
 ·
  have hw:=h.cls Z;rw[d9 Z,I] at O;rw[I] at hw;obtain⟨aq,a0,al⟩:=h.main;cases p<;>simp only[K7] at hw<;>(try exact hw.elim)<;>simp only[Fam.act] at K<;>(try (cases K;done))<;>simp only[EV] at O;cases K;exact h.Jh Z (x:=.ph (.Ht F.n)) trivial ⟨O.1,O.2.1,O.2.2.1,O.2.2.2.1,O.2.2.2.2,a1⟩;split at K;rename_i m ac;cases K;split;exact h.Jh Z (x:=.ph .Hx) trivial ⟨O.1,O.2.1,O.2.2.1,V,by assumption,O.2.2.2.2.1⟩;exact h.Jh Z (x:=.ph (.IE _)) trivial ⟨O.1,O.2.1,O.2.2.1,V,O.2.2.2.2.1,jK _,AB⟩;cases K;split at K;rename_i m ac;split at K;cases K;exact h.Jh Z (x:=.ph .Ka) trivial ⟨AB,AB,O.2.2.2.2.1⟩;cases K;exact h.Jh Z (x:=.ph (.Ht _)) trivial ⟨O.1,O.2.1,O.2.2.1,V,O.2.2.2.2.1,AB⟩;cases K;cases K;exact h.Jh Z (x:=.ph .GV) trivial O;split at K;rename_i ac;cases K;exact h.Jh Z (x:=.ph .Iz) trivial ⟨AB,AB,V,AB,AB,O.2.2⟩;cases K;split at K;rename_i ac;obtain⟨rfl,rfl⟩:=ac;cases K;exact h.Jh Z (x:=.ph .Hx) trivial O;cases K;cases K;exact h.Jh Z (x:=.ph .J1) trivial O;cases K;exact h.Jh Z (x:=.ph .Jl) trivial O;cases K;exact h.Jh Z (x:=.ph .HH) trivial O
end
open Go.ConcN (fork_knows)
section
variable {F:Fam}{N0 N j:Nat}{c:Bool}{φ:Nat->Nx}{v wt sm:Nat}{cl:Bool}
theorem Dy.spawn(h:Dy F N0 N j c φ v wt sm cl)(O:φ 0=.ph (.Hi j)):
  Dy F N0 (N+1) (j+1) c (upd (upd φ N (.ph (F.start j))) 0 (.ph (F.GR j))) v wt sm cl:=by
 obtain⟨am,ap,aq⟩:=h.main;obtain rfl:am=.Hi j:=by rw[ap] at O;exact Nx.ph.inj O
 obtain⟨_,hj,rfl⟩:=aq;have av:=h.size;have a0:=h.pos;simp only[sY,tQ] at av;have U:cU (.ph (F.start j))=1/\cL (.ph (F.start j))=0/\cS (.ph (F.start j))=0:=by
  exact⟨V,V,V⟩
 have I:cU (.ph (F.GR j))=0/\cL (.ph (F.GR j))=0/\cS (.ph (F.GR j))=0/\pend (.ph (F.GR j))=0/\got (.ph (F.GR j))=[]:=by
  unfold Fam.GR;split<;>exact⟨rfl,rfl,rfl,rfl,rfl⟩
 have Y:cU (φ 0)=0/\cL (φ 0)=0/\cS (φ 0)=0:=by rw[O];exact⟨V,V,V⟩
 let φ':Nat->Nx:=upd (upd φ N (.ph (F.start j))) 0 (.ph (F.GR j));have K:φ' 0=.ph (F.GR j):=upd_same _ _ _;have al:φ' N=.ph (F.start j):=by show upd _ _ _ _=_;rw[upd_ne _ _ AB,upd_same]
 have Z:∀i,0<i->i≠N->φ' i=φ i:=λi ac ag=>by show upd _ _ _ _=_;rw[upd_ne _ _ AB,upd_ne _ _ ag]
 have sum:∀f:Nx->Nat,f (φ 0)=0->f (.ph (F.GR j))=0->(sumTo (N+1) λi=>f (φ' i))=(sumTo N λi=>f (φ i))+f (.ph (F.start j)):=by
  intro f f0 f1;simp only[sumTo,al];congr 1;have aw:0<N:=by omega
  have:=sumTo_upd (upd φ N (.ph (F.start j))) (.ph (F.GR j)) f aw;have e2:upd φ N (.ph (F.start j)) 0=φ 0:=upd_ne _ _ AB;rw[e2,f0,f1] at this;have a1:=sumTo_upd_out φ (.ph (F.start j)) f (i:=N) (j:=N) (jK _);show sumTo N (λi=>f (upd (upd φ N (.ph (F.start j))) 0 (.ph (F.GR j)) i))=_;omega
 have ai:=h.cnt;have aj:=h.LS;rw[O] at ai aj;simp only[pend] at ai aj;show Dy F N0 (N+1) (j+1) false φ' v wt sm cl;have ay:got (φ 0)=[]:=by rw[O];rfl
 refine⟨h.pos,h.n1,h.Jq,by simp;omega,AB,AM,⟨F.GR j,K,?_⟩,λi ac ag=>by rw[Z i ac AB];exact h.old i ac ag,λk az=>?_,AM,?_,?_,?_,λk az hh=>?_,by rw[K,I.2.2.2.2];exact .nil,by rw[K,I.2.2.2.2];simp⟩;unfold Fam.GR;split;exact⟨by assumption,V⟩;exact⟨V,AB,V⟩;by_cases e:k=j;subst e;rw[show N0+k=N by omega,al];exact V;rw[Z _ AB AB];exact h.work k AB;rw[K,I.2.2.2.1,sum cU Y.1 I.1,U.1];exact ai;rw[K,I.2.2.2.1];exact aj;have hm:=h.mode;simp only[s5,tP] at hm ⊢;rw[sum cL Y.2.1 I.2.1,sum cS Y.2.2 I.2.2.1,U.2.1,U.2.2];exact hm
 .rw [K,I.2.2.2.2];by_cases e:k=j;exact absurd hh uz
  .rw [Z _ AB AB];have:=h.MN k AB hh
   rwa[ay] at this
theorem Dy.kA(h:Dy F N0 N j c φ v wt sm cl)(K:φ 0=.ph .Ic):
  Dy F N0 (N+1) j true (upd (upd φ N (.ph .EL)) 0 (.ph (.Hc [] []))) v wt sm cl:=by
 obtain⟨al,am,ap⟩:=h.main;obtain rfl:al=.Ic:=by rw[am] at K;exact Nx.ph.inj K
 obtain⟨hj,rfl⟩:=ap;have aq:=h.size;have ay:=h.pos;simp only[sY,tQ] at aq;have O:cU (φ 0)=0/\cL (φ 0)=0/\cS (φ 0)=0:=by rw[K];exact⟨V,V,V⟩
 let φ':Nat->Nx:=upd (upd φ N (.ph .EL)) 0 (.ph (.Hc [] []));have I:φ' 0=.ph (.Hc [] []):=upd_same _ _ _;have U:φ' N=.ph .EL:=by show upd _ _ _ _=_;rw[upd_ne _ _ AB,upd_same]
 have Y:∀i,0<i->i≠N->φ' i=φ i:=λi Z ac=>by show upd _ _ _ _=_;rw[upd_ne _ _ AB,upd_ne _ _ ac]
 have sum:∀f:Nx->Nat,f (φ 0)=0->f (.ph (.Hc [] []))=0->f (.ph .EL)=0->(sumTo (N+1) λi=>f (φ' i))=(sumTo N λi=>f (φ i)):=by
  intro f f0 f1 f2;simp only[sumTo,U,f2];have av:0<N:=by omega
  have:=sumTo_upd (upd φ N (.ph .EL)) (.ph (.Hc [] [])) f av;have e2:upd φ N (.ph .EL) 0=φ 0:=upd_ne _ _ AB;rw[e2,f0,f1] at this;have az:=sumTo_upd_out φ (.ph .EL) f (i:=N) (j:=N) (jK _);show sumTo N (λi=>f (upd (upd φ N (.ph .EL)) 0 (.ph (.Hc [] [])) i))+0=_;omega
 have ag:=h.cnt;have ai:=h.LS;rw[K] at ag ai;simp only[pend] at ag ai;show Dy F N0 (N+1) j true φ' v wt sm cl;have aw:got (φ 0)=[]:=by rw[K];rfl
 refine⟨h.pos,h.n1,h.Jq,by simp;omega,h.jn,λ_=>hj,⟨.Hc [] [],I,hj,V⟩,λi Z ac=>by rw[Y i Z AB];exact h.old i Z ac,λk aj=>?_,λ_=>by rw[show N0+F.n=N by omega,U];trivial,?_,?_,?_,λk aj hh=>?_,by rw[I];exact .nil,by rw[I];simp[got]⟩;rw[Y _ AB AB];exact h.work k aj;rw[I,sum cU O.1 rfl rfl];exact ag;rw[I];exact ai;have hm:=h.mode;simp only[s5,tP,tS] at hm ⊢;rw[show N0+F.n=N by omega,U,sum cL O.2.1 rfl rfl,sum cS O.2.2 rfl rfl];exact hm
 .rw [I];rw[Y _ AB AB];have:=h.MN k aj hh
  rwa[aw] at this
theorem Dy.leave(h:Dy F N0 N j c φ v wt sm cl){d d':Nat}(hi:i<N)(I:φ i=.gone d):Dy F N0 N j c (upd φ i (.gone d')) v wt sm cl:=by
 rcases h.F0 hi with rfl | ⟨a,b⟩ | ⟨k,O,rfl⟩ | ⟨U,rfl⟩;obtain⟨p,Y,_⟩:=h.main;rw[I] at Y;cases Y
 .have ai:=hi;have z:∀f:Nx->Nat,f (.gone d)=0->f (.gone d')=0->(sumTo N λa=>f (upd φ i (.gone d') a))=sumTo N λa=>f (φ a):=by
   intro f f0 f1;have:=sumTo_upd φ (.gone d') f ai;rw[I] at this;omega
  have ap:=h.size;have K:upd φ i (.gone d') 0=φ 0:=upd_ne _ _ AB;refine⟨h.pos,h.n1,h.Jq,h.size,h.jn,h.cj,by rw[K];exact h.main,λZ aj al=>?_,λk O=>by rw[upd_ne _ _ AB];exact h.work k O,λU=>by rw[upd_ne _ _ AB];exact h.cls U,by rw[K,z cU rfl rfl];exact h.cnt,by rw[K];exact h.LS,?_,λk O hh=>by rw[K,upd_ne _ _ AB];exact h.MN k O hh,by rw[K];exact h.nd,by rw[K];exact h.sub⟩;by_cases e:Z=i;subst e;rw[upd_same];trivial;rw[upd_ne _ _ e];exact h.old Z aj al;rw[z cL rfl rfl,z cS rfl rfl,upd_ne _ _ AB];exact h.mode
 refine h.J0 O (x:=.gone d') trivial (by rw[I];simp) AM (by rw[I];rfl) λL S ac ag=>?_;rw[I] at ac ag;have am:L=sumTo N λi=>cL (φ i):=ac;have e2:S=sumTo N λi=>cS (φ i):=ag;subst am e2;exact h.mode;have hm:=h.mode;rw[d9 U,I] at hm;exact h.Jh U (x:=.gone d') trivial hm
theorem Dy.iv(h:Dy F N0 N j c φ v wt sm cl)(K:c=true)(O:φ (N0+F.n)=.ph .Iz∨φ (N0+F.n)=.ph .Hx∨φ (N0+F.n)=.ph .HH∨φ (N0+F.n)=.ph .I8∨Rl (φ (N0+F.n))):∀k,k<j->Rl (φ (N0+k)):=by
 intro k U;have hm:=h.mode;rw[d9 K] at hm;have Y:=h.size;have Z:=h.cnt;have ac:cU (φ (N0+k))<=sumTo N λi=>cU (φ i):=le_sumTo (f:=λi=>cU (φ i)) (show N0+k<N by omega);have ag:cL (φ (N0+k))<=sumTo N λi=>cL (φ i):=le_sumTo (f:=λi=>cL (φ i)) (show N0+k<N by omega);have ai:cS (φ (N0+k))<=sumTo N λi=>cS (φ i):=le_sumTo (f:=λi=>cS (φ i)) (show N0+k<N by omega);have aj:v=0/\(sumTo N λi=>cL (φ i))=0/\(sumTo N λi=>cS (φ i))=0:=by
  rcases O with e | e | e | e | e;rw[e] at hm;exact⟨hm.2.2.2.2.1,hm.1,hm.2.1⟩;rw[e] at hm;exact⟨hm.2.2.2.2.1,hm.1,hm.2.1⟩;rw[e] at hm;exact⟨hm.2.2.2.2.1,hm.1,hm.2.1⟩;rw[e] at hm;exact⟨hm.2.2.2.2.1,hm.1,hm.2.1⟩
  .cases I:φ (N0+F.n) with
   | gone d=>rw[I] at hm;exact⟨hm.2.2.2.2.1,hm.1,hm.2.1⟩
   | ph p=>rw[I] at e;exact e.elim
 have hw:=h.work k U;cases I:φ (N0+k) with
 | gone d=>trivial
 | ph p=>
  have al:1<=cU (φ (N0+k))+cL (φ (N0+k))+cS (φ (N0+k)):=by
   rw[I] at hw ⊢;cases p<;>simp only[H8] at hw<;>simp[cU,cL,cS]
  exfalso;omega
end
open Go.ConcN (RelBy)
def dl:LP->Nat
 | .Jd | .Gh _ _ _ | .DL _ _ _ _ | .Ku _ | .Dr _ | .HT | .GG _ | .Ie _ | .len=>1
 | .JZ | .Gf _ | .Jf | .Gq _ | .G0=>1
 | _=>0
def Hh:Nx->Nat
 | .gone d=>d
 | .ph .IF | .ph .Ib | .ph .Iy | .ph .GF=>1
 | .ph (.Ht _) | .ph (.IE _) | .ph .Ka | .ph .Jl | .ph .GV | .ph .Iz | .ph .Hx=>1
 | .ph (.J3 _) | .ph (.J7 _) | .ph (.Ja _) | .ph (.Ik _)=>1
 | .ph (.lk _ p)=>dl p
 | _=>0
def late:Nx->Prop
 | .ph (.IB _) | .ph .Jk | .ph .HZ | .ph (.lk _ _)=>False
 | _=>True
def KE(t:Trace)(E:LH)(ρ:Nat):Prop:=∀b,E b≠none->∀x a,touchAt t x=some a->DY a.loc=some b->a.write=true->Before t x ρ
structure Gp (F:Fam) (N0 t0 N j:Nat) (φ:Nat->Nx) (S:Nat->St) (t:Trace):Prop where
 deaf:∀i,i<N->Deaf t i=Hh (φ i)
 above:∀i,N<=i->Deaf t i=0
 plain:∀x a b,touchAt t x=some a->DY a.loc=some b->(b=F.wg∨b=F.mu)->a.kind=.plain->∀i,i<N->(i=0∨N0<=i)->Knows t i x
 said:∀x a b,touchAt t x=some a->DY a.loc=some b->(b=F.wg∨b=F.mu)->a.kind=.said->Knows t 0 x
 HL:∀x a,touchAt t x=some a->DY a.loc=some F.fd->(∀i,i<N->(i=0∨N0<=i)->Knows t i x)∨∃k,k<j/\t.g? x=some (N0+k)/\t.counts x/\a.loc=.cell ⟨F.fd,k,none⟩
 over:∀x g,t.g? x=some g->g≠0->t.counts x->(∃y,t.g? y=some 0/\HappensBefore t x y)∨(N0<=g/\g<N)
 norel:∀x,t0<=x->t.act? x≠some (.mark (.release F.sA))
 Pb:t0<=t.size
 rel:∀k,k<j->late (φ (N0+k))->∃ρ,t0<=ρ/\RelBy F.sA t (N0+k) ρ/\KE t (S (N0+k)).E ρ
variable{fn:FuncId}{pos:String}
section
variable {F:Fam}{N0 t0 N j:Nat}{φ:Nat->Nx}{S:Nat->St}{t u:Trace}
def EvS(F:Fam)(N0 j i:Nat)(e:Event):Prop:=
 (∀a,(MemAct.ofEvent e).touch?=some a->∃b,DY a.loc=some b/\(((b=F.wg∨b=F.mu)/\a.kind≠ .plain/\(a.kind=.said->i=0))∨(b=F.fd/\∃k,k<j/\i=N0+k/\a.loc=.cell ⟨F.fd,k,none⟩/\a.kind=.plain)))/\e.loc≠ .mark (.release F.sA)
theorem Gp.noRace(h:Gp F N0 t0 N j φ S t)(ai:∀said,¬Race said t)(hi:i<N)(Y:i=0∨N0<=i)
  (aj:∀e∈es,EvS F N0 j i e):∀said,¬Race said (t++MemOp.ofEvents i fn pos es):=by
 intro said;refine noRace_append (g:=i) (ai said) (λop K=>by obtain⟨e,_,rfl⟩:=mem_ofEvents K;rfl) λx a O op K d hd al=>?_;obtain⟨e,he,rfl⟩:=mem_ofEvents K;let⟨b,hb,I⟩:=(aj e he).1 d hd;obtain⟨Z,hm,ay,am⟩:=al;have U:DY a.loc=some b:=by rw[Z];exact hb
 rcases I with⟨I,ac,hs⟩ | ⟨rfl,k,ac,ap,aq,_⟩
 .rcases am with q | q | ⟨_,q,q'⟩;exact h.plain x a b O U I q i hi Y;exact absurd q ac
  .have:=h.said x a b O U I q
   rwa[← hs q'] at this
 .rcases h.HL x a O U with q | ⟨k',_,hg,_,ag⟩;exact q i hi Y
  .rw [Z,aq] at ag;have:k=k':=by simpa using ag
   subst this;let⟨z,av,aw⟩:=tr.1 hg;have:=knows_own av;rw[aw,← ap] at this;exact this
theorem Tf(h:∀x g,t.g? x=some g->g≠0->t.counts x->(∃y,t.g? y=some 0/\HappensBefore t x y)∨(N0<=g/\g<N))(hu:∀op∈u,op.g=0∨(N0<=op.g/\op.g<N)∨op.act.touch?=none):
  ∀x g,(t++u).g? x=some g->g≠0->(t++u).counts x->(∃y,(t++u).g? y=some 0/\HappensBefore (t++u) x y)∨(N0<=g/\g<N):=by
 intro x g hg K O;rcases mt x t.size with q | q
 .rcases h x g (by rw[← g?_old (u:=u) q];exact hg) K ((counts_old q).1 O) with⟨y,I,hb⟩ | hh
  .have ac:y<t.size:=by
    unfold Trace.g? at I;let⟨z,ag,_⟩:=tr.1 I;exact lt_size_of_getElem? ag
   exact .inl ⟨y,by rw[g?_old ac];exact I,hb_app u hb⟩
  .exact .inr hh
 .obtain⟨a,ai,_⟩:=O;let⟨op,U,Y⟩:=touch_of ai;have Z:op.g=g:=by simpa [Trace.g?,U] using hg
  rcases getElem?_append_cases U with⟨al,_⟩ | ⟨_,aj⟩;omega;rcases hu op aj with z | z | z;exact absurd (Z▸z) K;exact .inr (Z▸z);rw[z] at Y;cases Y
theorem SR(h:∀x,t0<=x->t.act? x≠some (.mark (.release F.sA)))(hu:∀op∈u,op.act≠ .mark (.release F.sA)):∀x,t0<=x->(t++u).act? x≠some (.mark (.release F.sA)):=by
 intro x K e;let⟨op,O,I⟩:=tr.1 e;rcases getElem?_append_cases O with⟨_,U⟩ | ⟨_,Y⟩;exact h x K (by rw[act?_of U,I]);exact hu op Y I
theorem ZG{g:Nat}(hu:∀op∈u,op.g=g->op.act.touch?=none):∀x,t.size<=x->(t++u).g? x=some g->¬(t++u).counts x:=by
 intro x Z hg O;obtain⟨a,U,_⟩:=O;let⟨op,I,K⟩:=touch_of U;rcases getElem?_append_cases I with⟨ac,_⟩ | ⟨_,Y⟩;omega;rw[hu op Y (by simpa [Trace.g?,I] using hg)] at K;cases K
theorem KE.app{E:LH}{ρ:Nat}(h:KE t E ρ)(hu:∀op∈u,∀a b,op.act.touch?=some a->DY a.loc=some b->a.write=true->E b=none):KE (t++u) E ρ:=by
 intro b hb x a O I hw;let⟨op,U,K⟩:=touch_of O;rcases getElem?_append_cases U with⟨ac,Y⟩ | ⟨_,Z⟩;exact(h b hb x a (by rw[touchAt_of Y];exact K) I hw).app u;exact absurd (hu op Z a b K I hw) hb
theorem Gp.app(h:Gp F N0 t0 N j φ S t)(hi:i<N){s':St}
  (hd:deafBehind (Hh (φ i)) es=Hh x)
  (al:∀e∈es,(∀a b,(MemAct.ofEvent e).touch?=some a->DY a.loc=some b->(b=F.wg∨b=F.mu)->a.kind≠ .plain/\(a.kind=.said->i=0))/\
   (∀a,(MemAct.ofEvent e).touch?=some a->DY a.loc=some F.fd->∃k,k<j/\i=N0+k/\a.loc=.cell ⟨F.fd,k,none⟩/\a.kind=.plain)/\e.loc≠ .mark (.release F.sA))
  (a3:(i=0∨N0<=i)∨∀e∈es,(MemAct.ofEvent e).touch?=none)
  (a4:∀k,k<j->late (φ (N0+k))->∀e∈es,∀a b,(MemAct.ofEvent e).touch?=some a->DY a.loc=some b->a.write=true->(S (N0+k)).E b=none)
  (ap:∀k,k<j->i=N0+k->late x->(late (φ i)/\s'.E=(S i).E/\∀ρ,RelBy F.sA t i ρ->RelBy F.sA (t++MemOp.ofEvents i fn pos es) i ρ)∨∃ρ,t0<=ρ/\RelBy F.sA (t++MemOp.ofEvents i fn pos es) i ρ/\KE (t++MemOp.ofEvents i fn pos es) s'.E ρ):
  Gp F N0 t0 N j (upd φ i x) (upd S i s') (t++MemOp.ofEvents i fn pos es):=by
 generalize hu:MemOp.ofEvents i fn pos es=u at*;have ac:∀op∈u,op.g=i:=λop K=>by rw[← hu] at K;obtain⟨e,_,rfl⟩:=mem_ofEvents K;rfl
 have am:∀op∈u,∃e∈es,op.act=MemAct.ofEvent e:=λop K=>by rw[← hu] at K;obtain⟨e,he,rfl⟩:=mem_ofEvents K;exact⟨e,he,V⟩
 have hold:∀{y a},touchAt (t++u) y=some a->(touchAt t y=some a/\y<t.size)∨(Knows (t++u) i y/\(t++u).g? y=some i/\∃e∈es,(MemAct.ofEvent e).touch?=some a):=by
  intro y a a5;let⟨op,K,aw⟩:=touch_of a5;rcases getElem?_append_cases K with⟨ap,a6⟩ | ⟨_,aq⟩;left;exact⟨by rw[touchAt_of a6];exact aw,ap⟩;right;let⟨e,he,Y⟩:=am op aq;exact⟨by have:=knows_own K;rwa[ac op aq] at this,by simp[Trace.g?,K,ac op aq],e,he,by rw[← Y];exact aw⟩
 have ay:∀k,k<j->late (φ (N0+k))->∀ρ,KE t (S (N0+k)).E ρ->KE (t++u) (S (N0+k)).E ρ:=λk I O ρ a7=>a7.app λop a8 a b az hb hw=>by
  let⟨e,he,Y⟩:=am op a8;rw[Y] at az;exact a4 k I O e he a b az hb hw
 refine⟨λU Z=>?_,λU Z=>?_,λy a b ag hb ai I U Z av=>?_,λy a b ag hb ai I=>?_,λy a ag hb=>?_,Tf h.over λop K=>?_,SR h.norel λop K e=>?_,by simp;have:=h.Pb;omega,λk I O=>?_⟩;by_cases e:U=i;subst e;rw[upd_same,← hu,Deaf_own,h.deaf U hi,hd];rw[upd_ne _ _ e,Deaf_other t (ti e) u ac];exact h.deaf U Z;rw[Deaf_other t AB u ac];exact h.above U Z;rcases hold ag with⟨q,_⟩ | ⟨_,_,e,he,aj⟩;exact(h.plain y a b q hb ai I U Z av).app _;exact absurd I ((al e he).1 a b aj hb ai).1;rcases hold ag with⟨q,_⟩ | ⟨a0,_,e,he,aj⟩;exact(h.said y a b q hb ai I).app _;rw[← ((al e he).1 a b aj hb ai).2 I];exact a0;rcases hold ag with⟨q,a1⟩ | ⟨a0,hg,e,he,aj⟩;rcases h.HL y a q hb with z | ⟨k,I,hg,a9,O⟩;exact .inl λU Z av=>(z U Z av).app _;exact .inr ⟨k,I,by rw[g?_old a1];exact hg,(counts_old a1).2 a9,O⟩;exact let⟨k,I,bb,O,be⟩:=(al e he).2.1 a aj hb;.inr ⟨k,I,by rw[hg,bb],⟨a,ag,by rw[O];rfl,.inl (by rw[be];simp)⟩,O⟩;rw[ac op K];rcases a3 with(q | q) | q;exact .inl q;exact .inr (.inl ⟨q,hi⟩);let⟨e,he,Y⟩:=am op K;rw[Y];exact .inr (.inr (q e he))
 .let⟨ev,bg,Y⟩:=am op K;rw[Y] at e;exact(al ev bg).2.2 (by
   obtain⟨loc,wr,bi⟩:=ev
   cases loc with
   | mark m=>simp only[MemAct.ofEvent,MemAct.mark.injEq] at e;rw[e]
   | obj r=>cases wr<;>cases bi<;>simp[MemAct.ofEvent] at e
   | _=>simp[MemAct.ofEvent] at e)
 .by_cases e:i=N0+k;subst e;rw[upd_same] at O;rw[upd_same];rcases ap k I rfl O with⟨a2,bn,bo⟩ | hh;let⟨ρ,a,b,c⟩:=h.rel k I a2;exact⟨ρ,a,bo ρ b,by rw[bn];exact ay k I a2 ρ c⟩;exact hh;rw[upd_ne _ _ (ti e)] at O;rw[upd_ne _ _ (ti e)];let⟨ρ,a,b,c⟩:=h.rel k I O;exact⟨ρ,a,b.appOther ac e,ay k I O ρ c⟩
theorem Gp.EF(h:Gp F N0 t0 N j φ S t)(hu:∀op∈u,op.act.touch?=none/\∀m,op.act≠ .mark m):Gp F N0 t0 N j φ S (t++u):=by
 have ai:∀g,Deaf (t++u) g=Deaf t g:=by
  intro g;obtain⟨l⟩:=u;rw[Deaf_append];have key:∀(l:List MemOp) (d:Nat),(∀op∈l,∀m,op.act≠ .mark m)->l.foldl (deafStep g) d=d:=by
   intro l
   induction l with
   | nil=>intro d _;rfl
   | cons z l am=>
    intro d O;have ap:=O z AM;have e2:deafStep g d z=d:=by
     unfold deafStep;split<;>first | (rename_i e;exact absurd e (ap _)) | rfl
    rw[u5,e2];exact am d λop I=>O op (by simp[I])
  exact key l _ λop I=>(hu op (by simpa using I)).2
 have hold:∀{y a},touchAt (t++u) y=some a->touchAt t y=some a/\y<t.size:=by
  intro y a Y;let⟨op,I,Z⟩:=touch_of Y;rcases getElem?_append_cases I with⟨aq,av⟩ | ⟨_,aw⟩;exact⟨by rw[touchAt_of av];exact Z,aq⟩;rw[(hu op aw).1] at Z;cases Z
 have ay:∀g x,t.size<=x->(t++u).g? x=some g->¬(t++u).counts x:=λg=>ZG λop I _=>(hu op I).1;refine⟨λi hi=>by rw[ai];exact h.deaf i hi,λi hi=>by rw[ai];exact h.above i hi,λy a b U hb ac K i hi ag=>(h.plain y a b (hold U).1 hb ac K i hi ag).app _,λy a b U hb ac K=>(h.said y a b (hold U).1 hb ac K).app _,λy a U hb=>?_,
  Tf h.over λop I=>.inr (.inr (hu op I).1),SR h.norel λop I=>(hu op I).2 _,by simp;have:=h.Pb;omega,λk K O=>let ⟨ρ,a,b,c⟩:=h.rel k K O;⟨ρ,a,b.app λx Y hg=>ay _ x Y hg,c.app λop I a b aj=>by rw[(hu op I).1] at aj;cases aj⟩⟩
 let⟨q,al⟩:=hold U;rcases h.HL y a q hb with z | ⟨k,K,hg,az,O⟩;exact .inl λa0 a1 ag=>(z a0 a1 ag).app _;exact .inr ⟨k,K,by rw[g?_old al];exact hg,(counts_old al).2 az,O⟩
theorem Gp.spawn(h:Gp F N0 t0 N j φ S t){φ':Nat->Nx}{S':Nat->St}(Z:0<N)(a6:N=N0+j)(hd:∀i,i<N->Hh (φ' i)=Hh (φ i))(ay:Hh (φ' N)=0)(az:Hh (φ 0)=0)
  (a0:∀k,k<j+1->late (φ' (N0+k))->k<j/\late (φ (N0+k))/\(S' (N0+k)).E=(S (N0+k)).E)
  {x y:MemOp}(Y:x.g=0/\x.act=.go N) (aj:y.g=N/\y.act=.start):Gp F N0 t0 (N+1) (j+1) φ' S' (t++ #[x,y]):=by
 have hu:∀op∈(#[x,y]:Array MemOp),op.act.touch?=none/\∀m,op.act≠ .mark m:=by
  intro op al;simp only[ul,ja,sS,t6] at al;rcases al with rfl | rfl;rw[Y.2];exact⟨V,AM⟩;rw[aj.2];exact⟨V,AM⟩
 have I:=h.EF hu;have am:∀z,Knows t 0 z->Knows (t++ #[x,y]) N z:=λz K=>fork_knows Y aj (by rw[h.deaf 0 Z];exact az) (h.above N (jK _)) K;have hold:∀{z a},touchAt (t++ #[x,y]) z=some a->touchAt t z=some a:=by
  intro z a K;let⟨op,ac,O⟩:=touch_of K;rcases getElem?_append_cases ac with⟨ap,a1⟩ | ⟨_,ag⟩;rw[touchAt_of a1];exact O;rw[(hu op ag).1] at O;cases O
 refine⟨λi hi=>?_,λi hi=>I.above i AB,λz a b K hb aq U i hi ai=>?_,I.said,λz a K hb=>?_,λz g hg a2 a3=>?_,I.norel,I.Pb,λk U Y=>?_⟩
 .rcases mt i N with q | q;rw[hd i q];exact I.deaf i q
  .obtain rfl:i=N:=by omega
   rw[ay];exact I.above i (jK _)
 .rcases mt i N with q | q;exact I.plain z a b K hb aq U i q ai
  .obtain rfl:i=N:=by omega
   exact am z (h.plain z a b (hold K) hb aq U 0 Z (.inl V))
 .have av:z<t.size:=by
   let⟨op,ac,O⟩:=touch_of K;rcases getElem?_append_cases ac with⟨ap,_⟩ | ⟨_,ag⟩;exact ap;rw[(hu op ag).1] at O;cases O
  rcases h.HL z a (hold K) hb with aw | ⟨k,U,hg,a4,a5⟩
  .refine .inl λi hi ai=>?_;rcases mt i N with q | q;exact(aw i q ai).app _
   .obtain rfl:i=N:=by omega
    exact am z (aw 0 Z (.inl V))
  .exact .inr ⟨k,AB,by rw[g?_old av];exact hg,(counts_old av).2 a4,a5⟩
 rcases I.over z g hg a2 a3 with q | q;exact .inl q;exact .inr ⟨q.1,AB⟩;let⟨a,b,c⟩:=a0 k U Y;rw[c];exact I.rel k a b
end
end Pal
namespace Pal
open Go Go.Conc
open Go.ConcN (upd upd_same upd_ne sumTo sumTo_upd sumTo_upd_out sumTo_congr le_sumTo sumTo_le)
def pH:LP->Nat
 | .len | .Pg | .NW | .GY | .Il | .MO | .MW | .MK | .JZ=>1
 | _=>0
def pN:LP->Nat
 | .Gq false=>1
 | _=>0
def pZ:LP->Nat
 | .Gq true=>1
 | _=>0
def pV:LP->Nat
 | .HT | .GG _=>1
 | _=>0
def pT:LP->Nat
 | .Gh _ true _ | .DL _ true _ _=>1
 | _=>0
def pQ:LP->Nat
 | .Ku _ | .Dr _=>1
 | _=>0
def pD:LP->Nat
 | .Ie _=>1
 | _=>0
def pX:LP->Nat
 | .Gf _ | .Jf=>1
 | _=>0
def oC(f:LP->Nat):Option LP->Nat
 | some p=>f p
 | none=>0
def LN(m:M4)(q h rn rs v t s d x:Nat):Prop:=
 h=m.l.toNat/\
 (m.s=false->rs=0/\d=0/\m.k.toNat=rn+q+v+t/\s=m.w+rn+q/\(m.l=false->m.k=false->1<=m.w->1<=x))/\
 (m.s=true->m.k=false/\rn=0/\t=0/\m.l.toNat+rs+q+v+d=1/\m.w=s+v+d/\1<=m.w)
def NH:LP->M4->Prop
 | .DL sv aw it old,_=>(aw=true->old.k=true)/\(sv=true->aw=true)/\it<=4/\ED old
 | .Gh sv aw it,_=>(sv=true->aw=true)/\it<=4
 | .Ie ex,m=>ex=false->2<=m.w
 | .Gf old,_=>old.l=false/\old.k=false/\old.s=false/\old.w≠0/\ED old
 | _,_=>True
section
variable {F:Fam}{p:LP}{m m':M4}{q q' h rn rs v t s d x:Nat}{es:Array Event}{o:Option LP}
theorem kG(Y:LN m q (pH p+h) (pN p+rn) (pZ p+rs) (pV p+v) (pT p+t) (pQ p+s) (pD p+d) (pX p+x))(I:NH p m)(hs:ED m)(Z:∀sv,p=.Dr sv->q≠0):EZ p m q:=by
 obtain⟨l,k,st,w⟩:=m;obtain⟨U,K,O⟩:=Y;cases p<;>simp only[EZ,NH] at I ⊢<;>(try exact hs)
 .exact⟨I.1,I.2,hs,λe=>by
   subst e
   simp only[pH,pN,pZ,pV,pT,pQ,pD,pX] at U K O
   cases st
   .have:=(K V).2.2.1
    cases k;simp at this;omega;rfl
   .have:=(O V).2.2.1;omega⟩
 .exact⟨I.1,I.2.1,I.2.2.1,I.2.2.2,hs,λe=>by
   subst e
   simp only[pH,pN,pZ,pV,pT,pQ,pD,pX] at U K O
   cases st
   .have:=(K V).2.2.1
    cases k;simp at this;omega;rfl
   .have:=(O V).2.2.1;omega⟩
 .exact Z _ V
 .grind [pD,pH,pN,pQ,pT,pV,pX,pZ]
 .simp only [pH,pN,pZ,pV,pT,pQ,pD,pX] at U K O
  grind
 .grind [pD,pH,pN,pQ,pT,pV,pX,pZ]
 .exact⟨I.1,I.2.1,I.2.2.1,I.2.2.2.1,I.2.2.2.2,hs⟩
 .refine⟨?_,hs⟩;have ac:k.toNat<=1:=vr k;cases st
  all_goals grind
set_option maxHeartbeats 1000000 in
theorem LN.step(I:(m',q',es,o)∈F.Cy p m q)(O:EZ p m q)(K:LN m q (pH p+h) (pN p+rn) (pZ p+rs) (pV p+v) (pT p+t) (pQ p+s) (pD p+d) (pX p+x)):
  LN m' q' (oC pH o+h) (oC pN o+rn) (oC pZ o+rs) (oC pV o+v) (oC pT o+t) (oC pQ o+s) (oC pD o+d) (oC pX o+x):=by
 obtain⟨l,k,st,w⟩:=m;cases p<;>simp only[Fam.Cy,de,f4,sS] at I
 case HG=>obtain⟨rfl,rfl,-,rfl⟩:=I;exact K
 case Jd=>
  split at I;rename_i e;simp only[M4.zero,M4.mk.injEq] at e;obtain⟨rfl,rfl,rfl,rfl⟩:=e;simp only[de,f4] at I;obtain⟨rfl,rfl,-,rfl⟩:=I;simp[LN,pH,pN,pZ,pV,pT,pQ,pD,pX,oC] at K ⊢;omega;simp only[de,f4] at I;obtain⟨rfl,rfl,-,rfl⟩:=I;exact K
 case Gh sv aw it=>obtain⟨rfl,rfl,-,rfl⟩:=I;cases aw<;>exact K
 case DL sv aw it old=>
  simp only[Fam.GU,sO] at I;simp only[EZ] at O;obtain⟨k1,U,Y,Z,ai,-⟩:=O;rcases I with I | I;split at I;rename_i c;split at I;rename_i c2;simp only[de] at I;obtain⟨rfl,c3,c4⟩:=c2;split at I;rename_i e;subst e;simp only[f4] at I;obtain⟨rfl,rfl,-,rfl⟩:=I;simp only at c c3 c4;obtain⟨rfl,rfl,-⟩:=c;subst c3;simp[LN,pH,pN,pZ,pV,pT,pQ,pD,pX,oC] at K ⊢;omega;simp only[f4] at I;obtain⟨rfl,rfl,-,rfl⟩:=I;exact K;simp only[de,f4] at I;obtain⟨rfl,rfl,-,rfl⟩:=I;cases aw<;>exact K;simp at I
  .split at I
   .rename_i e;subst e;split at I;rename_i c;simp only[de,f4] at I;obtain⟨rfl,rfl,-,rfl⟩:=I;simp only at c;obtain⟨rfl,rfl⟩:=c;cases aw<;>cases k<;>simp[LN,pH,pN,pZ,pV,pT,pQ,pD,pX,oC] at K k1 ⊢<;>omega
    .rename_i c;have key:∀o',(o'=some (LP.Ku sv)∨o'=some (LP.Dr sv))->LN ⟨l,!aw&&k,st || (sv&&l),w+1⟩ q (oC pH o'+h) (oC pN o'+rn) (oC pZ o'+rs) (oC pV o'+v) (oC pT o'+t) (oC pQ o'+s) (oC pD o'+d) (oC pX o'+x):=by
      intro o' aj;have ac:oC pH o'=0/\oC pN o'=0/\oC pZ o'=0/\oC pV o'=0/\oC pT o'=0/\oC pQ o'=1/\oC pD o'=0/\oC pX o'=0:=by
       rcases aj with rfl | rfl<;>exact⟨rfl,rfl,rfl,rfl,rfl,rfl,rfl,rfl⟩
      obtain⟨ac,e2,al,am,ap,aq,av,ay⟩:=ac;rw[ac,e2,al,am,ap,aq,av,ay];cases l<;>cases st<;>cases k<;>cases aw<;>cases sv<;>simp[LN,pH,pN,pZ,pV,pT,pQ,pD,pX] at K k1 U c ⊢<;>omega
     simp only[ja,sS,t6,f4] at I;rcases I with⟨rfl,rfl,-,rfl⟩ | ⟨rfl,rfl,-,rfl⟩;exact key _ (.inl V);exact key _ (.inr V)
   .simp only [de,f4] at I;obtain⟨rfl,rfl,-,rfl⟩:=I;cases aw<;>exact K
 case Ku sv=>obtain⟨rfl,rfl,-,rfl⟩:=I;exact K
 case Dr sv=>
  obtain⟨rfl,rfl,-,rfl⟩:=I;simp only[EZ] at O;cases st<;>cases k<;>cases l<;>cases sv<;>simp[LN,pH,pN,pZ,pV,pT,pQ,pD,pX,oC] at K ⊢<;>omega
 case HT=>
  simp only[ja,sS,t6,f4] at I;rcases I with⟨rfl,rfl,-,rfl⟩ | ⟨rfl,rfl,-,rfl⟩<;>exact K
 case GG sv=>
  simp only[EZ] at O;split at I;rename_i c;simp only[de,f4] at I;obtain⟨rfl,rfl,-,rfl⟩:=I;have c:st=true:=c;subst c;cases k<;>cases l<;>simp[LN,pH,pN,pZ,pV,pT,pQ,pD,pX,oC] at K ⊢<;>omega;rename_i c;simp only[de,f4] at I;obtain⟨rfl,rfl,-,rfl⟩:=I;cases st;cases k<;>cases l<;>simp[LN,pH,pN,pZ,pV,pT,pQ,pD,pX,oC] at K ⊢<;>omega;exact absurd V c
 case Ie ex=>
  obtain⟨rfl,rfl,-,rfl⟩:=I;simp only[EZ] at O;obtain⟨rfl,rfl,rfl,Z,ai,-⟩:=O;cases ex<;>simp[LN,pH,pN,pZ,pV,pT,pQ,pD,pX,oC] at K ai ⊢<;>omega
 case len=>obtain⟨rfl,rfl,-,rfl⟩:=I;exact K
 case Pg=>obtain⟨rfl,rfl,-,rfl⟩:=I;exact K
 case NW=>obtain⟨rfl,rfl,-,rfl⟩:=I;exact K
 case Il=>obtain⟨rfl,rfl,-,rfl⟩:=I;exact K
 case MO=>obtain⟨rfl,rfl,-,rfl⟩:=I;exact K
 case MW=>obtain⟨rfl,rfl,-,rfl⟩:=I;exact K
 case MK=>obtain⟨rfl,rfl,-,rfl⟩:=I;exact K
 case JZ=>
  obtain⟨rfl,rfl,-,rfl⟩:=I;simp only[EZ] at O;obtain⟨rfl,-⟩:=O;rcases tO w with rfl | hw;cases st<;>cases k<;>simp[LN,pH,pN,pZ,pV,pT,pQ,pD,pX,oC] at K ⊢<;>omega
  .have ag:¬w=0:=by omega
   cases st<;>cases k<;>simp[LN,pH,pN,pZ,pV,pT,pQ,pD,pX,oC,ag] at K ⊢<;>omega
 case Gf old=>
  simp only[EZ] at O;obtain⟨k1,U,Y,Z,-⟩:=O;split at I;rename_i e;subst e;simp only at k1 U Y Z;subst k1 U Y;simp only[de,f4] at I;obtain⟨rfl,rfl,-,rfl⟩:=I;simp[LN,pH,pN,pZ,pV,pT,pQ,pD,pX,oC] at K ⊢;omega;simp only[de,f4] at I;obtain⟨rfl,rfl,-,rfl⟩:=I;exact K
 case Jf=>
  obtain⟨rfl,rfl,-,rfl⟩:=I;rcases tO w with rfl | hw;cases st<;>cases k<;>cases l<;>simp[LN,pH,pN,pZ,pV,pT,pQ,pD,pX,oC] at K ⊢<;>omega
  .have ag:¬w=0:=by omega
   cases st<;>cases k<;>cases l<;>simp[LN,pH,pN,pZ,pV,pT,pQ,pD,pX,oC,ag] at K ⊢<;>omega
 case Gq b=>
  obtain⟨rfl,rfl,-,rfl⟩:=I;cases b<;>cases st<;>cases k<;>cases l<;>simp[LN,pH,pN,pZ,pV,pT,pQ,pD,pX,oC] at K ⊢<;>omega
 case G0=>obtain⟨rfl,rfl,-,rfl⟩:=I;exact K
theorem LN.awake(I:LN m q (pH p+h) (pN p+rn) (pZ p+rs) (pV p+v) (pT p+t) (pQ p+s) (pD p+d) (pX p+x))(K:pT p=1):m.k=true:=by
 obtain⟨l,k,st,w⟩:=m;obtain⟨O,U,Y⟩:=I;cases st
 all_goals grind
theorem LN.nq(I:(m',q',es,o)∈F.Cy p m q)(K:EZ p m q)(U:NH p m)(hs:ED m)(ac:LN m q (pH p+h) (pN p+rn) (pZ p+rs) (pV p+v) (pT p+t) (pQ p+s) (pD p+d) (pX p+x)):∀Y,o=some Y->NH Y m':=by
 have Z:=λag=>ac.awake ag;cases p<;>simp only[Fam.Cy,de,f4,sS] at I
 case Jd=>
  split at I<;>simp only[de,f4] at I<;>obtain⟨rfl,rfl,-,rfl⟩:=I<;>rintro _ ⟨⟩<;>simp[NH]
 case Gh sv aw it=>
  obtain⟨rfl,rfl,-,rfl⟩:=I;rintro _ ⟨⟩;exact⟨λe=>by subst e;exact Z rfl,U.1,U.2,hs⟩
 case DL sv aw it old=>
  simp only[Fam.GU,sO] at I;simp only[EZ] at K;obtain⟨k1,O,ai,aj,al,-⟩:=K;rcases I with I | I;split at I;rename_i c;split at I;simp only[de] at I;split at I<;>simp only[f4] at I<;>obtain⟨rfl,rfl,-,rfl⟩:=I<;>rintro _ ⟨⟩;exact⟨λ_=>V,AB⟩;exact⟨O,AB⟩;simp only[de,f4] at I;obtain⟨rfl,rfl,-,rfl⟩:=I;rintro _ ⟨⟩;exact⟨λe=>by subst e;exact Z rfl,O,AB,hs⟩;simp at I;split at I;split at I;simp only[de,f4] at I;obtain⟨rfl,rfl,-,rfl⟩:=I;rintro _ ⟨⟩;trivial;simp only[ja,sS,t6,f4] at I;rcases I with⟨rfl,rfl,-,rfl⟩ | ⟨rfl,rfl,-,rfl⟩<;>rintro _ ⟨⟩<;>trivial;simp only[de,f4] at I;obtain⟨rfl,rfl,-,rfl⟩:=I;rintro _ ⟨⟩;exact⟨O,ai⟩
 case Dr sv=>
  obtain⟨rfl,rfl,-,rfl⟩:=I;rintro _ h;cases sv<;>cases h<;>trivial
 case HT=>
  simp only[ja,sS,t6,f4] at I;rcases I with⟨rfl,rfl,-,rfl⟩ | ⟨rfl,rfl,-,rfl⟩<;>rintro _ ⟨⟩<;>trivial
 case GG sv=>
  simp only[EZ] at K;split at I;rename_i c;simp only[de,f4] at I;obtain⟨rfl,rfl,-,rfl⟩:=I;rintro _ ⟨⟩;intro e;have:=(K.1 c).2.2;simp at e;omega;rename_i c;simp only[de,f4] at I;obtain⟨rfl,rfl,-,rfl⟩:=I;rintro _ ⟨⟩;exact⟨λ_=>K.2.1 (by simpa using c),λ_=>V,AB,hs⟩
 case JZ=>
  obtain⟨rfl,rfl,-,rfl⟩:=I;rintro _ h;split at h;cases h;trivial;rename_i c;split at h;rename_i c2;cases h;exact⟨V,c2.1,by simpa using c,c2.2,hs⟩;cases h;trivial
 case Gf old=>
  split at I<;>simp only[de,f4] at I<;>obtain⟨rfl,rfl,-,rfl⟩:=I<;>rintro _ ⟨⟩<;>trivial
 case Jf=>
  obtain⟨rfl,rfl,-,rfl⟩:=I;rintro _ h;split at h;rename_i c;cases h;exact⟨c.1,c.2.1,c.2.2.1,c.2.2.2,hs⟩;cases h;trivial
 all_goals
  obtain⟨rfl,rfl,-,rfl⟩:=I;rintro _ ⟨⟩
 all_goals trivial
theorem LN.keepW(I:(m',q',es,o)∈F.Cy p m q)(K:EZ p m q)(O:LN m q (pH p+h) (pN p+rn) (pZ p+rs) (pV p+v) (pT p+t) (pQ p+s) (pD p+d) (pX p+x))(hd:1<=d):m.w<=m'.w:=by
 obtain⟨l,k,st,w⟩:=m;obtain⟨ag,U,Y⟩:=O;have Z:st=true:=by
  cases st;have:=(U V).2.1;omega;rfl
 subst Z;let⟨a1,ai,aj,ac,al,am⟩:=Y V;cases p<;>simp only[Fam.Cy,de,f4,sS] at I
 case Jd=>split at I<;>simp only[de,f4] at I<;>obtain⟨rfl,rfl,-,rfl⟩:=I<;>simp_all [M4.zero]
 case DL sv aw it old=>
  simp only[Fam.GU,sO] at I;rcases I with I | I;split at I;split at I;simp only[de] at I;split at I<;>simp only[f4] at I<;>obtain⟨rfl,rfl,-,rfl⟩:=I<;>exact jK _;simp only[de,f4] at I;obtain⟨rfl,rfl,-,rfl⟩:=I;exact jK _;simp at I;split at I;split at I;simp only[de,f4] at I;obtain⟨rfl,rfl,-,rfl⟩:=I;exact jK _;simp only[ja,sS,t6,f4] at I;rcases I with⟨rfl,rfl,-,rfl⟩ | ⟨rfl,rfl,-,rfl⟩<;>simp;simp only[de,f4] at I;obtain⟨rfl,rfl,-,rfl⟩:=I;exact jK _
 case HT=>
  simp only[ja,sS,t6,f4] at I;rcases I with⟨rfl,rfl,-,rfl⟩ | ⟨rfl,rfl,-,rfl⟩<;>exact jK _
 case GG sv=>split at I<;>simp only[de,f4] at I<;>obtain⟨rfl,rfl,-,rfl⟩:=I<;>exact jK _
 case Ie ex=>simp only[pD] at ac;omega
 case Gf old=>
  simp only[EZ] at K;split at I;rename_i e;subst e;exact absurd K.2.2.1 AM;simp only[de,f4] at I;obtain⟨rfl,rfl,-,rfl⟩:=I;exact jK _
 all_goals
  obtain⟨rfl,rfl,-,rfl⟩:=I;exact jK _
end
def Ey(f:LP->Nat):Nx->Nat
 | .ph (.lk _ p)=>f p
 | _=>0
def R3:Nx->M4->Prop
 | .ph (.lk _ p),m=>NH p m
 | _,_=>True
def Sg(f:LP->Nat)(N:Nat)(φ:Nat->Nx):Nat:=sumTo N λi=>Ey f (φ i)
structure LI (N:Nat) (φ:Nat->Nx) (m:M4) (q:Nat):Prop where
 ln:LN m q (Sg pH N φ) (Sg pN N φ) (Sg pZ N φ) (Sg pV N φ) (Sg pT N φ) (Sg pQ N φ) (Sg pD N φ) (Sg pX N φ)
 loc:∀i,i<N->R3 (φ i) m
section
variable {F:Fam}{N i k:Nat}{φ:Nat->Nx}{p:LP}{m m':M4}{q q':Nat}{es:Array Event}{o:Option LP}{y:Nx}
theorem Us(f:LP->Nat)(hi:i<N):Sg f N (upd φ i y)+Ey f (φ i)=Sg f N φ+Ey f y:=sumTo_upd φ y (Ey f) hi
theorem G9(f:LP->Nat)(hi:i<N)(I:φ i=.ph (.lk k p)):∃r,Sg f N φ=f p+r/\∀o,Sg f N (upd φ i (.ph (Fam.Ez k o)))=oC f o+r:=by
 have K:Ey f (φ i)<=Sg f N φ:=le_sumTo (f:=λi=>Ey f (φ i)) hi;have e:Ey f (φ i)=f p:=by rw[I];rfl
 refine⟨Sg f N φ - f p,AB,λo=>?_⟩;have O:=Us (φ:=φ) (y:=.ph (Fam.Ez k o)) f hi;have U:Ey f (.ph (Fam.Ez k o))=oC f o:=by cases o<;>rfl
 omega
theorem Qi(f:LP->Nat)(hi:i<N)(I:Ey f (φ i)=Ey f y):Sg f N (upd φ i y)=Sg f N φ:=by
 have:=Us (φ:=φ) (y:=y) f hi;omega
theorem LI.other(h:LI N φ m q)(hi:i<N)(O:∀k p,φ i≠ .ph (.lk k p))(I:∀k p,y≠ .ph (.lk k p)):LI N (upd φ i y) m q:=by
 have z:∀(f:LP->Nat) x,(∀k p,x≠Nx.ph (.lk k p))->Ey f x=0:=by
  intro f x U;cases x with
  | gone d=>rfl
  | ph p=>cases p<;>first | rfl | exact absurd rfl (U _ _)
 have e:∀f,Sg f N (upd φ i y)=Sg f N φ:=λf=>Qi f hi (by rw[z f _ O,z f _ I]);refine⟨by simp only[e];exact h.ln,λa Y=>?_⟩;by_cases K:a=i
 .subst K;rw[upd_same];cases y with
  | gone d=>trivial
  | ph p=>cases p<;>first | trivial | exact absurd rfl (I _ _)
 .rw [upd_ne _ _ K];exact h.loc a Y
theorem LI.ok(h:LI N φ m q)(hi:i<N)(I:φ i=.ph (.lk k p))(hs:ED m)(U:∀sv,p=.Dr sv->q≠0):EZ p m q:=by
 obtain⟨a,Y,-⟩:=G9 pH hi I;obtain⟨b,Z,-⟩:=G9 pN hi I;obtain⟨c,ac,-⟩:=G9 pZ hi I;obtain⟨d,ag,-⟩:=G9 pV hi I;obtain⟨e,ai,-⟩:=G9 pT hi I;obtain⟨f,aj,-⟩:=G9 pQ hi I;obtain⟨g,al,-⟩:=G9 pD hi I;obtain⟨j,am,-⟩:=G9 pX hi I;have K:=h.ln;rw[Y,Z,ac,ag,ai,aj,al,am] at K;have O:=h.loc i hi;rw[I] at O;exact kG K O hs U
theorem LI.step(h:LI N φ m q)(hi:i<N)(I:φ i=.ph (.lk k p))(hs:ED m)(O:EZ p m q)(U:(m',q',es,o)∈F.Cy p m q):LI N (upd φ i (.ph (Fam.Ez k o))) m' q':=by
 let⟨a,al,am⟩:=G9 pH hi I;let⟨b,ap,aq⟩:=G9 pN hi I;let⟨c,av,aw⟩:=G9 pZ hi I;let⟨d,ay,az⟩:=G9 pV hi I;let⟨e,a0,a1⟩:=G9 pT hi I;let⟨f,a2,a3⟩:=G9 pQ hi I;let⟨g,a4,a5⟩:=G9 pD hi I;let⟨j,a6,a7⟩:=G9 pX hi I;have K:=h.ln;rw[al,ap,av,ay,a0,a2,a4,a6] at K;have ac:=h.loc i hi;rw[I] at ac;refine⟨by rw[am,aq,aw,az,a1,a3,a5,a7];exact K.step U O,λy ag=>?_⟩;by_cases Y:y=i
 .subst Y;rw[upd_same];cases o with
  | none=>trivial
  | some a8=>exact K.nq U O ac hs a8 rfl
 .rw [upd_ne _ _ Y];have Z:=h.loc y ag;cases ai:φ y with
  | gone d=>trivial
  | ph p0=>
   cases p0 with
   | lk a9 p0=>
    rw[ai] at Z;cases p0<;>try exact Z
    rename_i ex;intro bb;have hd:1<=g:=by
     have be:=Us (N:=N) (φ:=φ) (i:=i) (y:=.gone 0) pD hi;have aj:Ey pD (upd φ i (.gone 0) y)<=Sg pD N (upd φ i (.gone 0)):=le_sumTo (f:=λa=>Ey pD (upd φ i (.gone 0) a)) ag;rw[upd_ne _ _ Y,ai] at aj;have bg:Ey pD (φ i)=pD p:=by rw[I];rfl
     have e2:Ey pD (.gone 0)=0:=V;have bi:Ey pD (.ph (.lk a9 (.Ie ex)))=1:=V;omega
    have:=K.keepW U O hd;have aj:2<=m.w:=Z bb;omega
   | _=>trivial
end
def IM:LP->Nat
 | .len=>22 | .Pg=>21 | .NW=>20 | .GY=>19 | .Il=>18 | .MO=>17 | .MW=>16 | .MK=>15 | .JZ=>14
 | .Gf _=>13 | .Jf=>13 | .Gq _=>12 | .G0=>11
 | _=>23
def kw:LP->Nat
 | .HG | .Jd=>2
 | .Gh _ aw _=>if aw then 1 else 2
 | .DL _ aw _ _=>if aw then 1 else 2
 | .HT | .GG _ | .Ie _=>1
 | _=>0
def lc(m:M4):LP->Nat
 | .HG=>27 | .Jd=>26 | .Gh _ _ it=>2*(5 - it)+1
 | .DL _ _ it old=>2*(5 - it)+if m=old then 0 else 2
 | .Ku _=>24 | .Dr _=>23 | .HT=>22 | .GG _=>21
 | .Gf old=>if m=old then 1 else 3
 | .Jf=>2
 | _=>0
def wO:Option LP->Nat
 | some p=>IM p
 | none=>9
def wt(n:Nat):Nx->Nat
 | .gone _=>0
 | .ph p=>match p with
  | .IB _=>10 | .Jk=>9 | .HZ=>8 | .Kz=>7 | .IF=>6 | .Ib=>5 | .Iy=>4 | .GF=>3
  | .EL=>3*n+25 | .Ht m=>3*m+20 | .IE m=>3*m+19 | .Ka=>14 | .Jl=>13 | .GV=>12 | .Iz=>11 | .Hx=>10 | .J1=>9 | .HH=>8 | .I8=>7
  | .HE j=>5*n+90+50*(n - j) | .J3 j=>5*n+89+50*(n - j) | .J7 j=>5*n+88+50*(n - j) | .Ja j=>5*n+87+50*(n - j) | .Ik j=>5*n+86+50*(n - j) | .Hi j=>5*n+85+50*(n - j)
  | .Ic=>5*n+60 | .Hc _ _=>2
  | .lk _ p=>IM p
variable{I:Nx}
theorem kX{F:Fam}{p:Ph}{v w sm v' w' sm':Nat}{es:Array Event}(h:F.act p v w sm=some ((v',w',sm'),es,I)):wt F.n I<wt F.n (.ph p):=by
  cases p<;>simp only[Fam.act] at h<;>(try (cases h;done))
  case IF=>
    split at h;cases h;split<;>simp[wt];cases h
  case Ht=>
    split at h;cases h;split<;>simp[wt]<;>omega;cases h
  case IE=>
    split at h;split at h<;>cases h<;>simp[wt]<;>omega;cases h
  case J3=>
    split at h;cases h;split<;>simp[wt];cases h
  all_goals first
    | (cases h;simp[wt];done)
    | (split at h
       .cases h;simp[wt]
       .cases h)
section
variable {F:Fam}{p:LP}{m m':M4}{q q':Nat}{es:Array Event}{o:Option LP}
theorem ir(I:(m',q',es,o)∈F.Cy p m q)(K:EZ p m q):wO o<IM p∨(wO o=IM p/\(oC kw o+q'<kw p+q∨(oC kw o+q'=kw p+q/\m'=m/\oC (lc m) o<lc m p))):=by
 cases p<;>simp only[Fam.Cy,de,f4,sS] at I
 case Jd=>
  split at I<;>simp only[de,f4] at I<;>obtain⟨rfl,rfl,-,rfl⟩:=I;exact .inl Aa;exact .inr ⟨V,.inr ⟨V,V,by simp[oC,lc]⟩⟩
 case Gh sv aw it=>
  obtain⟨rfl,rfl,-,rfl⟩:=I;exact .inr ⟨V,.inr ⟨V,V,by simp[oC,lc]⟩⟩
 case DL sv aw it old=>
  simp only[Fam.GU,sO] at I;simp only[EZ] at K;obtain⟨k1,O,U,Y,Z,-⟩:=K;rcases I with I | I;split at I;rename_i c;split at I;rename_i c2;simp only[de] at I;obtain⟨rfl,c3,c4⟩:=c2;split at I<;>simp only[f4] at I<;>obtain⟨rfl,rfl,-,rfl⟩:=I;exact .inr ⟨V,.inl (by simp[oC,kw])⟩;rename_i e;refine .inr ⟨V,.inr ⟨V,V,?_⟩⟩;simp only[oC,lc,d0 e];omega;simp only[de,f4] at I;obtain⟨rfl,rfl,-,rfl⟩:=I;refine .inr ⟨V,.inr ⟨V,V,?_⟩⟩;simp only[oC,lc,tS];omega;simp at I;split at I;rename_i e;split at I;simp only[de,f4] at I;obtain⟨rfl,rfl,-,rfl⟩:=I;exact .inl Aa;simp only[ja,sS,t6,f4] at I;rcases I with⟨rfl,rfl,-,rfl⟩ | ⟨rfl,rfl,-,rfl⟩<;>exact .inr ⟨rfl,.inl (by cases aw<;>simp[oC,kw])⟩;rename_i e;simp only[de,f4] at I;obtain⟨rfl,rfl,-,rfl⟩:=I;refine .inr ⟨V,.inr ⟨V,V,?_⟩⟩;simp only[oC,lc,d0 e];omega
 case Dr sv=>
  obtain⟨rfl,rfl,-,rfl⟩:=I;simp only[EZ] at K;cases sv;refine .inr ⟨V,.inr ⟨?_,V,by simp[oC,lc]⟩⟩;simp only[oC,kw,s5,tP];omega;refine .inr ⟨V,.inr ⟨?_,V,by simp[oC,lc]⟩⟩;simp only[oC,kw,tS];omega
 case HT=>
  simp only[ja,sS,t6,f4] at I;rcases I with⟨rfl,rfl,-,rfl⟩ | ⟨rfl,rfl,-,rfl⟩<;>exact .inr ⟨rfl,.inr ⟨rfl,rfl,by simp[oC,lc]⟩⟩
 case GG sv=>
  split at I<;>simp only[de,f4] at I<;>obtain⟨rfl,rfl,-,rfl⟩:=I<;>exact .inr ⟨rfl,.inr ⟨rfl,rfl,by simp[oC,lc]⟩⟩
 case JZ=>
  obtain⟨rfl,rfl,-,rfl⟩:=I;refine .inl ?_;split;simp[wO,IM];split<;>simp[wO,IM]
 case Gf old=>
  split at I<;>simp only[de,f4] at I<;>obtain⟨rfl,rfl,-,rfl⟩:=I;exact .inl Aa;rename_i e;refine .inr ⟨V,.inr ⟨V,V,?_⟩⟩;simp only[oC,lc,d0 e];omega
 case Jf=>
  obtain⟨rfl,rfl,-,rfl⟩:=I;split;exact .inr ⟨V,.inr ⟨V,V,by simp[oC,lc]⟩⟩;exact .inl Aa
 case Ku sv=>obtain⟨rfl,rfl,-,rfl⟩:=I;exact .inr ⟨V,.inr ⟨V,V,by simp[oC,lc]⟩⟩
 case HG=>obtain⟨rfl,rfl,-,rfl⟩:=I;exact .inr ⟨V,.inr ⟨V,V,by simp[oC,lc]⟩⟩
 all_goals
  obtain⟨rfl,rfl,-,rfl⟩:=I;exact .inl Aa
end
def Dn(N:Nat)(r' r:Nat->Rk):Prop:=∃i,i<N/\Rk.sub (r' i) (r i)/\∀j,j≠i->r' j=r j
theorem Dn.wf:∀N,WellFounded (Dn N)
 | 0=>⟨λ_=>⟨_,λ_ ⟨_,h,_⟩=>by omega⟩⟩
 | N+1=>⟨by
  have key:∀x:Rk,∀r:Nat->Rk,r N=x->Acc (Dn (N+1)) r:=by
   intro x
   induction x using Rk.wf.induction with
   | _ x O=>
    intro r
    induction r using (Dn.wf N).induction with
    | _ r U=>
     intro e
     refine⟨_,λr' ⟨i,hi,hs,I⟩=>?_⟩
     by_cases K:i=N;subst K;exact O (r' i) (by rw[← e];exact hs) r' V;exact U r' ⟨i,AB,hs,I⟩ (by rw[I N (ti K),e])
  exact λr=>key _ r V⟩
def chain:Nat->Rk
 | 0=>.leaf
 | n+1=>.node λ_=>chain n
theorem ck(n:Nat)(w:World):Rk.sub (chain n) (chain (n+1)):=⟨_,w,V,V⟩
structure Mu where
 a:Nat
 k:Nat
 l:Nat
 N:Nat
 r:Nat->Rk
 b:Nat
def Mu.lt(x y:Mu):Prop:=x.a<y.a∨(x.a=y.a/\(x.k<y.k∨(x.k=y.k/\(x.l<y.l∨(x.l=y.l/\x.N=y.N/\(Dn y.N x.r y.r∨(x.r=y.r/\x.b<y.b)))))))
theorem Mu.wf:WellFounded Mu.lt:=⟨by
 have key:∀(a k l N:Nat) (r:Nat->Rk) (b:Nat),Acc Mu.lt ⟨a,k,l,N,r,b⟩:=by
  intro a
  induction a using Nat.strongRecOn with
  | _ a ac=>
   intro k
   induction k using Nat.strongRecOn with
   | _ k ag=>
    intro l
    induction l using Nat.strongRecOn with
    | _ l ai=>
     intro N r
     induction r using (Dn.wf N).induction with
     | _ r aj=>
      intro b
      induction b using Nat.strongRecOn with
      | _ b al=>
       refine⟨_,λ⟨am,k',l',N',r',b'⟩ h=>?_⟩
       rcases h with h | ⟨I,h | ⟨K,h | ⟨O,U,h | ⟨Y,Z⟩⟩⟩⟩;exact ac am h k' l' N' r' b';simp only at I h;subst I;exact ag k' h l' N' r' b';simp only at I K h;subst I K;exact ai l' h N' r' b';simp only at I K O U h;subst I K O U;exact aj r' h b';simp only at I K O U Y Z;subst I K O U Y;exact al b' Z
 exact λ⟨a,k,l,N,r,b⟩=>key a k l N r b⟩
def bit(b:Bool):Nat:=if b then 1 else 0
def mu(F:Fam)(N:Nat)(φ:Nat->Nx)(m:M4)(q:Nat)(r:Nat->Rk)(bt:Nat->Bool):Mu:=⟨sumTo N λi=>wt F.n (φ i),Sg kw N φ+q,Sg (lc m) N φ,N,r,sumTo N λi=>bit (bt i)⟩
section
variable {F:Fam}{N N' i k:Nat}{φ φ':Nat->Nx}{p:LP}{m m':M4}{q q':Nat}{es:Array Event}{o:Option LP}{r r':Nat->Rk}{b b':Nat->Bool}{x:Nx}{ρ:Rk}
theorem my(h:(sumTo N' λi=>wt F.n (φ' i))<sumTo N λi=>wt F.n (φ i)):Mu.lt (mu F N' φ' m' q' r' b') (mu F N φ m q r b):=.inl h
theorem YL(hi:i<N)(h:wt F.n x<wt F.n (φ i)):Mu.lt (mu F N (upd φ i x) m' q' r' b') (mu F N φ m q r b):=by
 have:=sumTo_upd φ x (wt F.n) hi;exact .inl (by show(sumTo N λa=>wt F.n (upd φ i x a))<sumTo N λa=>wt F.n (φ a);omega)
theorem Zf(hi:i<N)(I:∀f,Ey f x=Ey f (φ i))(hw:wt F.n x=wt F.n (φ i))(h:Rk.sub ρ (r i)):Mu.lt (mu F N (upd φ i x) m q (upd r i ρ) b') (mu F N φ m q r b):=by
 have:=sumTo_upd φ x (wt F.n) hi;refine .inr ⟨by show(sumTo N λa=>wt F.n (upd φ i x a))=sumTo N λa=>wt F.n (φ a);omega,.inr ⟨by show Sg kw N (upd φ i x)+q=_;rw[Qi kw hi (I kw).symm];rfl,.inr ⟨Qi (lc m) hi (I _).symm,V,.inl ⟨i,hi,?_,λa K=>upd_ne _ _ K⟩⟩⟩⟩;show Rk.sub (upd r i ρ i) _;rw[upd_same];exact h
theorem mL(hi:i<N)(I:φ i=.ph (.lk k p))(U:(m',q',es,o)∈F.Cy p m q)(Y:EZ p m q):Mu.lt (mu F N (upd φ i (.ph (Fam.Ez k o))) m' q' r' b') (mu F N φ m q r b):=by
 have hw:=sumTo_upd φ (.ph (Fam.Ez k o)) (wt F.n) hi;have Z:wt F.n (φ i)=IM p:=by rw[I];rfl
 have e2:wt F.n (.ph (Fam.Ez k o))=wO o:=by cases o<;>rfl
 rw[Z,e2] at hw;let⟨a,K,O⟩:=G9 (k:=k) kw hi I;let⟨c,ac,ag⟩:=G9 (k:=k) (lc m) hi I;rcases ir U Y with h | ⟨aj,h | ⟨al,ai,am⟩⟩;exact .inl (by show(sumTo N λa=>wt F.n (upd φ i _ a))<sumTo N λa=>wt F.n (φ a);omega);exact .inr ⟨by show(sumTo N λa=>wt F.n (upd φ i _ a))=sumTo N λa=>wt F.n (φ a);omega,.inl (by show Sg kw N (upd φ i _)+q'<Sg kw N φ+q;rw[K,O];omega)⟩;subst ai;exact .inr ⟨by show(sumTo N λa=>wt F.n (upd φ i _ a))=sumTo N λa=>wt F.n (φ a);omega,.inr ⟨by show Sg kw N (upd φ i _)+q'=Sg kw N φ+q;rw[K,O];omega,.inl (by show Sg (lc m') N (upd φ i _)<Sg (lc m') N φ;rw[ac,ag];omega)⟩⟩
end
open Go.ConcN (RelBy fork_knows)
variable{e:Event}
section
variable {F:Fam}{N0 t0 N j:Nat}{φ:Nat->Nx}{S:Nat->St}{t u:Trace}{v wt sm v' wt' sm':Nat}
theorem PZ{α:Type}(f:Nat->α)(i:Nat):upd f i (f i)=f:=by
 funext a;unfold upd;split;rename_i e;rw[e];rfl
def GZ(F:Fam)(I:Prop)(e:Event):Prop:=
 (∀a,(MemAct.ofEvent e).touch?=some a->(∃b,DY a.loc=some b/\(b=F.wg∨b=F.mu))/\a.kind≠ .plain/\(a.kind=.said->I))/\e.loc≠ .mark (.release F.sA)
theorem GZ.toS{I:Prop}{i:Nat}(h:GZ F I e)(ht:I->i=0):EvS F N0 j i e:=
 ⟨λa K=>let ⟨⟨b,O,U⟩,Y,Z⟩:=h.1 a K;⟨b,O,.inl ⟨U,Y,λq=>ht (Z q)⟩⟩,h.2⟩
theorem GZ.keep{K:Prop}{i:Nat}(h:GZ F K e)(ht:K->i=0)(U:F.fd≠F.wg)(Y:F.fd≠F.mu):(∀a b,(MemAct.ofEvent e).touch?=some a->DY a.loc=some b->(b=F.wg∨b=F.mu)->a.kind≠ .plain/\(a.kind=.said->i=0))/\
   (∀a,(MemAct.ofEvent e).touch?=some a->DY a.loc=some F.fd->∃k,k<j/\i=N0+k/\a.loc=.cell ⟨F.fd,k,none⟩/\a.kind=.plain)/\e.loc≠ .mark (.release F.sA):=
 ⟨λa b I _ _=>⟨(h.1 a I).2.1,λq=>ht ((h.1 a I).2.2 q)⟩,λa I hb=>by
  obtain⟨⟨b,O,Z⟩,-⟩:=h.1 a I
  rw[hb] at O
  obtain rfl:=f8 O
  rcases Z with e | e;exact absurd e U
  .exact absurd e Y,h.2⟩
theorem Wp{m:Mark}(I:∀a,m≠ .read a)(K:∀a,m≠ .write a):(MemAct.ofEvent (Fam.DF m)).touch?=none:=by
 cases m<;>first | rfl | exact absurd rfl (I _) | exact absurd rfl (K _)
theorem kI(p:Ph){es:Array Event}{al:Nx}(I:F.act p v wt sm=some ((v',wt',sm'),es,al)):
  (∀e∈es,GZ F (p=.Jl∨∃j,p=.Ja j) e)/\deafBehind (Hh (.ph p)) es=Hh al/\(∀e∈es,∀B,F.wg<B->(MemAct.ofEvent e).low B):=by
 have aw:∀b w,(MemAct.ofEvent ⟨.cell F.sA,w,b⟩).touch?=some ⟨.cell F.sA,w,if b then .atomic else .plain⟩:=by intro b w;cases b<;>cases w<;>rfl
 have Z:∀(a:Addr) w (T:Prop),a.block=F.wg->GZ F T ⟨.cell a,w,true⟩:=by
  intro a w T hb;refine⟨λx O=>?_,AM⟩;have:x=⟨.cell a,w,.atomic⟩:=by cases w<;>(simp[MemAct.ofEvent,MemAct.touch?] at O;exact O.symm)
  subst this;exact⟨⟨F.wg,by simp[DY,hb],.inl V⟩,AM,AM⟩
 have ac:∀(a:Addr) w B,a.block=F.wg->F.wg<B->(MemAct.ofEvent ⟨.cell a,w,true⟩).low B:=by
  intro a w B hb K;cases w<;>simp[MemAct.ofEvent,MemAct.low,Loc.low,hb,K]
 have Io:∀(m:Mark) (T:Prop),(∀a,m≠ .read a)->(∀a,m≠ .write a)->(∀a,m≠ .release a)->GZ F T (Fam.DF m):=by
  intro m T ap aq av;exact⟨λx O=>(by rw[Wp ap aq] at O;cases O),λe=>av _ (Loc.mark.inj e)⟩
 have ag:F.mA.block=F.wg:=V;have Y:F.sA.block=F.wg:=V;have Gs:∀(T:Prop),∀e∈semEvents F.mA,GZ F T e:=by
  intro T e he;simp only[semEvents,ul,ja,sS,t6] at he;rcases he with rfl | rfl | rfl | rfl;exact Io .disable T AM AM AM;exact Z _ _ _ ag;exact Z _ _ _ ag;exact Io .enable T AM AM AM
 have am:∀e∈semEvents F.mA,∀B,F.wg<B->(MemAct.ofEvent e).low B:=by
  intro e he B K;simp only[semEvents,ul,ja,sS,t6] at he;rcases he with rfl | rfl | rfl | rfl;trivial;exact ac _ _ _ ag K;exact ac _ _ _ ag K;trivial
 have ai:∀(T:Prop),∀e∈(#[Fam.CR F.sA,Fam.FN F.sA]:Array Event),GZ F T e:=by
  intro T e he;simp only[ul,ja,sS,t6] at he;rcases he with rfl | rfl<;>exact Z _ _ _ Y
 have aj:∀e∈(#[Fam.CR F.sA,Fam.FN F.sA]:Array Event),∀B,F.wg<B->(MemAct.ofEvent e).low B:=by
  intro e he B K;simp only[ul,ja,sS,t6] at he;rcases he with rfl | rfl<;>exact ac _ _ _ Y K
 have one:∀{e:Event}{T:Prop},GZ F T e->∀x∈(#[e]:Array Event),GZ F T x:=by
  intro e T h x O;simp at O;subst O;exact h
 have U:∀{e:Event},(∀B,F.wg<B->(MemAct.ofEvent e).low B)->∀x∈(#[e]:Array Event),∀B,F.wg<B->(MemAct.ofEvent x).low B:=by
  intro e h x O;simp at O;subst O;exact h
 cases p<;>simp only[Fam.act] at I<;>(try (cases I;done));cases I;exact⟨one (Io _ _ AM AM AM),V,U λB K=>K⟩;cases I;exact⟨one (Io _ _ AM AM AM),V,U λB K=>trivial⟩;split at I;cases I;exact⟨ai _,by split<;>rfl,aj⟩;cases I;split at I;cases I;exact⟨one (Z _ _ _ Y),V,U λB K=>ac _ _ _ Y K⟩;cases I;split at I;cases I;exact⟨one (Z _ _ _ Y),V,U λB K=>ac _ _ _ Y K⟩;cases I;split at I;cases I;exact⟨Gs _,V,am⟩;cases I;cases I;exact⟨one (Io _ _ AM AM AM),V,U λB K=>trivial⟩;split at I;cases I;exact⟨one (Z _ _ _ Y),by split<;>rfl,U λB K=>ac _ _ _ Y K⟩;cases I;split at I;split at I;cases I;exact⟨ai _,V,aj⟩;cases I;exact⟨one (Z _ _ _ Y),V,U λB K=>ac _ _ _ Y K⟩;cases I;cases I;refine⟨one ⟨λx O=>?_,by simp[Fam.DF]⟩,V,U λB K=>K⟩;simp[Fam.DF,MemAct.ofEvent,MemAct.touch?] at O;subst O;exact⟨⟨F.wg,V,.inl V⟩,AM,λ_=>.inl V⟩;split at I;cases I;exact⟨Gs _,V,am⟩;cases I;split at I;cases I;exact⟨one (Z _ _ _ Y),V,U λB K=>ac _ _ _ Y K⟩;cases I;cases I;exact⟨one (Io _ _ AM AM AM),V,U λB K=>trivial⟩;cases I;exact⟨one (Io _ _ AM AM AM),V,U λB K=>trivial⟩;split at I;cases I;exact⟨ai _,by split<;>rfl,aj⟩;cases I;cases I;refine⟨one ⟨λx O=>?_,by simp[Fam.DF]⟩,V,U λB K=>K⟩;simp[Fam.DF,MemAct.ofEvent,MemAct.touch?] at O;subst O;exact⟨⟨F.wg,V,.inl V⟩,AM,λ_=>.inr ⟨_,V⟩⟩;cases I;exact⟨one (Io _ _ AM AM AM),V,U λB K=>trivial⟩
 all_goals
  cases I;exact⟨AM,V,AM⟩
theorem eZ(p:Ph){es:Array Event}{O:Nx}(I:F.act p v wt sm=some ((v',wt',sm'),es,O)){k:Nat}(hw:H8 F k (.ph p))(K:late (.ph p)):
  ∀m e,es[m]?=some e->(MemAct.ofEvent e).touch?=none∨((∃ad wr,e=⟨.cell ad,wr,true⟩)/\0<deafBehind (Hh (.ph p)) (es.extract 0 m)):=by
 have two:∀m e,(#[Fam.CR F.sA,Fam.FN F.sA]:Array Event)[m]?=some e->(∃ad wr,e=⟨.cell ad,wr,true⟩)/\0<deafBehind 1 ((#[Fam.CR F.sA,Fam.FN F.sA]:Array Event).extract 0 m):=by
  intro m e h
  match m with
  | 0=>simp at h;subst h;exact⟨⟨_,_,rfl⟩,by simp[deafBehind]⟩
  | 1=>simp at h;subst h;exact⟨⟨_,_,rfl⟩,by simp[deafBehind,Fam.CR]⟩
  | m+2=>simp at h
 cases p<;>simp only[H8] at hw<;>(try exact hw.elim)<;>simp only[late] at K<;>(try exact K.elim)<;>simp only[Fam.act] at I<;>(try (cases I;done))
 .cases I;intro m e h
  match m with
  | 0=>simp at h;subst h;exact .inl rfl
  | m+1=>simp at h
 .split at I;cases I;exact λm e h=>.inr (two m e h);cases I
 .split at I
  .cases I;intro m e h
   match m with
   | 0=>simp at h;subst h;exact .inr ⟨⟨_,_,rfl⟩,by simp[deafBehind,Hh]⟩
   | m+1=>simp at h
  .cases I
 .split at I
  .cases I;intro m e h
   match m with
   | 0=>simp at h;subst h;exact .inr ⟨⟨_,_,rfl⟩,by simp[deafBehind,Hh]⟩
   | m+1=>simp at h
  .cases I
 .split at I
  .cases I;intro m e h
   match m with
   | 0=>simp[semEvents] at h;subst h;exact .inl rfl
   | 1=>simp[semEvents] at h;subst h;exact .inr ⟨⟨_,_,rfl⟩,by simp[deafBehind,Hh,semEvents]⟩
   | 2=>simp[semEvents] at h;subst h;exact .inr ⟨⟨_,_,rfl⟩,by simp[deafBehind,Hh,semEvents]⟩
   | 3=>simp[semEvents] at h;subst h;exact .inl rfl
   | m+4=>simp[semEvents] at h
  .cases I
theorem iz{p:LP}{m m':M4}{q q':Nat}{es:Array Event}{o:Option LP}(I:(m',q',es,o)∈F.Cy p m q):
  (∀e∈es,GZ F False e)/\deafBehind (dl p) es=oC dl o/\(∀e∈es,∀B,F.mu<B->(MemAct.ofEvent e).low B):=by
 have Z:∀(a:Addr) w,a.block=F.mu->GZ F False ⟨.cell a,w,true⟩:=by
  intro a w hb;refine⟨λx Y=>?_,AM⟩;have:x=⟨.cell a,w,.atomic⟩:=by cases w<;>(simp[MemAct.ofEvent,MemAct.touch?] at Y;exact Y.symm)
  subst this;exact⟨⟨F.mu,by simp[DY,hb],.inr V⟩,AM,AM⟩
 have ac:∀(a:Addr) w B,a.block=F.mu->F.mu<B->(MemAct.ofEvent ⟨.cell a,w,true⟩).low B:=by
  intro a w B hb K;cases w<;>simp[MemAct.ofEvent,MemAct.low,Loc.low,hb,K]
 have Io:∀(m:Mark),(∀a,m≠ .read a)->(∀a,m≠ .write a)->(∀a,m≠ .release a)->GZ F False (Fam.DF m):=by
  intro m ag ai aj;exact⟨λx Y=>(by rw[Wp ag ai] at Y;cases Y),λe=>aj _ (Loc.mark.inj e)⟩
 have nil:∀d,(∀e∈(#[]:Array Event),GZ F False e)/\deafBehind d #[]=d/\(∀e∈(#[]:Array Event),∀B,F.mu<B->(MemAct.ofEvent e).low B):=λd=>⟨AM,rfl,AM⟩;have rd:∀d,(∀e∈(#[Fam.CR F.uA]:Array Event),GZ F False e)/\deafBehind d #[Fam.CR F.uA]=d/\(∀e∈(#[Fam.CR F.uA]:Array Event),∀B,F.mu<B->(MemAct.ofEvent e).low B):=λd=>
  ⟨λe he=>by simp at he;subst he;exact Z _ _ rfl,rfl,λe he B K=>by simp at he;subst he;exact ac _ _ _ rfl K⟩
 have O:∀d,(∀e∈(#[Fam.CR F.uA,Fam.FN F.uA]:Array Event),GZ F False e)/\deafBehind d #[Fam.CR F.uA,Fam.FN F.uA]=d/\(∀e∈(#[Fam.CR F.uA,Fam.FN F.uA]:Array Event),∀B,F.mu<B->(MemAct.ofEvent e).low B):=λd=>
  ⟨λe he=>by
   simp only[ul,ja,sS,t6] at he
   rcases he with rfl | rfl<;>exact Z _ _ rfl,rfl,λe he B K=>by
   simp only[ul,ja,sS,t6] at he
   rcases he with rfl | rfl<;>exact ac _ _ _ rfl K⟩
 have Gs:(∀e∈semEvents F.qA,GZ F False e)/\deafBehind 1 (semEvents F.qA)=1/\(∀e∈semEvents F.qA,∀B,F.mu<B->(MemAct.ofEvent e).low B):=by
  refine⟨λe he=>?_,V,λe he B K=>?_⟩;simp only[semEvents,ul,ja,sS,t6] at he;rcases he with rfl | rfl | rfl | rfl;exact Io .disable AM AM AM;exact Z _ _ V;exact Z _ _ V;exact Io .enable AM AM AM;simp only[semEvents,ul,ja,sS,t6] at he;rcases he with rfl | rfl | rfl | rfl;trivial;exact ac _ _ _ V K;exact ac _ _ _ V K;trivial
 have U:∀(m:Mark) (d d':Nat),(∀a,m≠ .read a)->(∀a,m≠ .write a)->(∀a,m≠ .release a)->deafBehind d #[Fam.DF m]=d'->(∀B,F.mu<B->(MemAct.ofEvent (Fam.DF m)).low B)->
   (∀e∈(#[Fam.DF m]:Array Event),GZ F False e)/\deafBehind d #[Fam.DF m]=d'/\(∀e∈(#[Fam.DF m]:Array Event),∀B,F.mu<B->(MemAct.ofEvent e).low B):=λm d d' ag ai aj al am=>
  ⟨λe he=>by simp at he;subst he;exact Io m ag ai aj,al,λe he B K=>by simp at he;subst he;exact am B K⟩
 cases p<;>simp only[Fam.Cy,de,f4,sS] at I
 case HG=>obtain⟨rfl,rfl,rfl,rfl⟩:=I;exact U .disable 0 1 AM AM AM V λB K=>trivial
 case Jd=>
  split at I<;>simp only[de,f4] at I<;>obtain⟨rfl,rfl,rfl,rfl⟩:=I;exact O 1;exact rd 1
 case DL sv aw it old=>
  simp only[Fam.GU,sO] at I;rcases I with I | I;split at I;split at I;simp only[de] at I;split at I<;>simp only[f4] at I<;>obtain⟨rfl,rfl,rfl,rfl⟩:=I;exact O 1;exact rd 1;simp only[de,f4] at I;obtain⟨rfl,rfl,rfl,rfl⟩:=I;exact nil 1;simp at I;split at I;split at I;simp only[de,f4] at I;obtain⟨rfl,rfl,rfl,rfl⟩:=I;exact O 1;simp only[ja,sS,t6,f4] at I;rcases I with⟨rfl,rfl,rfl,rfl⟩ | ⟨rfl,rfl,rfl,rfl⟩<;>exact O 1;simp only[de,f4] at I;obtain⟨rfl,rfl,rfl,rfl⟩:=I;exact rd 1
 case Dr sv=>obtain⟨rfl,rfl,rfl,rfl⟩:=I;cases sv<;>exact Gs
 case HT=>
  simp only[ja,sS,t6,f4] at I;rcases I with⟨rfl,rfl,rfl,rfl⟩ | ⟨rfl,rfl,rfl,rfl⟩<;>exact nil 1
 case GG sv=>split at I<;>simp only[de,f4] at I<;>obtain⟨rfl,rfl,rfl,rfl⟩:=I<;>exact nil 1
 case JZ=>
  obtain⟨rfl,rfl,rfl,rfl⟩:=I;split;exact O 1;split<;>exact O 1
 case Gf old=>
  split at I<;>simp only[de,f4] at I<;>obtain⟨rfl,rfl,rfl,rfl⟩:=I;exact O 1;exact rd 1
 case Jf=>obtain⟨rfl,rfl,rfl,rfl⟩:=I;split<;>exact nil 1
 case Gq b=>obtain⟨rfl,rfl,rfl,rfl⟩:=I;exact Gs
 case len=>obtain⟨rfl,rfl,rfl,rfl⟩:=I;exact U .enable 1 0 AM AM AM V λB K=>trivial
 case G0=>obtain⟨rfl,rfl,rfl,rfl⟩:=I;exact U .enable 1 0 AM AM AM V λB K=>trivial
 case MK=>obtain⟨rfl,rfl,rfl,rfl⟩:=I;exact U .disable 0 1 AM AM AM V λB K=>trivial
 case NW=>obtain⟨rfl,rfl,rfl,rfl⟩:=I;exact U (.acquire F.uA) 0 0 AM AM AM V λB K=>K
 case MW=>obtain⟨rfl,rfl,rfl,rfl⟩:=I;exact U (.releaseMerge F.uA) 0 0 AM AM AM V λB K=>K
 all_goals
  obtain⟨rfl,rfl,rfl,rfl⟩:=I
 all_goals first | exact nil 0 | exact nil 1 | exact O 1
end
def Ds(c:Bool)(N:Nat)(φ:Nat->Nx):Nat->Nx:=λi=>if c=true/\i=N then φ 0 else if c=true/\i=0 then .ph (.Hc [] []) else φ i
theorem K5{N:Nat}{φ:Nat->Nx}:Ds false N φ=φ:=by funext i;simp[Ds]
theorem Ko{c:Bool}{N:Nat}{φ:Nat->Nx}{i:Nat}(I:i≠0)(K:i≠N):Ds c N φ i=φ i:=by simp[Ds,I,K]
theorem LF{N:Nat}{φ:Nat->Nx}:Ds true N φ N=φ 0:=by simp[Ds]
theorem P9{c:Bool}{N:Nat}{φ:Nat->Nx}{i:Nat}{x:Nx}(I:i≠0)(K:i≠N):upd (Ds c N φ) i x=Ds c N (upd φ i x):=by
 funext a;unfold Ds;by_cases e:a=i;subst e;rw[upd_same,d0 (by simp[K]),d0 (by simp[I]),upd_same];rw[upd_ne _ _ e];rw[upd_ne φ x (ti I),upd_ne _ _ e]
theorem eD{N:Nat}{φ:Nat->Nx}{x:Nx}(K:N≠0):upd (Ds true N φ) N x=Ds true N (upd φ 0 x):=by
 funext a;unfold Ds;by_cases e:a=N;subst e;simp[upd_same];rw[upd_ne _ _ e];by_cases I:a=0;subst I;simp[e];rw[upd_ne φ x I];simp[e,I]
def I9:Nx->Bool
 | .gone _=>true
 | .ph p=>Fam.DX p
def loc(x:Nx)(s:St):St:=if I9 x=true then .quiet else s
def HW:LP->Prop
 | .Il | .MO | .MW | .MK | .JZ | .Gf _ | .Jf | .Gq _ | .G0=>True
 | _=>False
def stored:Nx->Prop
 | .gone _=>True
 | .ph (.lk _ p)=>HW p
 | .ph .Jk | .ph .HZ | .ph .Kz | .ph .IF | .ph .Ib | .ph .Iy | .ph .GF=>True
 | _=>False
def Ul(p:Ph):Prop:=p=.GV∨∃k sv,p=.lk k (.Dr sv)
inductive H0 (P:Program) (F:Fam) (main:Bool):Nx->Rk->Bool->Gs_
 | walk {p:Ph}{r:Rk}{g:Goroutine}{s:St}:main=Fam.Dw p->(Fam.DX p=true->s=.quiet)->Jr P main (JQ (Stop P F p)) r g s->H0 P F main (.ph p) r true g s
 | blk {p:Ph}{r:Rk}{g:Goroutine}{s:St}:Ul p->main=Fam.Dw p->Stop P F p g s->H0 P F main (.ph p) r false {g with status:=.blocked} s
 | gone {q d:Nat}{g:Goroutine}:main=false->QuitsD P q d g->H0 P F main (.gone d) (chain q) true g .quiet
variable{g g':Goroutine}{Q:GP}
section
variable {P:Program}{F:Fam}{main:Bool}
theorem Jr.running{p:Ph}{r:Rk}{s:St}(h:Jr P main (JQ (Stop P F p)) r g s):g.status=.running:=by
 cases r with
 | leaf=>obtain⟨s₀,_,hs⟩:=h;exact hs.law.run
 | node f=>
  rcases h with⟨s₀,_,hs⟩ | ⟨I,_⟩;exact hs.law.run;exact I
theorem Jr.at_{r:Rk}{s:St}(h:Q g s):Jr P main Q r g s:=by
 cases r with
 | leaf=>exact h
 | node f=>exact .inl h
theorem H0.awake{x:Nx}{r:Rk}{b:Bool}{s:St}(h:H0 P F main x r b g s):Go.Conc.awake g:=by
 cases h with
 | walk _ _ hj=>exact awake_of (.inl hj.running)
 | blk _ _ _=>exact awake_of (.inr (.inl rfl))
 | gone _ I=>exact awake_of (I.status.elim .inl λx=>.inr (.inr x))
theorem ZP(h:g.status=.running):{({g with status:=.blocked}:Goroutine) with status:=.running}=g:=by
 obtain⟨a,b,c,d,e⟩:=g;simp only at h;subst h;rfl
theorem Vg{p:Ph}(h:Ul p):Fam.DX p=false:=by
 rcases h with rfl | ⟨k,sv,rfl⟩<;>rfl
theorem H0.woken{x:Nx}{r:Rk}{b:Bool}{o:Goroutine}{s:St}(h:H0 P F main x r b o s){w':World}:
  ∃b',H0 P F main x r b' (Go.Conc.woken P g g' w' o) s/\(b=true->b'=true)/\(mayWake P g=true->g'.status=.running->b'=true):=by
 have ac:∀(o:Goroutine),Go.Conc.woken P g g' w' o=o.again w'∨Go.Conc.woken P g g' w' o=o:=by
  intro o;unfold Go.Conc.woken;split;exact .inl V;exact .inr V
 cases h with
 | walk I ag hj=>exact⟨true,by rw[woken_run hj.running];exact .walk I ag hj,λ_=>rfl,λ_ _=>rfl⟩
 | @blk p _ go _ O I hs=>
  have U:({go with status:=.blocked}:Goroutine).again w'=go:=by
   have:=hs.law.offers;have ai:({go with status:=.blocked}:Goroutine).again w'={({go with status:=.blocked}:Goroutine) with status:=.running}:=by simp[Goroutine.again,this]
   rw[ai];exact ZP hs.law.run
  have Y:H0 P F main (.ph p) r true go s:=.walk I (λq=>by rw[Vg O] at q;cases q) (Jr.at_ ⟨s,.refl _,hs⟩);by_cases K:mayWake P g=true/\g'.status=.running
  .have e:Go.Conc.woken P g g' w' ({go with status:=.blocked}:Goroutine)=({go with status:=.blocked}:Goroutine).again w':=by
    unfold Go.Conc.woken;rw[d9 (by simp[K.1,K.2])]
   exact⟨true,by rw[e,U];exact Y,λ_=>V,λ_ _=>V⟩
  .rcases ac ({go with status:=.blocked}:Goroutine) with e | e;exact⟨true,by rw[e,U];exact Y,λ_=>V,λa b=>absurd ⟨a,b⟩ K⟩;exact⟨false,by rw[e];exact .blk O I hs,λe=>e,λa b=>absurd ⟨a,b⟩ K⟩
 | gone I Z=>exact⟨true,by rw[woken_quitsD Z];exact .gone I Z,λ_=>rfl,λ_ _=>rfl⟩
end
structure Base where
 N0:Nat
 t0:Nat
 E0:LH
 w0:World
structure Inv (P:Program) (F:Fam) (B:Base) (gs:Array Goroutine) (w:World) (t:Trace) (φ:Nat->Nx) (r:Nat->Rk) (bt:Nat->Bool) (S:Nat->St) (Sh:Nat->Prop) (j:Nat) (c:Bool) (v wt sm:Nat) (m:M4) (q:Nat) (f:Nat->Value):Prop where
 Dx:Dy F B.N0 (gs.size+c.toNat) j c (Ds c gs.size φ) v wt sm false
 lock:LI gs.size φ m q
 F7:Gp F B.N0 B.t0 gs.size j φ S t
 MZ:∀i g,gs[i]?=some g->H0 P F (i==0) (φ i) (r i) (bt i) g (loc (φ i) (S i))
 CP:Cu t w gs.size S Sh
 Jj:Sh F.wg
 J5:Sh F.mu
 KA:Sh F.fd
 Pk:F.mu≠F.wg
 LX:F.fd≠F.wg
 LR:F.fd≠F.mu
 Jq:F.n<134217728
 mn:φ 0≠ .ph .Ic/\φ 0≠ .ph .I8
 wg:F.WG w v wt sm
 Lb:F.MU w m q
 HL:F.FD w f
 blk:∀i,i<gs.size->bt i=false->(i=0/\φ 0=.ph .GV/\sm=0)∨((∃k sv,φ i=.ph (.lk k (.Dr sv)))/\q=0)
 J8:∀k,k<j->stored (φ (B.N0+k))->F.msg k (f k) (S (B.N0+k)).E
 le:Le B.E0 (S 0).E
 tape:w.tape=B.w0.tape
 os:HI B.w0.os w.os
 output:w.output=B.w0.output
variable{s':St}
section
variable {P:Program}{F:Fam}{B:Base}{gs:Array Goroutine}{w w':World}{t:Trace}{φ:Nat->Nx}{r:Nat->Rk}{bt:Nat->Bool}{S:Nat->St}{Sh:Nat->Prop}{j:Nat}{c:Bool}{v wt' sm v₁ wt₁ sm₁:Nat}{m m₁:M4}{q q₁:Nat}{f f₁:Nat->Value}
theorem Inv.at_(h:Inv P F B gs w t φ r bt S Sh j c v wt' sm m q f)(d:Nat):Inv P F B gs (w.at d) t φ r bt S Sh j c v wt' sm m q f:=
 have I:Cu t (w.at d) gs.size S Sh:=by
  have:=h.CP.mute (u:=#[]) (w':=w.at d) (g:=0) AM AM AM rfl;simpa using this
 {h with CP:=I}
theorem Inv.size(h:Inv P F B gs w t φ r bt S Sh j c v wt' sm m q f):gs.size=B.N0+j:=by have:=h.Dx.size;omega
theorem Inv.F0(h:Inv P F B gs w t φ r bt S Sh j c v wt' sm m q f){i:Nat}(hi:i<gs.size):i=0∨(i≠0/\∃d,φ i=.gone d/\i<B.N0)∨∃k,k<j/\i=B.N0+k/\i≠0/\H8 F k (φ i):=by
 have hs:=h.size;have U:=h.Dx.pos;rcases tO i with I | I;exact .inl I
 rcases mt i B.N0 with K | K
 .have:=h.Dx.old i I K;rw[Ko AB AB] at this;cases O:φ i with
  | gone d=>exact .inr (.inl ⟨AB,d,rfl,K⟩)
  | ph p=>rw[O] at this;exact this.elim
 .have:=h.Dx.work (i - B.N0) AB;rw[show B.N0+(i - B.N0)=i by omega,Ko AB AB] at this;exact .inr (.inr ⟨i - B.N0,AB,AB,AB,this⟩)
theorem Inv.main(h:Inv P F B gs w t φ r bt S Sh j c v wt' sm m q f):∃p,φ 0=.ph p/\Fam.Dw p=true/\((c=false/\I7 F.n j c p)∨(c=true/\K7 (.ph p))):=by
 have hs:=h.size;cases I:c with
 | false=>
  have:=h.Dx.main;rw[I,K5] at this;obtain⟨p,U,K⟩:=this;exact⟨p,U,by cases p<;>simp[I7] at K<;>rfl,.inl ⟨V,K⟩⟩
 | true=>
  have:=h.Dx.cls I;have hj:=h.Dx.cj I;rw[I,show B.N0+F.n=gs.size by omega,LF] at this;cases O:φ 0 with
  | gone d=>
   have:=h.Dx.mode;rw[d9 I,I,show B.N0+F.n=gs.size by omega,LF,O] at this;simp[EV] at this
  | ph p=>rw[O] at this;exact⟨p,rfl,by cases p<;>simp[K7] at this<;>rfl,.inr ⟨rfl,this⟩⟩
theorem LC(a b:LP->Nat)(N:Nat)(φ:Nat->Nx):Sg (λp=>a p+b p) N φ=Sg a N φ+Sg b N φ:=by
 unfold Sg
 induction N with
 | zero=>rfl
 | succ N I=>
  simp only[sumTo,I];have:Ey (λp=>a p+b p) (φ N)=Ey a (φ N)+Ey b (φ N):=by
   cases φ N with
   | gone d=>rfl
   | ph p=>cases p<;>rfl
  omega
theorem SN{a b:Nat->Nat}:∀{N M:Nat},N<=M->(∀i,i<N->a i<=b i)->sumTo N a<=sumTo M b
 | 0,_,_,_=>by simp[sumTo]
 | N+1,0,h,_=>by omega
 | N+1,M+1,h,I=>by
  rcases mt N M with q | q
  .have K:sumTo (N+1) a<=sumTo M b:=SN AB I
   simp only[sumTo] at K ⊢;omega
  .obtain rfl:N=M:=by omega
   have K:sumTo N a<=sumTo N b:=SN (jK _) λi hi=>I i AB;have O:=I N AB;simp only[sumTo];omega
theorem Inv.small(h:Inv P F B gs w t φ r bt S Sh j c v wt' sm m q f):ED m:=by
 have hs:=h.size;have hb:Sg (λp=>(pQ p+pV p)+pD p) gs.size φ<=sumTo (gs.size+c.toNat) λi=>cU (Ds c gs.size φ i):=by
  refine SN AB λi hi=>?_;rcases tO i with rfl | U;(obtain⟨p,K,hm,_⟩:=h.main;rw[K];cases p<;>first | (simp[Ey];done) | (simp[Fam.Dw] at hm))
  .rw [Ko AB AB];cases φ i with
   | gone d=>simp[Ey]
   | ph p=>
    cases p<;>simp only[Ey]<;>(try omega)
    rename_i k l;cases l<;>simp[pQ,pV,pD,cU]
 rw[LC,LC] at hb;have Y:=h.Dx.cnt;have Z:=h.Dx.US;obtain⟨l1,l2,O⟩:=h.lock.ln;have ac:=h.Jq;show m.w<134217728;cases I:m.s with
 | false=>have:=(l2 I).2.2.2.1;omega
 | true=>have:=(O I).2.2.2.2.1;omega
theorem Inv.go(h:Inv P F B gs w t φ r bt S Sh j c v wt' sm m q f){i:Nat}{es:Array Event}{x:Nx}{ρ:Rk}(hi:gs[i]?=some g)
  (al:Dy F B.N0 (gs.size+c.toNat) j c (Ds c gs.size (upd φ i x)) v₁ wt₁ sm₁ false) (am:LI gs.size (upd φ i x) m₁ q₁)
  (ap:Gp F B.N0 B.t0 gs.size j (upd φ i x) (upd S i s') (t++MemOp.ofEvents i g.frame.fn g.frame.place es))
  (aq:H0 P F (i==0) x ρ true g' (loc x s'))
  (hC:Cu (t++MemOp.ofEvents i g.frame.fn g.frame.place es) w' gs.size (upd S i s') Sh)
  (av:F.WG w' v₁ wt₁ sm₁) (aw:F.MU w' m₁ q₁) (ay:F.FD w' f₁)
  (az:sm₁≠0->sm=0->mayWake P g=true/\g'.status=.running) (a0:q₁≠0->q=0->mayWake P g=true/\g'.status=.running)
  (a1:∀k,k<j->stored (upd φ i x (B.N0+k))->F.msg k (f₁ k) (upd S i s' (B.N0+k)).E)
  (a2:i=0->x≠ .ph .Ic/\x≠ .ph .I8) (a3:i=0->Le (S 0).E s'.E) (a4:w'.tape=w.tape) (a5:HI w.os w'.os) (a6:w'.output=w.output):
  ∃K,Inv P F B ((gs.map (woken P g g' w')).setIfInBounds i g') w' (t++MemOp.ofEvents i g.frame.fn g.frame.place es) (upd φ i x) (upd r i ρ) K (upd S i s') Sh j c v₁ wt₁ sm₁ m₁ q₁ f₁:=by
 have a7:i<gs.size:=(f7.1 hi).1;have O:((gs.map (woken P g g' w')).setIfInBounds i g').size=gs.size:=by simp
 have ai:∀a,∃b',(a=i->b'=true)/\(a≠i->∀o,gs[a]?=some o->H0 P F (a==0) (φ a) (r a) b' (woken P g g' w' o) (loc (φ a) (S a))/\(bt a=true->b'=true)/\(mayWake P g=true->g'.status=.running->b'=true)):=by
  intro a;by_cases e:a=i;exact⟨true,λ_=>V,λq=>absurd e q⟩
  .cases I:gs[a]? with
   | none=>exact⟨true,λ_=>rfl,λ_ o q=>by cases q⟩
   | some o=>
    let⟨b',a8,U,Y⟩:=(h.MZ a o I).woken (g:=g) (g':=g') (w':=w');exact⟨b',λq=>absurd q e,λ_ o' q=>by cases q;exact⟨a8,U,Y⟩⟩
 let K:Nat->Bool:=λa=>Classical.choose (ai a);have hb:∀a,(a=i->K a=true)/\(a≠i->∀o,gs[a]?=some o->H0 P F (a==0) (φ a) (r a) (K a) (woken P g g' w' o) (loc (φ a) (S a))/\(bt a=true->K a=true)/\(mayWake P g=true->g'.status=.running->K a=true)):=λa=>uh (ai a);refine⟨K,by rw[O];exact al,by rw[O];exact am,by rw[O];exact ap,λa o I=>?_,by rw[O];exact hC,h.Jj,h.J5,h.KA,h.Pk,h.LX,h.LR,h.Jq,(by
  by_cases e:i=0;subst e;rw[upd_same];exact a2 V
  .rw [upd_ne _ _ (ti e)];exact h.mn),av,aw,ay,λa ac ag=>?_,a1,λb o I=>?_,a4.trans h.tape,h.os.trans a5,a6.trans h.output⟩
 .by_cases e:a=i;subst e;rw[sT (by simpa using a7)] at I;obtain rfl:=f8 I;rw[upd_same,upd_same,upd_same,(hb a).1 rfl];exact aq;rw[sN (ti e),uK] at I;obtain⟨o',a9,rfl⟩:=tr.1 I;rw[upd_ne _ _ e,upd_ne _ _ e,upd_ne _ _ e];exact((hb a).2 e o' a9).1
 .rw [O] at ac;have e:a≠i:=λe=>by have:=(hb a).1 e;rw[ag] at this;cases this
  let⟨_,k1,bb⟩:=(hb a).2 e _ (tl ac);have aj:¬(mayWake P g=true/\g'.status=.running):=λ⟨x,y⟩=>by have:=bb x y;rw[ag] at this;cases this
  have be:bt a=false:=by
   cases Z:bt a with
   | false=>rfl
   | true=>have:=k1 Z;rw[ag] at this;cases this
  rcases h.blk a ac be with⟨rfl,U,Y⟩ | ⟨⟨k,sv,U⟩,Y⟩;refine .inl ⟨V,by rw[upd_ne _ _ e];exact U,?_⟩;exact wK.1 λZ=>aj (az Z Y);exact .inr ⟨⟨k,sv,by rw[upd_ne _ _ e];exact U⟩,wK.1 λZ=>aj (a0 Z Y)⟩
 .by_cases e:i=0;subst e;rw[upd_same];exact a3 V b o (h.le b o I);rw[upd_ne _ _ (ti e)];exact h.le b o I
end
def UR(P:Program)(F:Fam)(B:Base)(gs:Array Goroutine)(w:World)(t:Trace):Prop:=
 ∃q Sh g s,IK P gs w t q Sh g s/\F.fin g s/\Le B.E0 s.E/\w.tape=B.w0.tape/\HI B.w0.os w.os/\w.output=B.w0.output
def JM(P:Program)(F:Fam)(B:Base)(gs:Array Goroutine)(w:World)(sl:Option (Nat×Nat))(t:Trace)(i:Nat)(I:Mu):Prop:=
 ∃gs' w' K u,runT P (crowd gs w sl) i=(.next (crowd gs' w' K),u)/\
  ((∃φ r bt S Sh j c v wt' sm m q f,Inv P F B gs' w' (t++u) φ r bt S Sh j c v wt' sm m q f/\Mu.lt (mu F gs'.size φ m q r bt) I)∨UR P F B gs' w' (t++u))
theorem LI.same{N:Nat}{φ:Nat->Nx}{m:M4}{q i:Nat}{y:Nx}(h:LI N φ m q)(hi:i<N)(K:∀f,Ey f (φ i)=Ey f y∨(f≠pH/\f≠pN/\f≠pZ/\f≠pV/\f≠pT/\f≠pQ/\f≠pD/\f≠pX))(O:R3 y m):LI N (upd φ i y) m q:=by
 have e:∀f,(f=pH∨f=pN∨f=pZ∨f=pV∨f=pT∨f=pQ∨f=pD∨f=pX)->Sg f N (upd φ i y)=Sg f N φ:=λf U=>Qi f hi (by
  rcases K f with q | ⟨a,b,c,d,e,f,g,h⟩;exact q
  .rcases U with q | q | q | q | q | q | q | q<;>contradiction)
 refine⟨by rw[e pH AM,e pN AM,e pZ AM,e pV AM,e pT AM,e pQ AM,e pD AM,e pX AM];exact h.ln,λa Y=>?_⟩;by_cases I:a=i;subst I;rw[upd_same];exact O;rw[upd_ne _ _ I];exact h.loc a Y
section
variable {P:Program}{F:Fam}{B:Base}{gs:Array Goroutine}{w w':World}{sl:Option (Nat×Nat)}{t:Trace}{φ:Nat->Nx}{r:Nat->Rk}{bt:Nat->Bool}{S:Nat->St}{Sh:Nat->Prop}{j:Nat}{c:Bool}{v wt' sm v₁ wt₁ sm₁:Nat}{m m₁:M4}{q q₁:Nat}{f f₁:Nat->Value}
theorem Inv.go'(h:Inv P F B gs w t φ r bt S Sh j c v wt' sm m q f){i:Nat}{es:Array Event}{x:Nx}{ρ:Rk}(hi:gs[i]?=some g)(K:stepG P (i==0) g w=.go g' w' es)
  (O:Dy F B.N0 (gs.size+c.toNat) j c (Ds c gs.size (upd φ i x)) v₁ wt₁ sm₁ false) (U:LI gs.size (upd φ i x) m₁ q₁)
  (Y:Gp F B.N0 B.t0 gs.size j (upd φ i x) (upd S i s') (t++MemOp.ofEvents i g.frame.fn g.frame.place es))
  (Z:H0 P F (i==0) x ρ true g' (loc x s'))
  (hC:Cu (t++MemOp.ofEvents i g.frame.fn g.frame.place es) w' gs.size (upd S i s') Sh)
  (ac:F.WG w' v₁ wt₁ sm₁) (ag:F.MU w' m₁ q₁) (ai:F.FD w' f₁)
  (aj:sm₁≠0->sm=0->mayWake P g=true/\g'.status=.running) (al:q₁≠0->q=0->mayWake P g=true/\g'.status=.running)
  (am:∀k,k<j->stored (upd φ i x (B.N0+k))->F.msg k (f₁ k) (upd S i s' (B.N0+k)).E)
  (ap:i=0->x≠ .ph .Ic/\x≠ .ph .I8) (aq:i=0->Le (S 0).E s'.E) (av:w'.tape=w.tape) (aw:HI w.os w'.os) (ay:w'.output=w.output)
  (hm:∀I,Mu.lt (mu F gs.size (upd φ i x) m₁ q₁ (upd r i ρ) I) (mu F gs.size φ m q r bt)):JM P F B gs w sl t i (mu F gs.size φ m q r bt):=by
 refine let⟨I,az⟩:=h.go hi O U Y Z hC ac ag ai aj al am ap aq av aw ay;⟨_,_,_,_,runT_crowd_go hi K,.inl ⟨_,_,_,_,_,_,_,_,_,_,_,_,_,az,?_⟩⟩;have a0:((gs.map (woken P g g' w')).setIfInBounds i g').size=gs.size:=by simp
 rw[a0];exact hm I
theorem VH{k:Nat}{p:Ph}(hw:H8 F k (.ph p))(I:late (.ph p)):Fam.DX p=true:=by
 cases p<;>simp only[H8] at hw<;>(try exact hw.elim)<;>first | rfl | exact I.elim
theorem PI(a:Nat)(fn:FuncId)(pos:String):MemOp.ofEvents a fn pos #[]=#[]:=by rw[ofEvents_eq];simp
theorem Inv.own(h:Inv P F B gs w t φ r bt S Sh j c v wt' sm m q f)(a5:∀k v E E',Le E E'->F.msg k v E->F.msg k v E'){i:Nat}{es:Array Event}{p:Ph}{ρ:Rk}(hi:gs[i]?=some g)(I:φ i=.ph p)(aw:(i==0)=Fam.Dw p)
  (ay:stepG P (i==0) g w=.go g' w' es) (hj:Jr P (i==0) (JQ (Stop P F p)) ρ g' s') (a6:Fits s' w') (K:Fr (loc (.ph p) (S i)) w s' w') (U:∀e∈es,Ev (loc (.ph p) (S i)) w w' e) (a7:loc (.ph p) (S i)=.quiet->s'=.quiet/\w'=w/\es=#[]) (a8:Rk.sub ρ (r i)):
  JM P F B gs w sl t i (mu F gs.size φ m q r bt):=by
 have O:i<gs.size:=(f7.1 hi).1;have Y:upd φ i (.ph p)=φ:=by rw[← I];exact PZ _ _
 have az:∀a0,Mu.lt (mu F gs.size (upd φ i (.ph p)) m q (upd r i ρ) a0) (mu F gs.size φ m q r bt):=λa0=>Zf O (λ_=>by rw[I]) (by rw[I]) a8;cases Z:Fam.DX p with
 | true=>
  have ac:loc (.ph p) (S i)=.quiet:=by simp[loc,I9,Z]
  obtain⟨rfl,rfl,rfl⟩:=a7 ac;have am:upd S i (S i)=S:=PZ _ _;refine h.go' hi ay (x:=.ph p) (ρ:=ρ) (s':=S i) (by rw[Y];exact h.Dx) (by rw[Y];exact h.lock) ?_ (by rw[ac];exact .walk aw (λ_=>rfl) hj) ?_ h.wg h.Lb h.HL (λa b=>absurd b a) (λa b=>absurd b a) (by rw[Y,am];exact h.J8) (λe=>by subst e;rw[← I];exact h.mn) (λe=>by subst e;exact .refl _) V (.refl _) V az;rw[Y,am,PI];simpa using h.F7;rw[am,PI];simpa using h.CP
 | false=>
  have ac:loc (.ph p) (S i)=S i:=by simp[loc,I9,Z]
  rw[ac] at K U;have a9:loc (.ph p) s'=s':=by simp[loc,I9,Z]
  have ap:∀b₀,Sh b₀->∀b wr,H6 (S i) w w' b wr->b≠b₀:=by
   intro b₀ ai b wr ht;have a1:=h.CP.sh i O b₀ ai;have bv:=h.CP.HF b₀ ai;rintro rfl;rcases ht.2 with q | q | ⟨q,_⟩;exact q a1.1;omega;exact q a1.2
  have aq:∀b₀,Sh b₀->w'.heap[b₀]?=w.heap[b₀]? :=λb₀ ai=>K.keep b₀ (h.CP.HF b₀ ai) (h.CP.sh i O b₀ ai).1;have a2:∀k,k<j->i=B.N0+k->¬late (φ i):=by
   intro k ag e a3;rcases h.F0 O with bw | ⟨_,d,hd,_⟩ | ⟨k',_,_,_,hw⟩;have:=h.Dx.pos;omega;rw[I] at hd;cases hd;rw[I] at hw a3;rw[VH hw a3] at Z;cases Z
  have bb:∀e∈es,e.loc≠ .mark .disable/\e.loc≠ .mark .enable:=by
   intro e he;have:=U e he;refine⟨λal=>?_,λal=>?_⟩<;>unfold Ev at this<;>rw[al] at this<;>exact this
  refine h.go' (f₁:=f) hi ay (x:=.ph p) (ρ:=ρ) (s':=s') (by rw[Y];exact h.Dx) (by rw[Y];exact h.lock) ?_ (by rw[a9];exact .walk aw (λe=>by rw[Z] at e;cases e) hj) (h.CP.own O a6 K U) ?_ ?_ ?_ (λa b=>absurd b a) (λa b=>absurd b a) ?_ (λe=>by subst e;rw[← I];exact h.mn) (λe=>by subst e;exact λb o av=>K.ext b o av) K.tape (.of K.os) K.output az
  .refine h.F7.app O (by rw[I];exact deafBehind_still bb _) (λe he=>⟨λa b aj hb be=>absurd be ?_,λa aj hb=>absurd V (ap F.fd h.KA F.fd a.write (Nn (U e he) aj hb)),?_⟩) ?_ (λk ag bg e he a b aj hb hw=>?_) (λk ag e ac=>absurd (I▸ac) (a2 k ag e));have:=Nn (U e he) aj hb;rintro(q | q);exact ap F.wg h.Jj b _ this q;exact ap F.mu h.J5 b _ this q;intro al;have:=U e he;unfold Ev at this;rw[al] at this;exact this;rcases h.F0 O with e | ⟨_,d,hd,_⟩ | ⟨k,_,e,_,_⟩;exact .inl (.inl e);rw[I] at hd;cases hd;exact .inl (.inr AB)
   .have bi:=Nn (U e he) aj hb;have bn:B.N0+k≠i:=λe=>a2 k ag e.symm (e▸bg);have a4:B.N0+k<gs.size:=by have:=h.size;omega
    rcases bi.2 with y | y | ⟨_,y⟩;exact(h.CP.hh i (B.N0+k) O a4 (ti bn) b y).2
    .cases bo:(S (B.N0+k)).E b with
     | none=>rfl
     | some o=>have:=(h.CP.fits _ a4).e b o bo;simp[ta y] at this
    .rw [y] at hw;cases hw
  show w'.heap[F.wg]?=_;rw[aq _ h.Jj];exact h.wg;show w'.heap[F.mu]?=_;rw[aq _ h.J5];exact h.Lb;show w'.heap[F.fd]?=_;rw[aq _ h.KA];exact h.HL;intro k ag hs;rw[Y] at hs;have:=h.J8 k ag hs;by_cases e:B.N0+k=i;rw[e,upd_same];rw[e] at this;exact a5 _ _ _ _ (λb o av=>K.ext b o av) this;rw[upd_ne _ _ e];exact this
theorem Inv.slip(h:Inv P F B gs w t φ r bt S Sh j c v wt' sm m q f){i:Nat}(hi:gs[i]?=some g)(Y:g.status=.running){d O:Nat}(K:φ i=.gone d)(aq:r i=chain O)(ac:(i==0)=false)(aj:QuitsD P O d g):
  JM P F B gs w sl t i (mu F gs.size φ m q r bt):=by
 have ag:i<gs.size:=(f7.1 hi).1;have Z:i≠0:=by simpa using ac
 cases O with
 | zero=>rw[aj.1] at Y;cases Y
 | succ O=>
  rcases aj with⟨av,_⟩ | ⟨_,g',es,hm,aw,ay⟩;rw[av] at Y;cases Y
  have az:∀op∈MemOp.ofEvents i g.frame.fn g.frame.place es,op.act.touch?=none:=λop U=>by obtain⟨e,he,rfl⟩:=mem_ofEvents U;exact touch_mute (hm e he)
  have a0:∀e∈es,e.loc≠ .mark (.release F.sA):=by
   intro e he al;have:=hm e he;obtain⟨loc,wr,a3⟩:=e;simp only at al;subst al;simp[Event.mute] at this
  have am:upd S i (S i)=S:=PZ _ _;have ap:=h.Dx.leave (i:=i) (d:=d) (d':=deafBehind d es) AB (by rw[Ko Z (by omega)];exact K);rw[P9 Z AB] at ap;refine h.go' hi (by rw[ac];exact aw w) (x:=.gone (deafBehind d es)) (ρ:=chain O) (s':=S i) ap (h.lock.other ag (λk p e=>by rw[K] at e;cases e) (λk p e=>by cases e)) ?_ (.gone ac ay) ?_ h.wg h.Lb h.HL (λa b=>absurd b a) (λa b=>absurd b a) ?_ (λe=>absurd e Z) (λe=>absurd e Z) V (.refl _) V λa4=>Zf ag (λ_=>by rw[K];rfl) (by rw[K];rfl) (by rw[aq];exact ck O w);refine h.F7.app ag (by rw[K];rfl) (λe he=>⟨λa b I=>(by rw[touch_mute (hm e he)] at I;cases I),λa I=>(by rw[touch_mute (hm e he)] at I;cases I),a0 e he⟩) (.inr λe he=>touch_mute (hm e he)) (λk ai a1 e he a b I=>(by rw[touch_mute (hm e he)] at I;cases I)) (λk ai e a1=>.inl ⟨by rw[K];trivial,V,λρ a2=>?_⟩);exact a2.appOwn _ _ es λm e he=>.inl (touch_mute (hm e (Array.mem_of_getElem? he)));rw[am];exact h.CP.mute (g:=i) (λop U=>by obtain⟨e,_,rfl⟩:=mem_ofEvents U;rfl) az (λop U=>by obtain⟨e,he,rfl⟩:=mem_ofEvents U;exact low_mute (hm e he) _) V;rw[am];intro k ai hs;refine h.J8 k ai ?_;by_cases e:B.N0+k=i;rw[e,K];trivial;rw[upd_ne _ _ e] at hs;exact hs
theorem lD{p:Ph}{es:Array Event}(K:F.act p v wt' sm=some ((v₁,wt₁,sm₁),es,I)):
  (∀q,I=.ph q->Fam.Dw q=Fam.Dw p/\(Fam.DX q=true->p=.HZ∨Fam.DX p=true)/\(Fam.DX q=false->Fam.DX p=false/\p≠ .HZ)/\∀k l,q≠ .lk k l)/\(sm₁≠0->sm=0->p=.GF)/\(∀d,I=.gone d->Fam.Dw p=false/\Fam.DX p=true)/\
  (∀k l,p≠ .lk k l)/\(Fam.Dw p=false->stored I)/\(Fam.Dw p=false->late I->late (.ph p)∨p=.HZ)/\(Fam.Dw p=false->stored (.ph p))/\I≠ .ph .Ic/\I≠ .ph .I8:=by
 cases p<;>simp only[Fam.act] at K<;>(try (cases K;done))
 all_goals (try (split at K))<;>(try (cases K;done))<;>(try (split at K))
 all_goals cases K
 all_goals first
  | (simp[Fam.Dw,Fam.DX,stored,late];done)
  | (split<;>simp[Fam.Dw,Fam.DX,stored,late];done)
  | (simp[Fam.Dw,Fam.DX,stored,late];omega)
theorem Dy.enabled{N0 N:Nat}{cl:Bool}(h:Dy F N0 N j c φ v wt' sm cl){i:Nat}(hi:i<N){p:Ph}(I:φ i=.ph p)(av:∀k,p≠ .IB k)(aw:∀k,p≠ .Hi k)(ay:p≠ .Ic)(az:∀a0 vs,p≠ .Hc a0 vs)(a1:p≠ .I8)(a2:p=.GV->sm=1)(a3:p≠ .HH)(a4:∀k l,p≠ .lk k l):
  ∃v' w' sm' es a5,F.act p v wt' sm=some ((v',w',sm'),es,a5):=by
 have hm:=h.mode;have a9:=h.US;have bb:=h.Jq;have K:=h.cnt;have Z:cU (φ i)<=sumTo N λa=>cU (φ a):=le_sumTo (f:=λa=>cU (φ a)) hi;have ac:cL (φ i)<=sumTo N λa=>cL (φ a):=le_sumTo (f:=λa=>cL (φ a)) hi;have al:cS (φ i)<=sumTo N λa=>cS (φ a):=le_sumTo (f:=λa=>cS (φ a)) hi;rw[I] at Z ac al;have a6:wt'<=1:=by
  generalize (if c=true then φ (N0+F.n) else Nx.ph .EL)=y at hm
  cases y with
  | gone d=>simp only[EV] at hm;omega
  | ph q=>cases q<;>simp only[EV] at hm<;>(try exact hm.elim)<;>omega
 have ag:1<=(sumTo N λa=>cL (φ a))+(sumTo N λa=>cS (φ a))->v=0/\sm=0/\wt'=sumTo N λa=>cL (φ a):=by
  intro hh;generalize (if c=true then φ (N0+F.n) else Nx.ph .EL)=y at hm
  cases y with
  | gone d=>simp only[EV] at hm;omega
  | ph q=>cases q<;>simp only[EV] at hm<;>(try exact hm.elim)<;>omega
 have ai:∀x,φ i=.ph x->K7 (.ph x)->c=true/\(if c=true then φ (N0+F.n) else Nx.ph .EL)=.ph x:=by
  intro x U am;rcases h.F0 hi with rfl | ⟨a,b⟩ | ⟨k,aj,rfl⟩ | ⟨K,rfl⟩;obtain⟨q,O,Y⟩:=h.main;rw[U] at O;cases O;cases x<;>simp[I7] at Y<;>exact am.elim;have:=h.old i a b;rw[U] at this;exact this.elim;have:=h.work k aj;rw[U] at this;cases x<;>simp[H8] at this<;>exact am.elim;exact⟨K,by rw[d9 K];exact U⟩
 cases p<;>simp only[Fam.act];exact absurd V (av _);exact⟨_,_,_,_,_,V⟩;exact⟨_,_,_,_,_,V⟩
 .simp only [cU] at Z;have:1<=v:=by
   have be:1<=sumTo N λa=>cU (φ a):=Z;omega
  rw[d9 ⟨this,AB,a6⟩];exact⟨_,_,_,_,_,V⟩
 have a7:1<=sumTo N λa=>cL (φ a):=ac;have:=ag AB;rw[d9 ⟨this.1,AB⟩];exact⟨_,_,_,_,_,V⟩;have a7:1<=sumTo N λa=>cL (φ a):=ac;have:=ag AB;rw[d9 ⟨this.1,AB⟩];exact⟨_,_,_,_,_,V⟩;have bg:1<=sumTo N λa=>cS (φ a):=al;have:=ag AB;rw[d9 this.2.1];exact⟨_,_,_,_,_,V⟩;exact⟨_,_,_,_,_,V⟩;let⟨ap,e⟩:=ai _ I trivial;rw[e] at hm;rw[d9 ⟨hm.2.2.2.2.2,hm.2.2.2.1⟩];exact⟨_,_,_,_,_,V⟩;let⟨ap,e⟩:=ai _ I trivial;rw[e] at hm;rw[d9 ⟨hm.2.2.2.2.2.1,hm.2.2.2.2.2.2,hm.2.2.2.1⟩];split<;>exact⟨_,_,_,_,_,rfl⟩;exact⟨_,_,_,_,_,V⟩;rw[d9 (a2 rfl)];exact⟨_,_,_,_,_,V⟩;let⟨ap,e⟩:=ai _ I trivial;rw[e] at hm;rw[d9 ⟨hm.2.2.2.2.1,hm.2.2.2.1⟩];exact⟨_,_,_,_,_,V⟩;exact⟨_,_,_,_,_,V⟩;exact absurd V a3;exact absurd V a1;exact⟨_,_,_,_,_,V⟩
 .have a8:c=false/\v<=j/\j<F.n:=by
   rcases h.F0 hi with rfl | ⟨a,b⟩ | ⟨k,aj,rfl⟩ | ⟨K,rfl⟩;obtain⟨q,O,Y⟩:=h.main;rw[I] at O;cases O;have aq:=h.LS;rw[I] at aq;exact⟨Y.2.2,by simpa [pend] using aq,Y.2.1⟩;have:=h.old i a b;rw[I] at this;exact this.elim;have:=h.work k aj;rw[I] at this;exact this.elim;have:=h.cls K;rw[I] at this;exact this.elim
  rw[a8.1] at hm;simp only[s5,tP,EV] at hm;rw[d9 ⟨AB,hm.2.2.2.1⟩];exact⟨_,_,_,_,_,V⟩
 exact⟨_,_,_,_,_,V⟩;exact⟨_,_,_,_,_,V⟩;exact absurd V (aw _);exact absurd V ay;exact absurd V (az _ _)
 all_goals first | exact⟨_,_,_,_,_,rfl⟩ | exact absurd rfl (a4 _ _)
end
variable{s₀:St}{l:LP}
section
variable {P:Program}{F:Fam}{B:Base}{gs:Array Goroutine}{w w':World}{sl:Option (Nat×Nat)}{t:Trace}{φ:Nat->Nx}{r:Nat->Rk}{bt:Nat->Bool}{S:Nat->St}{Sh:Nat->Prop}{j:Nat}{c:Bool}{v wt' sm v₁ wt₁ sm₁:Nat}{m m₁:M4}{q q₁:Nat}{f f₁:Nat->Value}
theorem da(w:World)(v wt sm:Nat):(F.put w v wt sm).heap.size=w.heap.size:=by simp[Fam.put]
theorem Uq(w:World)(v wt sm:Nat){b:Nat}(h:b≠F.wg):(F.put w v wt sm).heap[b]?=w.heap[b]? :=by simp[Fam.put,sN (ti h)]
theorem jS(w:World)(v wt sm:Nat)(h:F.wg<w.heap.size):F.WG (F.put w v wt sm) v wt sm:=by simp[Fam.WG,Fam.put,h]
theorem bN(w:World)(m:M4)(q:Nat):(F.Hf w m q).heap.size=w.heap.size:=by simp[Fam.Hf]
theorem TJ(w:World)(m:M4)(q:Nat){b:Nat}(h:b≠F.mu):(F.Hf w m q).heap[b]?=w.heap[b]? :=by simp[Fam.Hf,sN (ti h)]
theorem iw(w:World)(m:M4)(q:Nat)(h:F.mu<w.heap.size):F.MU (F.Hf w m q) m q:=by simp[Fam.MU,Fam.Hf,h]
theorem bT(w:World)(f:Nat->Value):(F.IG w f).heap.size=w.heap.size:=by simp[Fam.IG]
theorem Tz(w:World)(f:Nat->Value){b:Nat}(h:b≠F.fd):(F.IG w f).heap[b]?=w.heap[b]? :=by simp[Fam.IG,sN (ti h)]
theorem fQ(w:World)(f:Nat->Value)(h:F.fd<w.heap.size):F.FD (F.IG w f) f:=by simp[Fam.FD,Fam.IG,h]
theorem j5{p:Ph}{s:St}(h:p≠ .HZ):Fam.Lg p s=s:=by cases p<;>first | rfl | exact absurd rfl h
theorem Cu.heap{t:Trace}{w w':World}{N:Nat}{S:Nat->St}{Sh:Nat->Prop}(h:Cu t w N S Sh)(hw:w'.heap=w.heap):Cu t w' N S Sh:=by
 have:=h.mute (u:=#[]) (w':=w') (g:=0) AM AM AM hw;simpa using this
theorem Inv.act(h:Inv P F B gs w t φ r bt S Sh j c v wt' sm m q f)(bv:∀k v E E',Le E E'->F.msg k v E->F.msg k v E'){i:Nat}(hi:gs[i]?=some g){p:Ph}(I:φ i=.ph p)(Z:(i==0)=Fam.Dw p)(hg:C7 (loc (.ph p) (S i)) s₀)(hs:Stop P F p g s₀)
  {es:Array Event}{Y:Nx}(K:F.act p v wt' sm=some ((v₁,wt₁,sm₁),es,Y)):JM P F B gs w sl t i (mu F gs.size φ m q r bt):=by
 have O:i<gs.size:=(f7.1 hi).1;let⟨g',bw,bx,az⟩:=hs.law.act _ _ _ _ _ _ _ _ K;let⟨n1,n2,bz,b0,n5,b1,b2,b3⟩:=lD K;let⟨ai,e2,b4⟩:=kI p K;have a0:=h.CP.HF F.wg h.Jj;have c8:=h.size;have c9:=h.Dx.pos;have a2:i≠0->Fam.Dw p=false:=λe=>by rw[← Z];simp[e]
 have a3:(p=.Jl∨∃j,p=.Ja j)->i=0:=by
  intro U;have:Fam.Dw p=true:=by rcases U with rfl | ⟨j,rfl⟩<;>rfl
  rw[this] at Z;simpa using Z
 have a4:i=0∨B.N0<=i:=by
  rcases h.F0 O with e | ⟨_,d,hd,_⟩ | ⟨k,_,e,_,_⟩;exact .inl e;rw[I] at hd;cases hd;exact .inr AB
 let s':St:=if Fam.DX p=true then S i else s₀
 have al:Fam.DX p=true->s'=S i:=λe=>by simp[s',e]
 have ac:Fam.DX p=false->s'=s₀:=λe=>by simp[s',e]
 have a5:Fam.DX p=false->C7 (S i) s₀:=λe=>by simpa [loc,I9,e] using hg
 have hle:Le (S i).E s'.E:=by
  cases e:Fam.DX p with
  | true=>rw[al e];exact .refl _
  | false=>rw[ac e];exact λb o am=>(a5 e).ext b o am
 have a6:Cu t w gs.size (upd S i s') Sh:=by
  cases e:Fam.DX p with
  | true=>rw[al e,PZ];exact h.CP
  | false=>rw[ac e];exact h.CP.ghost O (a5 e)
 have b5:Cu (t++MemOp.ofEvents i g.frame.fn g.frame.place es) (F.put w v₁ wt₁ sm₁) gs.size (upd S i s') Sh:=by
  refine a6.ext (h.F7.noRace h.CP.clean O a4 λe he=>(ai e he).toS a3) (λop ap a aq b hb=>?_) (λop ap=>?_) (da ..) (λb hb=>Uq _ _ _ _ λe=>hb (e▸h.Jj));obtain⟨e,he,rfl⟩:=mem_ofEvents ap;let⟨⟨b',ag,av⟩,_⟩:=(ai e he).1 a aq;rw[hb] at ag;cases ag;rcases av with rfl | rfl;exact h.Jj;exact h.J5;obtain⟨e,he,rfl⟩:=mem_ofEvents ap;exact b4 e he _ a0
 have b6:stepG P (i==0) g w=.go g' (F.put w v₁ wt₁ sm₁) es:=by rw[Z];exact bw w h.wg
 have ca:Dy F B.N0 (gs.size+c.toNat) j c (Ds c gs.size (upd φ i Y)) v₁ wt₁ sm₁ false:=by
  by_cases e:i=0
  .subst e;cases c with
   | false=>
    have:=h.Dx.act (i:=0) AB (by rw[K5];exact I) K;rw[K5] at this;rw[K5];exact this
   | true=>
    have:=h.Dx.act (i:=gs.size) AM (by rw[LF];exact I) K
    rwa[eD AB] at this
  .have:=h.Dx.act (i:=i) AB (by rw[Ko e (by omega)];exact I) K
   rwa[P9 e AB] at this
 have cc:Gp F B.N0 B.t0 gs.size j (upd φ i Y) (upd S i s') (t++MemOp.ofEvents i g.frame.fn g.frame.place es):=by
  refine h.F7.app O (by rw[I];exact e2) (λe he=>(ai e he).keep a3 h.LX h.LR) (.inl a4) (λk aj a7 e he a b aq hb hw=>?_) (λk aj e a7=>?_)
  .let⟨⟨b',ag,av⟩,_⟩:=(ai e he).1 a aq;rw[hb] at ag;cases ag;have a8:B.N0+k<gs.size:=by omega
   rcases av with rfl | rfl;exact(h.CP.sh _ a8 _ h.Jj).2;exact(h.CP.sh _ a8 _ h.J5).2
  .have a9:i≠0:=by omega
   have bb:H8 F k (.ph p):=by
    rcases h.F0 O with ce | ⟨_,d,hd,_⟩ | ⟨k',_,dd,_,hw⟩;exact absurd ce a9;rw[I] at hd;cases hd
    .obtain rfl:k'=k:=by omega
     rwa[I] at hw
   rcases b1 (a2 a9) a7 with aw | rfl;refine .inl ⟨by rw[I];exact aw,by rw[al (VH bb aw)],λρ ay=>?_⟩;refine ay.appOwn _ _ es λm e he=>?_;rw[h.F7.deaf _ O,I];exact eZ p K bb aw m e he
   .refine .inr ⟨t.size,h.F7.Pb,?_,?_⟩;simp only[Fam.act] at K;cases K;exact .new (by rw[h.F7.deaf _ O,I];rfl) _ _
    .simp only [Fam.act] at K;cases K;rw[ac rfl];intro b hb x a be ci hw;have co:MemOp.ofEvents i g.frame.fn g.frame.place #[Fam.DF (.releaseMerge F.sA)]=#[{g:=i,fn:=g.frame.fn,pos:=g.frame.place,act:=.mark (.releaseMerge F.sA)}]:=by rw[ofEvents_eq];simp[Fam.DF,MemAct.ofEvent]
     rw[co] at be ⊢;let⟨op,am,bg⟩:=touch_of be;rcases getElem?_append_cases am with⟨_,cp⟩ | ⟨_,bi⟩
     .have ct:=a6.kE i O b (by rw[upd_same,ac rfl];exact hb) x a (by rw[touchAt_of cp];exact bg) ci hw;have cw:(t++ #[({g:=i,fn:=g.frame.fn,pos:=g.frame.place,act:=.mark (.releaseMerge F.sA)}:MemOp)])[t.size]?=some {g:=i,fn:=g.frame.fn,pos:=g.frame.place,act:=.mark (.releaseMerge F.sA)}:=by simp
      exact .inr (ct.hb_new (jK _) cw V)
     .simp at bi;subst bi;cases bg
 have cy:∀k,k<j->stored (upd φ i Y (B.N0+k))->F.msg k (f k) (upd S i s' (B.N0+k)).E:=by
  intro k aj bn;by_cases e:B.N0+k=i;rw[e,upd_same];have:=h.J8 k aj (by rw[e,I];exact b2 (a2 AB));rw[e] at this;exact bv _ _ _ _ hle this;rw[upd_ne _ _ e] at bn ⊢;exact h.J8 k aj bn
 have c0:LI gs.size (upd φ i Y) m q:=h.lock.other O (λk l e=>b0 k l (by rw[I] at e;exact Nx.ph.inj e)) (λk l e=>by subst e;exact(n1 _ rfl).2.2.2 k l rfl);have c2:∀q,Y=.ph q->loc (.ph q) s'=Fam.Lg p s₀:=by
  intro q e;let⟨_,bo,c3,_⟩:=n1 q e;cases U:Fam.DX q with
  | true=>
   have:loc (.ph q) s'=.quiet:=by simp[loc,I9,U]
   rw[this];rcases bo U with rfl | e;rfl;rw[hs.law.quiet e];cases p<;>rfl
  | false=>
   let⟨a1,c4⟩:=c3 U;rw[j5 c4,ac a1];simp[loc,I9,U]
 have fin:∀(ρ:Rk),H0 P F (i==0) Y ρ true g' (loc Y s')->JM P F B gs w sl t i (mu F gs.size φ m q r bt):=λρ c5=>
  h.go' (f₁:=f) hi b6 ca c0 cc c5 b5 (jS _ _ _ _ a0) (by show(F.put w v₁ wt₁ sm₁).heap[F.mu]?=_;rw[Uq _ _ _ _ h.Pk];exact h.Lb) (by show(F.put w v₁ wt₁ sm₁).heap[F.fd]?=_;rw[Uq _ _ _ _ h.LX];exact h.HL)
   (λa b=>⟨hs.law.Ky (.inl (n2 a b)),bx⟩) (λa b=>absurd b a) cy (λ_=>b3) (λe=>by subst e;exact hle) rfl (.refl _) rfl λdj=>YL O (by rw[I];exact kX K)
 cases Y with
 | ph q=>
  obtain⟨ρ,ay⟩:=az;refine fin ρ (let⟨c6,bo,_,_⟩:=n1 q V;.walk (by rw[Z,c6]) (λU=>by simp[loc,I9,U]) ?_);rw[c2 q rfl,Z];exact ay
 | gone d=>
  obtain⟨c7,U⟩:=az;exact fin (chain c7) (.gone (by rw[Z];exact(bz d rfl).1) U)
theorem kJ{m m':M4}{q q':Nat}{es:Array Event}{o:Option LP}(I:(m',q',es,o)∈F.Cy l m q):q'<=q∨∃b,l=.Gq b:=by
 cases l<;>simp only[Fam.Cy,de,f4,sS] at I
 case Gq b=>exact .inr ⟨b,rfl⟩
 case Jd=>split at I<;>simp only[de,f4] at I<;>exact .inl AB
 case DL sv aw it old=>
  simp only[Fam.GU,sO] at I;left;rcases I with I | I;split at I;split at I;simp only[de] at I;split at I<;>simp only[f4] at I<;>omega;simp only[de,f4] at I;omega;simp at I;split at I;split at I;simp only[de,f4] at I;omega;simp only[ja,sS,t6,f4] at I;rcases I with I | I<;>omega;simp only[de,f4] at I;omega
 case HT=>
  simp only[ja,sS,t6,f4] at I;left;rcases I with I | I<;>omega
 case GG sv=>split at I<;>simp only[de,f4] at I<;>exact .inl AB
 case Gf old=>split at I<;>simp only[de,f4] at I<;>exact .inl AB
 all_goals exact .inl AB
theorem eO{m m':M4}{q q':Nat}{es:Array Event}{o:Option LP}(I:(m',q',es,o)∈F.Cy l m q):(∀p,o=some p->HW p->HW l)/\(o=none->HW l):=by
 cases l<;>simp only[Fam.Cy,de,f4,sS] at I
 case Jd=>split at I<;>simp only[de,f4] at I<;>obtain⟨-,-,-,rfl⟩:=I<;>simp[HW]
 case DL sv aw it old=>
  simp only[Fam.GU,sO] at I;rcases I with I | I;split at I;split at I;simp only[de] at I;split at I<;>simp only[f4] at I<;>obtain⟨-,-,-,rfl⟩:=I<;>simp[HW];simp only[de,f4] at I;obtain⟨-,-,-,rfl⟩:=I;simp[HW];simp at I;split at I;split at I;simp only[de,f4] at I;obtain⟨-,-,-,rfl⟩:=I;simp[HW];simp only[ja,sS,t6,f4] at I;rcases I with⟨-,-,-,rfl⟩ | ⟨-,-,-,rfl⟩<;>simp[HW];simp only[de,f4] at I;obtain⟨-,-,-,rfl⟩:=I;simp[HW]
 case HT=>
  simp only[ja,sS,t6,f4] at I;rcases I with⟨-,-,-,rfl⟩ | ⟨-,-,-,rfl⟩<;>simp[HW]
 case Dr sv=>obtain⟨-,-,-,rfl⟩:=I;cases sv<;>simp[HW]
 case GG sv=>split at I<;>simp only[de,f4] at I<;>obtain⟨-,-,-,rfl⟩:=I<;>simp[HW]
 all_goals first
  | (obtain⟨-,-,-,rfl⟩:=I;simp[HW];done)
  | (exact⟨λ_ _ _=>trivial,λ_=>trivial⟩)
theorem Inv.Cy(h:Inv P F B gs w t φ r bt S Sh j c v wt' sm m q f)(a6:∀k v E E',Le E E'->F.msg k v E->F.msg k v E'){i:Nat}(hi:gs[i]?=some g){k:Nat}(I:φ i=.ph (.lk k l))(a7:l≠ .GY)(ac:(i==0)=false)(hg:C7 (S i) s₀)(hs:Stop P F (.lk k l) g s₀)
  (a8:∀sv,l=.Dr sv->q≠0):JM P F B gs w sl t i (mu F gs.size φ m q r bt):=by
 have K:i<gs.size:=(f7.1 hi).1;have ap:=h.lock.ok K I h.small a8;let⟨m',q',es,o,g',ag,O,a9,U,bb,be⟩:=hs.law.lk k l V a7 w m q h.Lb ap;let⟨ai,e2,bg⟩:=iz O;have ay:=h.CP.HF F.mu h.J5;have ci:=h.size;have co:=h.Dx.pos;have Y:i≠0:=by simpa using ac
 obtain⟨k',bi,az,_,a0⟩:∃k',k'<j/\i=B.N0+k'/\i≠0/\H8 F k' (φ i):=by
  rcases h.F0 K with e | ⟨_,d,hd,_⟩ | e;exact absurd e Y;rw[I] at hd;cases hd;exact e
 rw[I] at a0;obtain rfl:k=k':=a0;have bn:Cu t w gs.size (upd S i s₀) Sh:=h.CP.ghost K hg;have bo:Cu (t++MemOp.ofEvents i g.frame.fn g.frame.place es) ag gs.size (upd S i s₀) Sh:=by
  have:Cu (t++MemOp.ofEvents i g.frame.fn g.frame.place es) (F.Hf w m' q') gs.size (upd S i s₀) Sh:=by
   refine bn.ext (h.F7.noRace h.CP.clean K (.inr AB) λe he=>(ai e he).toS (λx=>x.elim)) (λop aq a av b hb=>?_) (λop aq=>?_) (bN ..) (λb hb=>TJ _ _ _ λe=>hb (e▸h.J5));obtain⟨e,he,rfl⟩:=mem_ofEvents aq;let⟨⟨b',Z,aw⟩,_⟩:=(ai e he).1 a av;rw[hb] at Z;cases Z;rcases aw with rfl | rfl;exact h.Jj;exact h.J5;obtain⟨e,he,rfl⟩:=mem_ofEvents aq;exact bg e he _ ay
  exact this.heap U.1
 have bv:cU (.ph (Fam.Ez k o))=1/\cL (.ph (Fam.Ez k o))=0/\cS (.ph (Fam.Ez k o))=0/\H8 F k (.ph (Fam.Ez k o))/\(∀a,Nx.ph (Fam.Ez k o)≠ .ph (.IB a))/\Fam.Dw (Fam.Ez k o)=false/\Fam.DX (Fam.Ez k o)=false/\¬late (.ph (Fam.Ez k o)):=by
  cases o with
  | none=>exact⟨rfl,rfl,rfl,trivial,by simp[Fam.Ez],rfl,rfl,λx=>x⟩
  | some p=>exact⟨rfl,rfl,rfl,rfl,by simp[Fam.Ez],rfl,rfl,λx=>x⟩
 obtain⟨x1,x2,bw,bx,bz,b0,a1,b1⟩:=bv;have b2:Dy F B.N0 (gs.size+c.toNat) j c (Ds c gs.size (upd φ i (.ph (Fam.Ez k o)))) v wt' sm false:=by
  have aj:Ds c gs.size φ (B.N0+k)=.ph (.lk k l):=by rw[← az,Ko Y AB];exact I
  have:=h.Dx.J0 (v':=v) (wt':=wt') (sm':=sm) (cl':=false) bi (x:=.ph (Fam.Ez k o)) bx (λa=>by rw[aj];simp) bz (by rw[aj,x1];rfl) λL S' a2 a3=>by
   rw[aj,x2] at a2;rw[aj,bw] at a3;have b3:L=_:=a2;have b4:S'=_:=a3;rw[b3,b4];exact h.Dx.mode
  rwa[← az,P9 Y AB] at this
 have b5:Gp F B.N0 B.t0 gs.size j (upd φ i (.ph (Fam.Ez k o))) (upd S i s₀) (t++MemOp.ofEvents i g.frame.fn g.frame.place es):=by
  refine h.F7.app K (by rw[I];rw[show Hh (.ph (.lk k l))=dl l from rfl,e2];cases o<;>rfl) (λe he=>(ai e he).keep (λx=>x.elim) h.LX h.LR) (.inl (.inr AB)) (λk' al a4 e he a b av hb hw=>?_) (λk' al e a4=>absurd a4 b1);let⟨⟨b',Z,aw⟩,_⟩:=(ai e he).1 a av;rw[hb] at Z;cases Z;have a5:B.N0+k'<gs.size:=by omega
  rcases aw with rfl | rfl;exact(h.CP.sh _ a5 _ h.Jj).2;exact(h.CP.sh _ a5 _ h.J5).2
 obtain⟨ρ,b6⟩:=be;have ca:loc (.ph (Fam.Ez k o)) s₀=s₀:=by simp[loc,I9,a1]
 refine h.go' (f₁:=f) hi (by rw[ac];exact a9) b2 (h.lock.step K I h.small ap O) b5 (ρ:=ρ) (by rw[ca];exact .walk (by rw[ac,b0]) (λe=>by rw[a1] at e;cases e) (by rw[ac];exact b6)) bo ?_ ?_ ?_ (λa b=>absurd b a) (λa b=>?_) (λk' al am=>?_) (λe=>absurd e Y) (λe=>absurd e Y) (U.2.1) U.2.2.1 U.2.2.2 λcp=>mL K I O ap;show ag.heap[F.wg]?=_;rw[U.1,TJ _ _ _ (ti h.Pk)];exact h.wg;show ag.heap[F.mu]?=_;rw[U.1];exact iw _ _ _ ay;show ag.heap[F.fd]?=_;rw[U.1,TJ _ _ _ h.LR];exact h.HL;rcases kJ O with e | ⟨cc,rfl⟩;omega;exact⟨hs.law.Ky (.inr ⟨k,cc,V⟩),bb⟩
 .by_cases e:B.N0+k'=i
  .rw [e,upd_same] at am ⊢;obtain rfl:k'=k:=by omega
   have ce:HW l:=by
    let⟨a,b⟩:=eO O;cases o with
    | none=>exact b rfl
    | some p=>exact a p rfl am
   have:=h.J8 k' al (by rw[e,I];exact ce);rw[e] at this;exact a6 _ _ _ _ (λb o O=>hg.ext b o O) this
  .rw [upd_ne _ _ e] at am ⊢;exact h.J8 k' al am
end
section
variable {P:Program}{F:Fam}{B:Base}{gs gs':Array Goroutine}{w w':World}{sl:Option (Nat×Nat)}{t:Trace}{φ:Nat->Nx}{r:Nat->Rk}{bt:Nat->Bool}{S:Nat->St}{Sh:Nat->Prop}{j:Nat}{c:Bool}{v wt' sm v₁ wt₁ sm₁:Nat}{m m₁:M4}{q q₁:Nat}{f f₁:Nat->Value}
theorem Inv.store(h:Inv P F B gs w t φ r bt S Sh j c v wt' sm m q f){i:Nat}(hi:gs[i]?=some g){k:Nat}(K:φ i=.ph (.lk k .GY))(ac:(i==0)=false)(hg:C7 (S i) s₀)(hs:Stop P F (.lk k .GY) g s₀):
  JM P F B gs w sl t i (mu F gs.size φ m q r bt):=by
 have O:i<gs.size:=(f7.1 hi).1;let⟨v0,a1,g',bo,a2,a3⟩:=hs.law.store k V;have ap:=h.CP.HF F.fd h.KA;have bv:=h.size;have bw:=h.Dx.pos;have U:i≠0:=by simpa using ac
 obtain⟨k',ag,Y,_,aq⟩:∃k',k'<j/\i=B.N0+k'/\i≠0/\H8 F k' (φ i):=by
  rcases h.F0 O with e | ⟨_,d,hd,_⟩ | e;exact absurd e U;rw[K] at hd;cases hd;exact e
 rw[K] at aq;obtain rfl:k=k':=aq;have Z:∀e∈(#[⟨.cell ⟨F.fd,k,none⟩,true,false⟩]:Array Event),∀a,(MemAct.ofEvent e).touch?=some a->a=⟨.cell ⟨F.fd,k,none⟩,true,.plain⟩:=by
  intro e he a I;simp at he;subst he;simp[MemAct.ofEvent,MemAct.touch?] at I;exact I.symm
 have av:∀e∈(#[⟨.cell ⟨F.fd,k,none⟩,true,false⟩]:Array Event),e.loc≠ .mark (.release F.sA):=by
  intro e he;simp at he;subst he;simp
 have a4:∀e∈(#[⟨.cell ⟨F.fd,k,none⟩,true,false⟩]:Array Event),EvS F B.N0 j i e:=λe he=>
  ⟨λa I=>by have:=Z e he a I;subst this;exact⟨F.fd,rfl,.inr ⟨rfl,k,ag,Y,rfl,rfl⟩⟩,av e he⟩
 have a5:Cu t w gs.size (upd S i s₀) Sh:=h.CP.ghost O hg;have a6:Cu (t++MemOp.ofEvents i g.frame.fn g.frame.place #[⟨.cell ⟨F.fd,k,none⟩,true,false⟩]) (F.IG w (upd f k v0)) gs.size (upd S i s₀) Sh:=by
  refine a5.ext (h.F7.noRace h.CP.clean O (.inr AB) a4) (λop ai a a7 b hb=>?_) (λop ai=>?_) (bT ..) (λb hb=>Tz _ _ λe=>hb (e▸h.KA))
  .obtain⟨e,he,rfl⟩:=mem_ofEvents ai;have:=Z e he a a7;subst this;have:b=F.fd:=by simpa [DY] using hb.symm
   subst this;exact h.KA
  .obtain⟨e,he,rfl⟩:=mem_ofEvents ai;simp at he;subst he;simp[MemAct.ofEvent,MemAct.low,Loc.low,ap]
 have a8:Dy F B.N0 (gs.size+c.toNat) j c (Ds c gs.size (upd φ i (.ph (.lk k .Il)))) v wt' sm false:=by
  have aj:Ds c gs.size φ (B.N0+k)=.ph (.lk k .GY):=by rw[← Y,Ko U AB];exact K
  have:=h.Dx.J0 (v':=v) (wt':=wt') (sm':=sm) (cl':=false) ag (x:=.ph (.lk k .Il)) rfl (λa=>by rw[aj];simp) AM (by rw[aj];rfl) λL S' aw ay=>by
   rw[aj] at aw ay;have a9:L=_:=aw;have bb:S'=_:=ay;rw[a9,bb];exact h.Dx.mode
  rwa[← Y,P9 U AB] at this
 have be:Gp F B.N0 B.t0 gs.size j (upd φ i (.ph (.lk k .Il))) (upd S i s₀) (t++MemOp.ofEvents i g.frame.fn g.frame.place #[⟨.cell ⟨F.fd,k,none⟩,true,false⟩]):=by
  refine h.F7.app O (by rw[K];rfl) (λe he=>⟨λa b I hb bg=>?_,λa I hb=>?_,av e he⟩) (.inl (.inr AB)) (λk' al az e he a b I hb hw=>?_) (λk' al e az=>az.elim)
  .have:=Z e he a I;subst this;have am:b=F.fd:=by simpa [DY] using hb.symm
   subst am;rcases bg with e | e;exact absurd e h.LX;exact absurd e h.LR
  .have:=Z e he a I;subst this;exact⟨k,ag,Y,V,V⟩
  .have:=Z e he a I;subst this;have am:b=F.fd:=by simpa [DY] using hb.symm
   subst am;exact(h.CP.sh (B.N0+k') AB _ h.KA).2
 obtain⟨ρ,bi⟩:=a3;have bn:LI gs.size (upd φ i (.ph (.lk k .Il))) m q:=by
  refine h.lock.same O (λf=>?_) trivial;rw[K];by_cases e:f .GY=f .Il;exact .inl e;right;refine⟨?_,?_,?_,?_,?_,?_,?_,?_⟩<;>rintro rfl<;>exact e rfl
 refine h.go' (f₁:=upd f k v0) hi (by rw[ac];exact a2 w f h.HL) a8 bn be (ρ:=ρ) (.walk (by rw[ac];rfl) (λe=>by cases e) (by rw[ac];exact bi)) a6 ?_ ?_ (fQ _ _ ap) (λa b=>absurd b a) (λa b=>absurd b a) (λk' al a0=>?_) (λe=>absurd e U) (λe=>absurd e U) V (.refl _) V λbx=>YL O (by rw[K];simp[wt,IM]);show(F.IG w (upd f k v0)).heap[F.wg]?=_;rw[Tz _ _ (ti h.LX)];exact h.wg;show(F.IG w (upd f k v0)).heap[F.mu]?=_;rw[Tz _ _ (ti h.LR)];exact h.Lb;by_cases e:k'=k;subst e;rw[← Y,upd_same,upd_same];exact a1;rw[upd_ne _ _ e];rw[upd_ne _ _ AB] at a0 ⊢;exact h.J8 k' al a0
theorem ZQ{o:Goroutine}(h:g'.status=.blocked):woken P g g' w o=o:=by
 unfold woken;rw[d0 (by simp[h])]
theorem Gp.jh{N0 t0 N:Nat}(h:Gp F N0 t0 N j φ S t){i:Nat}(O:∀k,k<j->late (φ (N0+k))->N0+k≠i):Gp F N0 t0 N j φ (upd S i s') t:=
 ⟨h.deaf,h.above,h.plain,h.said,h.HL,h.over,h.norel,h.Pb,λk I K=>by rw[upd_ne _ _ (O k I K)];exact h.rel k I K⟩
theorem Inv.block(h:Inv P F B gs w t φ r bt S Sh j c v wt' sm m q f){i:Nat}(hi:gs[i]?=some g){p:Ph}(I:φ i=.ph p)(aq:bt i=true)(Z:(i==0)=Fam.Dw p)(hg:C7 (S i) s₀)(hs:Stop P F p g s₀)
  (ac:(p=.GV/\sm=0)∨((∃k sv,p=.lk k (.Dr sv))/\q=0)):JM P F B gs w sl t i (mu F gs.size φ m q r bt):=by
 have U:i<gs.size:=(f7.1 hi).1;have a0:=h.size;have av:stepG P (i==0) g w=.go {g with status:=.blocked} w #[]:=by
  rw[Z];rcases ac with⟨rfl,rfl⟩ | ⟨⟨k,sv,rfl⟩,rfl⟩;exact hs.law.Gs V w v wt' h.wg;exact hs.law.Dr k sv V w m h.Lb
 have Y:Ul p:=by
  rcases ac with⟨rfl,_⟩ | ⟨⟨k,sv,rfl⟩,_⟩;exact .inl V;exact .inr ⟨k,sv,V⟩
 have aw:=Vg Y;have ai:=runT_crowd_go (P:=P) (sl:=sl) (i:=i) hi av;have ay:(gs.map (woken P g {g with status:=.blocked} w)).setIfInBounds i {g with status:=.blocked}=gs.setIfInBounds i {g with status:=.blocked}:=by
  have:(woken P g {g with status:=.blocked} w)=id:=by funext o;exact ZQ V
  rw[this,Array.map_id]
 rw[ay,PI] at ai;have K:(gs.setIfInBounds i {g with status:=.blocked}).size=gs.size:=by simp
 have aj:t++(#[]:Trace)=t:=by simp
 have az:∀k,k<j->late (φ (B.N0+k))->B.N0+k≠i:=by
  intro k al am e;rw[e,I] at am;rcases Y with rfl | ⟨k',sv,rfl⟩;rcases h.F0 U with aj | ⟨_,d,hd,_⟩ | ⟨k',_,_,_,hw⟩;have:=h.Dx.pos;omega;rw[I] at hd;cases hd;rw[I] at hw;exact hw;exact am
 refine⟨_,_,_,_,ai,.inl ⟨φ,r,upd bt i false,upd S i s₀,Sh,j,c,v,wt',sm,m,q,f,?_,?_⟩⟩
 .rw [aj];refine⟨by rw[K];exact h.Dx,by rw[K];exact h.lock,by rw[K];exact h.F7.jh az,λa o O=>?_,by rw[K];exact h.CP.ghost U hg,h.Jj,h.J5,h.KA,h.Pk,h.LX,h.LR,h.Jq,h.mn,h.wg,h.Lb,h.HL,λa ap hb=>?_,λk al ag=>?_,?_,h.tape,h.os,h.output⟩
  .by_cases e:a=i
   .subst e;rw[sT U] at O;obtain rfl:=f8 O;rw[upd_same,upd_same,I];have:loc (.ph p) s₀=s₀:=by simp[loc,I9,aw]
    rw[this];exact .blk Y Z hs
   .rw [sN (ti e)] at O;rw[upd_ne _ _ e,upd_ne _ _ e];exact h.MZ a o O
  .by_cases e:a=i
   .subst e;rcases ac with⟨rfl,rfl⟩ | ⟨⟨k,sv,rfl⟩,rfl⟩
    .have:a=0:=by simpa [Fam.Dw] using Z
     subst this;exact .inl ⟨V,I,V⟩
    .exact .inr ⟨⟨k,sv,I⟩,V⟩
   .rw [upd_ne _ _ e] at hb;rw[K] at ap;exact h.blk a ap hb
  by_cases e:B.N0+k=i;rw[e,I] at ag;rcases Y with rfl | ⟨k',sv,rfl⟩<;>exact ag.elim;rw[upd_ne _ _ e];exact h.J8 k al ag;by_cases e:0=i;subst e;rw[upd_same];exact λb o O=>hg.ext b o (h.le b o O);rw[upd_ne _ _ e];exact h.le
 .rw [K];have:=sumTo_upd bt false bit U;rw[aq] at this;exact .inr ⟨V,.inr ⟨V,.inr ⟨V,V,.inr ⟨V,by show(sumTo gs.size λa=>bit (upd bt i false a))<sumTo gs.size λa=>bit (bt a);simp only[bit] at this ⊢;simp only[tS,s5,tP] at this;omega⟩⟩⟩⟩
theorem LI.push{N:Nat}(h:LI N φ m q)(Y:0<N){p0:Ph}{j:Nat}(K:∀k p,φ 0≠ .ph (.lk k p))(O:∀k p,p0≠ .lk k p):LI (N+1) (upd (upd φ N (.ph (.lk j .HG))) 0 (.ph p0)) m q:=by
 have U:LI (N+1) (upd φ N (.ph (.lk j .HG))) m q:=by
  have e:∀f,f LP.HG=0->Sg f (N+1) (upd φ N (.ph (.lk j .HG)))=Sg f N φ:=by
   intro f Z;unfold Sg;simp only[sumTo];have:=sumTo_upd_out φ (.ph (.lk j .HG)) (Ey f) (i:=N) (j:=N) (jK _);rw[upd_same];show _+f .HG=_;omega
  refine⟨by rw[e pH rfl,e pN rfl,e pZ rfl,e pV rfl,e pT rfl,e pQ rfl,e pD rfl,e pX rfl];exact h.ln,λa ac=>?_⟩;by_cases I:a=N;subst I;rw[upd_same];trivial;rw[upd_ne _ _ I];exact h.loc a AB
 exact U.other AB (by rw[upd_ne _ _ (by omega)];exact K) (λk p e=>O k p (Nx.ph.inj e))
theorem Inv.spawn(h:Inv P F B gs w t φ r bt S Sh j c v wt' sm m q f)(hi:gs[0]?=some g){I:Nat}(Z:φ 0=.ph (.Hi I))(hg:C7 (S 0) s₀)(hs:Stop P F (.Hi I) g s₀):
  JM P F B gs w sl t 0 (mu F gs.size φ m q r bt):=by
 have U:0<gs.size:=(f7.1 hi).1;obtain⟨rfl,c5,rfl⟩:I=j/\j<F.n/\c=false:=by
  obtain⟨p,a8,_,hh⟩:=h.main;rw[Z] at a8;cases a8;rcases hh with⟨e,hm⟩ | ⟨_,hm⟩;exact⟨hm.1,hm.2.1,e⟩;exact hm.elim
 let⟨g',child,c6,c7,bg,bi,bn⟩:=hs.law.go _ V;have bo:=h.size;have c8:=h.Dx.pos;have az:=runT_crowd_spawn (P:=P) (sl:=sl) (i:=0) hi (show stepG P (0==0) g w=_ from bg w);rw[PI] at az;generalize bv:({g:=0,fn:=g.frame.fn,pos:=g.frame.place,act:=.go gs.size}:MemOp)=x at az;generalize bw:({g:=gs.size,fn:=child.frame.fn,pos:=g.frame.place,act:=.start}:MemOp)=y at az;have ai:x.g=0/\x.act=.go gs.size:=by subst bv;exact⟨V,V⟩
 have aj:y.g=gs.size/\y.act=.start:=by subst bw;exact⟨V,V⟩
 have bx:((#[]:Trace).push x).push y=#[x,y]:=V;have ag:((gs.setIfInBounds 0 g').push child).size=gs.size+1:=by simp
 have bz:Fam.Dw (F.FY I)=true/\Fam.DX (F.FY I)=false/\Hh (.ph (F.FY I))=0/\(∀k p,F.FY I≠ .lk k p):=by
  unfold Fam.FY;split<;>exact⟨rfl,rfl,rfl,AM⟩
 obtain⟨x1,x2,b0,b1⟩:=bz;let φ':Nat->Nx:=upd (upd φ gs.size (.ph (F.start I))) 0 (.ph (F.FY I));have f0:φ' 0=.ph (F.FY I):=upd_same _ _ _;have al:φ' gs.size=.ph (F.start I):=by show upd _ _ _ _=_;rw[upd_ne _ _ AB,upd_same]
 have am:∀a,a≠0->a≠gs.size->φ' a=φ a:=λa b2 a3=>by show upd _ _ _ _=_;rw[upd_ne _ _ b2,upd_ne _ _ a3]
 have hu:∀op∈(#[x,y]:Array MemOp),op.act.touch?=none/\∀m,op.act≠ .mark m:=by
  intro op K;simp only[ul,ja,sS,t6] at K;rcases K with rfl | rfl;rw[ai.2];exact⟨V,AM⟩;rw[aj.2];exact⟨V,AM⟩
 have ap:=h.Dx.spawn (by rw[K5];exact Z);rw[K5] at ap;simp only[sY,tQ] at ap;have a4:∃aq,Dy F B.N0 (gs.size+1+aq.toNat) (I+1) aq (Ds aq (gs.size+1) φ') v wt' sm false:=by
  by_cases e:I+1=F.n
  .refine⟨true,?_⟩;have a5:F.GR I=.Ic:=by unfold Fam.GR;rw[d9 e]
   have e2:F.FY I=.EL:=by unfold Fam.FY;rw[d9 e]
   have:=ap.kA (by rw[upd_same,a5]);have b3:Ds true (gs.size+1) φ'=upd (upd (upd (upd φ gs.size (.ph (F.start I))) 0 (.ph (F.GR I))) (gs.size+1) (.ph .EL)) 0 (.ph (.Hc [] [])):=by
    funext a;unfold Ds;by_cases a6:a=gs.size+1;subst a6;rw[d9 ⟨rfl,rfl⟩,upd_ne _ _ AB,upd_same,f0,e2];rw[d0 (by simp[a6])];by_cases ac:a=0;subst ac;rw[d9 ⟨rfl,rfl⟩,upd_same];rw[d0 (by simp[ac]),upd_ne _ _ ac,upd_ne _ _ a6];show upd _ _ _ _=_;rw[upd_ne _ _ ac,upd_ne _ _ ac]
   rw[b3];exact this
  .refine⟨false,?_⟩;have a5:F.GR I=F.FY I:=by unfold Fam.GR Fam.FY;rw[d0 e,d0 e]
   rw[a5] at ap;rw[K5];exact ap
 obtain⟨aq,a4⟩:=a4;have a9:Cu t w gs.size (upd S 0 s₀) Sh:=h.CP.ghost U hg;have b4:Cu (t++ #[x,y]) w gs.size (upd S 0 s₀) Sh:=by
  refine a9.ext (λsaid=>?_) (λop K a av=>by rw[(hu op K).1] at av;cases av) (λop K=>?_) V λ_ _=>V
  .have e:t++ #[x,y]=(t++ #[x])++ #[y]:=by apply ut;simp
   rw[e];exact noRace_append (g:=gs.size) (noRace_append (g:=0) (h.CP.clean said) (λop K=>by simp at K;subst K;exact ai.1) λz a _ op K b hb _=>by rw[(hu op (by simp at K ⊢;exact .inl K)).1] at hb;cases hb)
    (λop K=>by simp at K;subst K;exact aj.1) λz a _ op K b hb _=>by rw[(hu op (by simp at K ⊢;exact .inr K)).1] at hb;cases hb
  .simp only [ul,ja,sS,t6] at K;rcases K with rfl | rfl;rw[ai.2];trivial;rw[aj.2];trivial
 have b5:Deaf t 0=0:=by rw[h.F7.deaf 0 U,Z];rfl
 have b6:Cu (t++ #[x,y]) w (gs.size+1) (upd (upd S 0 s₀) gs.size ⟨s₀.E,λ_=>none,false⟩) Sh:=by
  refine b4.push (i:=0) U (E:=s₀.E) (λb o aw=>by rw[upd_same];exact aw) λb hb z a ca cc ce=>?_;have hold:touchAt t z=some a:=by
   let⟨op,aw,a7⟩:=touch_of ca;rcases getElem?_append_cases aw with⟨_,ci⟩ | ⟨_,co⟩;rw[touchAt_of ci];exact a7;rw[(hu op co).1] at a7;cases a7
  exact fork_knows ai aj b5 (h.F7.above _ (jK _)) (a9.kE 0 U b (by rw[upd_same];exact hb) z a hold cc ce)
 have bb:∀k,k<I->upd (upd S 0 s₀) gs.size ⟨s₀.E,λ_=>none,false⟩ (B.N0+k)=S (B.N0+k):=λk be=>by rw[upd_ne _ _ AB,upd_ne _ _ AB]
 have cp:Gp F B.N0 B.t0 (gs.size+1) (I+1) φ' (upd (upd S 0 s₀) gs.size ⟨s₀.E,λ_=>none,false⟩) (t++ #[x,y]):=by
  refine h.F7.spawn U bo (λa av=>?_) (by rw[al];rfl) (by rw[Z];rfl) (λk be a0=>?_) ai aj;by_cases e:a=0;subst e;rw[f0,Z,b0];rfl;rw[am a e AB];by_cases e:k=I;subst e;rw[show B.N0+k=gs.size by omega,al] at a0;exact a0.elim;rw[am _ AB AB] at a0;exact⟨AB,a0,by rw[bb k AB]⟩
 obtain⟨ct,cw⟩:=bn;obtain⟨cy,c0⟩:=bi;have ay:∀{α:Type}(f:Nat->α) (a b:α),upd (upd f 0 a) gs.size b 0=a:=λf a b=>by rw[upd_ne _ _ AB,upd_same]
 have c2:∀s:St,loc (.ph (F.FY I)) s=s:=λs=>by simp[loc,I9,x2]
 refine⟨_,_,_,_,az,.inl ⟨φ',upd (upd r 0 ct) gs.size cy,upd (upd bt 0 true) gs.size true,upd (upd S 0 s₀) gs.size ⟨s₀.E,λ_=>none,false⟩,Sh,I+1,aq,v,wt',sm,m,q,f,?_,?_⟩⟩
 .rw [bx];refine⟨by rw[ag];exact a4,by rw[ag];exact h.lock.push U (λk p e=>by rw[Z] at e;cases e) b1,by rw[ag];exact cp,λa o Y=>?_,by rw[ag];exact b6,h.Jj,h.J5,h.KA,h.Pk,h.LX,h.LR,h.Jq,(by rw[f0];unfold Fam.FY;split<;>simp),h.wg,h.Lb,h.HL,λa av hb=>?_,λk be a2=>?_,?_,h.tape,h.os,h.output⟩
  .by_cases e:a=0;subst e;rw[Array.getElem?_push_lt (by simpa using U)] at Y;simp at Y;subst Y;rw[f0,ay,ay,ay,c2];exact .walk x1.symm (λq=>by rw[x2] at q;cases q) cw
   .by_cases O:a=gs.size
    .subst O;have:child=o:=by
      rw[show gs.size=(gs.setIfInBounds 0 g').size by simp,Array.getElem?_push_size] at Y;exact f8 Y
     subst this;rw[al,upd_same,upd_same,upd_same];have c3:(gs.size==0)=false:=by rw[beq_eq_false_iff_ne];omega
     rw[c3];exact .walk V (λq=>by cases q) c0
    .rw [am a e O,upd_ne _ _ O,upd_ne _ _ e,upd_ne _ _ O,upd_ne _ _ e,upd_ne _ _ O,upd_ne _ _ e];have:gs[a]?=some o:=by
      rw[wy] at Y;simp[O] at Y;simpa [sN (ti e)] using Y
     exact h.MZ a o this
  rw[ag] at av;by_cases e:a=0;subst e;rw[ay] at hb;cases hb;by_cases O:a=gs.size;subst O;rw[upd_same] at hb;cases hb;rw[upd_ne _ _ O,upd_ne _ _ e] at hb;rcases h.blk a AB hb with⟨ac,_⟩ | ⟨⟨k,sv,a3⟩,c4⟩;exact absurd ac e;exact .inr ⟨⟨k,sv,by rw[am a e O];exact a3⟩,c4⟩;by_cases e:k=I;subst e;rw[show B.N0+k=gs.size by omega,al] at a2;exact a2.elim;rw[am _ AB AB] at a2;rw[bb k AB];exact h.J8 k AB a2;rw[ay];exact h.le.trans λb o aw=>hg.ext b o aw
 .rw [ag];refine my ?_;simp only[sumTo];rw[al];have a1:=sumTo_upd (upd φ gs.size (.ph (F.start I))) (.ph (F.FY I)) (wt F.n) U;rw[upd_ne _ _ AB,Z] at a1;have c9:=sumTo_upd_out φ (.ph (F.start I)) (wt F.n) (i:=gs.size) (j:=gs.size) (jK _);have dd:wt F.n (.ph (F.start I))=23:=V;have dj:wt F.n (.ph (.Hi I))=5*F.n+85+50*(F.n - I):=V;have ea:wt F.n (.ph (F.FY I))+30<=5*F.n+85+50*(F.n - I):=by
   unfold Fam.FY;split<;>simp only[wt]<;>omega
  show(sumTo gs.size λi=>wt F.n (upd (upd φ gs.size (.ph (F.start I))) 0 (.ph (F.FY I)) i))+_<_;omega
end
theorem Cu.final{t:Trace}{w:World}{N:Nat}{S:Nat->St}{Sh:Nat->Prop}(h:Cu t w N S Sh)(ai:0<N){fd:Nat}
  (Y:∀b o,s'.E b=some o->w.heap[b]?=some o/\¬Sh b/\∀x a,touchAt t x=some a->DY a.loc=some b->a.write=true->Knows t 0 x)
  (Z:∀b o,s'.H b=some o->w.heap[b]?=some o/\(¬Sh b∨b=fd)/\∀x a,touchAt t x=some a->DY a.loc=some b->Knows t 0 x)
  (hd:∀b,s'.E b≠none->s'.H b=none) (aj:s'.E fd=none):Cu t w N (lone s') (λb=>Sh b/\b≠fd):=by
 have l0:lone s' 0=s':=V;have ln:∀i,i≠0->lone s' i=.quiet:=λi hi=>by simp[lone,hi]
 have U:∀i b,i≠0->(lone s' i).E b=none:=λi b hi=>by rw[ln i hi];rfl
 have O:∀i b,i≠0->(lone s' i).H b=none:=λi b hi=>by rw[ln i hi];rfl
 refine⟨λi hi=>?_,λa b al hb ag x K=>?_,λi hi b hb=>?_,λb hb=>h.HF b hb.1,h.clean,h.low,λi hi b hb x a K ac=>?_,λi hi b hb x a K ac hw=>?_⟩;by_cases e:i=0;subst e;rw[l0];exact⟨λb o I=>(Y b o I).1,λb o I=>(Z b o I).1,hd⟩;exact⟨λb o I=>(by rw[U i b e] at I;cases I),λb o I=>(by rw[O i b e] at I;cases I),λb hb=>O i b e⟩;by_cases e:b=0;subst e;rw[O a x ag] at K;exact absurd V K;exact⟨O b x e,U b x e⟩
 .by_cases e:i=0
  .subst e;rw[l0];constructor
   .cases K:s'.H b with
    | none=>rfl
    | some o=>rcases(Z b o K).2.1 with q | q;exact absurd hb.1 q;exact absurd q hb.2
   .cases K:s'.E b with
    | none=>rfl
    | some o=>exact absurd hb.1 (Y b o K).2.1
  .exact⟨O i b e,U i b e⟩
 by_cases e:i=0;subst e;let⟨o,I⟩:=Jx (x:=s'.H b) hb;exact(Z b o I).2.2 x a K ac;rw[O i b e] at hb;exact absurd V hb;by_cases e:i=0;subst e;let⟨o,I⟩:=Jx (x:=s'.E b) hb;exact(Y b o I).2.2 x a K ac hw;rw[U i b e] at hb;exact absurd V hb
section
variable {P:Program}{F:Fam}{B:Base}{gs gs':Array Goroutine}{w w':World}{sl:Option (Nat×Nat)}{t:Trace}{φ:Nat->Nx}{r:Nat->Rk}{bt:Nat->Bool}{S:Nat->St}{Sh:Nat->Prop}{j:Nat}{c:Bool}{v wt' sm v₁ wt₁ sm₁:Nat}{m m₁:M4}{q q₁:Nat}{f f₁:Nat->Value}
theorem Inv.over(h:Inv P F B gs w t φ r bt S Sh j c v wt' sm m q f)(ci:∀k v E E',Le E E'->F.msg k v E->F.msg k v E')(hi:gs[0]?=some g)(a3:φ 0=.ph .HH)(bo:C7 (S 0) s₀)(hs:Stop P F .HH g s₀)(co:Mu):
  JM P F B gs w sl t 0 co:=by
 classical
 have Z:0<gs.size:=(f7.1 hi).1;have dd:=h.size;have dj:=h.Dx.pos;obtain rfl:c=true:=by
  obtain⟨p,bv,_,hh⟩:=h.main;rw[a3] at bv;cases bv;rcases hh with⟨_,hm⟩ | ⟨e,_⟩;exact hm.elim;exact e
 have hj:j=F.n:=h.Dx.cj V;have a4:∀i,i≠0->i<gs.size->∃d,φ i=.gone d:=by
  intro i a5 aw;rcases h.F0 aw with e | ⟨_,d,hd,_⟩ | ⟨k,Y,cp,_,_⟩;exact absurd e a5;exact⟨d,hd⟩
  .have:=h.Dx.iv rfl (.inr (.inr (.inl (by rw[show B.N0+F.n=gs.size by omega,LF];exact a3)))) k Y;rw[← cp,Ko a5 AB] at this;cases O:φ i with
   | gone d=>exact⟨d,rfl⟩
   | ph p=>rw[O] at this;exact this.elim
 let⟨g',ct,cw⟩:=hs.law.fin V;have bw:=runT_crowd_go (P:=P) (sl:=sl) (i:=0) hi (show stepG P (0==0) g w=_ from ct w);have bx:Deaf t 0=0:=by rw[h.F7.deaf 0 Z,a3];rfl
 have a6:MemOp.ofEvents 0 g.frame.fn g.frame.place #[Fam.DF (.acquire F.sA)]=#[{g:=0,fn:=g.frame.fn,pos:=g.frame.place,act:=.mark (.acquire F.sA)}]:=by rw[ofEvents_eq];simp[Fam.DF,MemAct.ofEvent]
 generalize hu:MemOp.ofEvents 0 g.frame.fn g.frame.place #[Fam.DF (.acquire F.sA)]=u at bw;have ag:∀op∈u,op.act.touch?=none/\op.g=0/\op.act.low w.heap.size:=by
  intro op ai;rw[← hu,a6] at ai;simp at ai;subst ai;exact⟨V,V,h.CP.HF F.wg h.Jj⟩
 have ay:(t++u)[t.size]?=some {g:=0,fn:=g.frame.fn,pos:=g.frame.place,act:=.mark (.acquire F.sA)}:=by rw[← hu,a6];simp
 have cy:(t++u).heard t.size:=⟨0,by simp[Trace.g?,ay],by rw[deaf_old (jK _)];exact bx⟩;have c0:(t++u).g? t.size=some 0:=by simp[Trace.g?,ay]
 have c2:∀x,B.t0<=x->(t++u).act? x≠some (.mark (.release F.sA)):=SR h.F7.norel λop ai e=>by rw[← hu,a6] at ai;simp at ai;subst ai;cases e
 have a7:∀k,k<F.n->∃ρ,ρ<t.size/\RelBy F.sA t (B.N0+k) ρ/\KE t (S (B.N0+k)).E ρ/\HappensBefore (t++u) ρ t.size:=by
  intro k Y;obtain⟨d,hd⟩:=a4 (B.N0+k) AB AB;obtain⟨ρ,a,b,e⟩:=h.F7.rel k AB (by rw[hd];trivial);have az:ρ<t.size:=lt_of_act? b.act;refine⟨ρ,az,b,e,.single (.inr ⟨.marked az (.inr (by rw[act?_old az];exact b.act)) (by rw[act?_of ay]) λz U ac=>c2 z AB,(heard_old az).2 b.heard,cy⟩)⟩
 have bz:∀{x ρ},Before t x ρ->HappensBefore (t++u) ρ t.size->Knows (t++u) 0 x:=λU ac=>⟨t.size,_,ay,rfl,.inr ((U.app u).hb ac)⟩;have b0:∀{x k},k<F.n->t.g? x=some (B.N0+k)->t.counts x->Knows (t++u) 0 x:=by
  intro x k Y hg aj;let⟨ρ,U,ac,_,av⟩:=a7 k Y;have hle:x<=ρ:=Nat.le_of_not_lt λam=>ac.after x am hg aj;refine bz (ρ:=ρ) ?_ av;rcases mt x ρ with O | O;exact .inr (.single (.inl ⟨O,_,hg,ac.g⟩));exact .inl AB
 have hold:∀{y a},touchAt (t++u) y=some a->touchAt t y=some a:=by
  intro y a O;let⟨op,I,a8⟩:=touch_of O;rcases getElem?_append_cases I with⟨am,a9⟩ | ⟨_,bb⟩;rw[touchAt_of a9];exact a8;rw[(ag op bb).1] at a8;cases a8
 have al:Cu t w gs.size (upd S 0 s₀) Sh:=h.CP.ghost Z bo;have be:Cu (t++u) w gs.size (upd S 0 s₀) Sh:=al.mute (g:=0) (λop I=>(ag op I).2.1) (λop I=>(ag op I).1) (λop I=>(ag op I).2.2) rfl;let K:Nat->Obj->Prop:=λb o=>s₀.E b=some o∨∃k,k<F.n/\(S (B.N0+k)).E b=some o;have bg:∀b o,K b o->w.heap[b]?=some o:=by
  rintro b o (U | ⟨k,Y,U⟩);exact(al.fits 0 Z).e b o (by rw[upd_same];exact U);exact(h.CP.fits (B.N0+k) AB).e b o U
 let E':LH:=λb=>if hb:∃o,K b o then some (Classical.choose hb) else none
 have bi:∀b o,E' b=some o->K b o:=by
  intro b o I;simp only[E'] at I;split at I;rename_i hb;have:=uh hb;rw[f8 I] at this;exact this;cases I
 have b1:∀b o,K b o->E' b=some o:=by
  intro b o I;have hb:∃o,K b o:=⟨o,I⟩;have c3:E' b=some (Classical.choose hb):=by simp only[E'];rw[dif_pos hb]
  have e2:=bg b _ (uh hb);rw[bg b o I] at e2;rw[c3,← f8 e2]
 have b2:Le s₀.E E':=λb o I=>b1 b o (.inl I);have c4:∀k,k<F.n->Le (S (B.N0+k)).E E':=λk Y b o I=>b1 b o (.inr ⟨k,Y,I⟩);have b3:∀b o,K b o->¬Sh b:=by
  rintro b o (U | ⟨k,Y,U⟩) hb;have:=(al.sh 0 Z b hb).2;rw[upd_same,U] at this;cases this;have:=(h.CP.sh (B.N0+k) AB b hb).2;rw[U] at this;cases this
 have bn:E' F.fd=none:=by
  cases O:E' F.fd with
  | none=>rfl
  | some o=>exact absurd h.KA (b3 _ _ (bi _ _ O))
 have b4:∀b,E' b≠none->s₀.H b=none:=by
  intro b hb;let⟨o,I⟩:=Jx hb;rcases bi b o I with U | ⟨k,Y,U⟩
  .have:=(al.fits 0 Z).d b (by rw[upd_same,U];simp)
   rwa[upd_same] at this
  .cases O:s₀.H b with
   | none=>rfl
   | some o'=>
    have:=(al.hh 0 (B.N0+k) Z AB AB b (by rw[upd_same,O];simp)).2;rw[upd_ne _ _ AB,U] at this;cases this
 have c5:∀k,k<F.n->F.msg k (f k) E':=λk Y=>by
  obtain⟨d,hd⟩:=a4 (B.N0+k) AB AB;exact ci _ _ _ _ (c4 k Y) (h.J8 k AB (by rw[hd];trivial))
 have c6:=cw E' f b2 bn b4 c5;have b5:((gs.map (woken P g g' w)).setIfInBounds 0 g').size=gs.size:=by simp
 have c7:Cu (t++u) w gs.size (lone ⟨E',F.LD s₀.H f,false⟩) (λb=>Sh b/\b≠F.fd):=by
  refine be.final Z (λb o I=>?_) (λb o I=>?_) (λb hb=>?_) bn;refine have Y:=bi b o I;⟨bg b o Y,b3 b o Y,λx a O ap hw=>?_⟩;rcases Y with U | ⟨k,Y,U⟩;exact be.kE 0 Z b (by rw[upd_same,U];simp) x a O ap hw;exact let⟨ρ,_,_,c8,av⟩:=a7 k Y;bz (c8 b (by rw[U];simp) x a (hold O) ap hw) av;simp only[Fam.LD] at I;split at I;rename_i e;subst e;cases I;refine⟨h.HL,.inr V,λx a O ap=>?_⟩;rcases h.F7.HL x a (hold O) ap with z | ⟨k,Y,hg,aj,_⟩;exact(z 0 Z (.inl V)).app u;exact b0 AB hg aj;refine⟨(al.fits 0 Z).h b o (by rw[upd_same];exact I),.inl λhb=>?_,λx a O ap=>be.kH 0 Z b (by rw[upd_same,I];simp) x a O ap⟩;have:=(al.sh 0 Z b hb).1;rw[upd_same,I] at this;cases this;simp only[Fam.LD];rw[d0 (λe=>by subst e;exact hb bn)];exact b4 b hb
 have c9:∀i g,i≠0->gs[i]?=some g->∃q d,φ i=.gone d/\QuitsD P q d g:=by
  intro i g hi hg;let⟨d,hd⟩:=a4 i hi (f7.1 hg).1;have hs:=h.MZ i g hg;rw[hd] at hs;generalize O:Nx.gone d=x at hs;generalize loc x (S i)=s at hs;generalize r i=ρ at hs;generalize bt i=ea at hs;cases hs with
  | gone _ a0=>cases O;exact⟨_,_,hd,a0⟩
  | _=>cases O
 have a0:∀i,∃q,∀g,i≠0->gs[i]?=some g->QuitsD P q (Deaf t i) g:=by
  intro i;by_cases hi:i≠0/\i<gs.size;refine let⟨q,d,U,ac⟩:=c9 i _ hi.1 (tl hi.2);⟨q,λg _ hg=>?_⟩;rw[tl hi.2] at hg;obtain rfl:=f8 hg;rw[h.F7.deaf i hi.2,U];exact ac;exact⟨0,λg U ac=>absurd ⟨U,(f7.1 ac).1⟩ hi⟩
 have b6:∀i,i≠0->Deaf (t++u) i=Deaf t i:=λi hi=>Deaf_other t (ti hi) u λop I=>(ag op I).2.1;refine⟨_,_,_,_,bw,.inr ⟨λi=>Classical.choose (a0 i),λb=>Sh b/\b≠F.fd,g',⟨E',F.LD s₀.H f,false⟩,⟨by simp[Z],⟨λi x a5 O=>?_,λi aw=>?_⟩,by rw[b5];exact c7,λx a1 hg aq aj=>?_,?_⟩,c6,?_,h.tape,h.os,h.output⟩⟩
 .have aq:i≠0:=by omega
  rw[sN (ti aq),uK] at O;obtain⟨o',a9,rfl⟩:=tr.1 O;have ca:=uh (a0 i) o' aq a9;rw[woken_quitsD ca,b6 i aq];exact ca
 .rw [b5] at aw;rw[b6 i AB];exact h.F7.above i aw
 .have:=Tf h.F7.over (u:=u) (N0:=B.N0) (N:=gs.size) (λop I=>.inl (ag op I).2.1) x a1 hg aq aj;rcases this with z | ⟨z1,eb⟩;exact z
  .have a2:x<t.size:=by
    rcases mt x t.size with z | z;exact z;let⟨op,I,cc⟩:=tr.1 hg;rcases getElem?_append_cases I with⟨am,_⟩ | ⟨_,bb⟩;exact am;rw[(ag op bb).2.1] at cc;exact absurd cc.symm aq
   obtain⟨ec,z,ed,ee,ef⟩:=b0 (k:=a1 - B.N0) AB (by rw[← g?_old (u:=u) a2,hg];congr 1;omega) ((counts_old a2).1 aj);refine⟨t.size,c0,?_⟩;obtain⟨ρ,U,ac,_,av⟩:=a7 (a1 - B.N0) AB;have ce:t.g? x=some (B.N0+(a1 - B.N0)):=by rw[← g?_old (u:=u) a2,hg];congr 1;omega
   have hle:x<=ρ:=Nat.le_of_not_lt λam=>ac.after x am ce ((counts_old a2).1 aj);have hb:Before t x ρ:=by
    rcases mt x ρ with O | O;exact .inr (.single (.inl ⟨O,_,ce,ac.g⟩));exact .inl AB
   exact(hb.app u).hb av
 have:=Deaf_own t 0 g.frame.fn g.frame.place #[Fam.DF (.acquire F.sA)];rw[hu] at this;rw[this,bx];rfl;exact(h.le.trans λb o I=>bo.ext b o I).trans b2
end
theorem LN.busy{m:M4}{h rn rs v t s d x:Nat}(Y:LN m 0 h rn rs v t s d x)(hs:1<=s):1<=h+rn+rs+v+t+d+x:=by
 obtain⟨K,Z,ac⟩:=Y;cases hm:m.s with
 | true=>have:=(ac hm).2.2.2.1;rw[← K] at this;omega
 | false=>
  let⟨a1,ai,I,aj,ag⟩:=Z hm;cases U:m.l with
  | true=>rw[U] at K;simp at K;omega
  | false=>
   cases O:m.k with
   | true=>rw[O] at I;simp at I;omega
   | false=>
    rw[O] at I;simp at I;have:=ag U O AB;omega
section
variable {P:Program}{F:Fam}{B:Base}{gs gs':Array Goroutine}{w w':World}{sl:Option (Nat×Nat)}{t:Trace}{φ:Nat->Nx}{r:Nat->Rk}{bt:Nat->Bool}{S:Nat->St}{Sh:Nat->Prop}{j:Nat}{c:Bool}{v wt' sm v₁ wt₁ sm₁:Nat}{m m₁:M4}{q q₁:Nat}{f f₁:Nat->Value}
theorem bm{N:Nat}{f:Nat->Nat}(h:1<=sumTo N f):∃i,i<N/\1<=f i:=by
 induction N with
 | zero=>simp[sumTo] at h
 | succ N I=>
  simp only[sumTo] at h;by_cases e:1<=f N;exact⟨N,AB,e⟩;obtain⟨i,hi,K⟩:=I AB;exact⟨i,AB,K⟩
theorem Inv.runs(h:Inv P F B gs w t φ r bt S Sh j c v wt' sm m q f):∃(i:Nat) (g:Goroutine),gs[i]?=some g/\g.status=.running:=by
 have bi:=h.Dx.pos;have bn:=h.size;have aj:0<gs.size:=by omega
 have Z:∀i (hi:i<gs.size) p,φ i=.ph p->bt i=true->∃(i:Nat) (g:Goroutine),gs[i]?=some g/\g.status=.running:=by
  intro i hi p K hb;refine⟨i,_,tl hi,?_⟩;have hs:=h.MZ i _ (tl hi);rw[K,hb] at hs;generalize loc (Nx.ph p) (S i)=s at hs;generalize a1:Nx.ph p=x at hs;generalize a2:true=b at hs;generalize gs[i]=o at hs ⊢;generalize r i=ρ at hs;cases hs with
  | walk _ _ hj=>exact hj.running
  | blk _ _ _=>cases a2
  | gone _ _=>cases a1
 obtain⟨p0,Y,a3,hh⟩:=h.main;cases al:bt 0 with
 | true=>exact Z 0 aj p0 Y al
 | false=>
  obtain⟨K,bo⟩:φ 0=.ph .GV/\sm=0:=by
   rcases h.blk 0 aj al with⟨_,a,b⟩ | ⟨⟨k,sv,a⟩,_⟩;exact⟨a,b⟩;rw[Y] at a;cases a;cases a3
  rw[K] at Y;cases Y;obtain⟨rfl⟩:c=true:=by
   rcases hh with⟨_,hm⟩ | ⟨e,_⟩;exact hm.elim;exact e
  have hj:j=F.n:=h.Dx.cj V;have am:=h.Dx.mode;rw[d9 rfl,show B.N0+F.n=gs.size by omega,LF,K] at am;obtain⟨a4,_,_⟩:=am;have ac:=h.Dx.cnt;have ap:Ds true gs.size φ 0=.ph (.Hc [] []):=by simp[Ds];omega
  rw[ap] at ac;simp only[pend,tQ] at ac;have hex:∃i,i<gs.size+1/\1<=cU (Ds true gs.size φ i)+cL (Ds true gs.size φ i)+cS (Ds true gs.size φ i):=by
   apply vN;intro a5;have ag:∀i,i<gs.size+1->cU (Ds true gs.size φ i)=0/\cL (Ds true gs.size φ i)=0/\cS (Ds true gs.size φ i)=0:=λi hi=>by
    have:¬1<=cU (Ds true gs.size φ i)+cL (Ds true gs.size φ i)+cS (Ds true gs.size φ i):=λq=>a5 ⟨i,hi,q⟩;omega
   have zero:∀f:Nat->Nat,(∀i,i<gs.size+1->f i=0)->sumTo (gs.size+1) f=0:=λf a6=>by
    have:=sumTo_le (f:=f) (c:=0) (j:=gs.size+1) (λi hi=>by rw[a6 i hi];exact jK _);omega
   have z1:=zero (λi=>cU (Ds true gs.size φ i)) λi hi=>(ag i hi).1;have bv:=zero (λi=>cL (Ds true gs.size φ i)) λi hi=>(ag i hi).2.1;have bw:=zero (λi=>cS (Ds true gs.size φ i)) λi hi=>(ag i hi).2.2;simp only[tc] at a4 ac;omega
  obtain⟨i,hi,I⟩:=hex;have aq:i≠0:=by rintro rfl;rw[ap] at I;simp[cU,cL,cS] at I
  have a7:i≠gs.size:=by rintro rfl;rw[LF,K] at I;simp[cU,cL,cS] at I
  rw[Ko aq a7] at I;have ai:i<gs.size:=by omega
  cases av:φ i with
  | gone d=>rw[av] at I;simp[cU,cL,cS] at I
  | ph pi=>
   cases aw:bt i with
   | true=>exact Z i ai pi av aw
   | false=>
    obtain⟨⟨k,sv,a8⟩,a9⟩:(∃k sv,φ i=.ph (.lk k (.Dr sv)))/\q=0:=by
     rcases h.blk i ai aw with⟨e,_⟩ | e;exact absurd e aq;exact e
    subst a9;have bb:1<=Sg pQ gs.size φ:=by
     have:=le_sumTo (f:=λa=>Ey pQ (φ a)) ai;have e:Ey pQ (φ i)=1:=by rw[a8];rfl
     simp only[e] at this;exact this
    have hb:=h.lock.ln.busy bb;have be:1<=Sg (λp=>(((((pH p+pN p)+pZ p)+pV p)+pT p)+pD p)+pX p) gs.size φ:=by
     rw[LC,LC,LC,LC,LC,LC];exact hb
    let⟨a,ay,O⟩:=bm be;cases U:φ a with
    | gone d=>rw[U] at O;simp[Ey] at O
    | ph bg=>
     rw[U] at O;cases bg<;>(try (simp[Ey] at O;done))
     rename_i k' l;cases az:bt a with
     | true=>exact Z a ay _ U az
     | false=>
      rcases h.blk a ay az with⟨e,a0,_⟩ | ⟨⟨bx,bz,e⟩,_⟩;subst e;rw[U] at a0;cases a0;rw[U] at e;cases e;simp[Ey,pH,pN,pZ,pV,pT,pD,pX] at O
theorem Inv.step(h:Inv P F B gs w t φ r bt S Sh j c v wt' sm m q f)(ag:∀k v E E',Le E E'->F.msg k v E->F.msg k v E'):
  ∃gs' w' al u,stepT P (crowd gs w sl)=(.next (crowd gs' w' al),u)/\
  ((∃φ' r' a0 S' a7 ai a8 v' a9 sm' m' q' bb,Inv P F B gs' w' (t++u) φ' r' a0 S' a7 ai a8 v' a9 sm' m' q' bb/\Mu.lt (mu F gs'.size φ' m' q' r' a0) (mu F gs.size φ m q r bt))∨UR P F B gs' w' (t++u)):=by
 have b5:=h.size;have be:∀x∈gs,awake x:=by
  intro x I;obtain⟨i,hi,rfl⟩:=wk.1 I;exact(h.MZ i _ (tl hi)).awake
 let⟨i,g,d,al,hi,a1,bg⟩:=crowd_pick (P:=P) (w:=w) (sl:=sl) be h.runs
 suffices JM P F B gs (w.at d) al t i (mu F gs.size φ m q r bt) by
  obtain⟨gs',w',bi,u,am,ap⟩:=this;exact⟨gs',w',bi,u,bg.trans am,ap⟩
 have K:=h.at_ d;have a2:i<gs.size:=(f7.1 hi).1;have hs:=h.MZ i g hi;generalize I:φ i=x at hs;generalize a3:r i=ρ at hs;generalize hb:bt i=b at hs;generalize a4:loc x (S i)=s at hs;cases hs with
 | blk _ _ _=>cases a1
 | gone hm a5=>exact K.slip hi a1 I a3 hm a5
 | @walk p _ _ _ hm a5 hj=>
  have bn:JQ (Stop P F p) g s∨∃f,ρ=.node f/\(∀w,Fits s w->∃g' s' w' es,stepG P (i==0) g w=.go g' w' es/\Jr P (i==0) (JQ (Stop P F p)) (f w) g' s'/\Fits s' w'/\Fr s w s' w'/\(∀e∈es,Ev s w w' e)/\(s=.quiet->s'=.quiet/\w'=w/\es=#[])):=by
   cases ρ with
   | leaf=>exact .inl hj
   | node f=>
    rcases hj with q | ⟨_,q⟩;exact .inl q;exact .inr ⟨f,V,q⟩
  rcases bn with⟨s₀,hg,O⟩ | ⟨f0,rfl,hgo⟩
  .subst a4;have U:Fam.DX p=false->C7 (S i) s₀:=λe=>by simpa [loc,I9,e] using hg
   by_cases c1:∃k l,p=.lk k l
   .obtain⟨k,l,rfl⟩:=c1;by_cases c2:l=.GY;subst c2;exact K.store hi I hm (U V) O
    by_cases c3:(∃sv,l=.Dr sv)/\q=0;obtain⟨⟨sv,rfl⟩,c3⟩:=c3;exact K.block hi I hb hm (U V) O (.inr ⟨⟨k,sv,V⟩,c3⟩)
    exact K.Cy ag hi I c2 hm (U V) O λsv e aq=>c3 ⟨⟨sv,e⟩,aq⟩
   by_cases c2:∃ai,p=.Hi ai
   .obtain⟨ai,rfl⟩:=c2;have Z:i=0:=by simpa [Fam.Dw] using hm
    subst Z;exact K.spawn hi I (U V) O
   by_cases c3:p=.HH
   .subst c3;have Z:i=0:=by simpa [Fam.Dw] using hm
    subst Z;exact K.over ag hi I (U V) O _
   by_cases c4:p=.GV/\sm=0;obtain⟨rfl,c4⟩:=c4;exact K.block hi I hb hm (U V) O (.inl ⟨V,c4⟩)
   have bo:∃av,av<gs.size+c.toNat/\Ds c gs.size φ av=.ph p:=by
    by_cases e:i=0
    .subst e;cases c with
     | false=>exact⟨0,AB,by rw[K5];exact I⟩
     | true=>exact⟨gs.size,AM,by rw[LF];exact I⟩
    .exact⟨i,AB,by rw[Ko e AB];exact I⟩
   have bv:p=.GV->sm=1:=by
    rintro rfl;have Z:i=0:=by simpa [Fam.Dw] using hm
    subst Z;obtain⟨p0,ac,_,hh⟩:=h.main;rw[I] at ac;cases ac;obtain rfl:c=true:=by
     rcases hh with⟨_,hm⟩ | ⟨e,_⟩;exact hm.elim;exact e
    have hj:=h.Dx.cj V;have a6:=h.Dx.mode;rw[d9 rfl,show B.N0+F.n=gs.size by omega,LF,I] at a6;obtain⟨b6,_⟩:=a6;have:sm≠0:=λq=>c4 ⟨rfl,q⟩;omega
   obtain⟨av,bw,bx⟩:=bo;have aj:(∀k,p≠ .IB k)/\p≠ .Ic/\(∀aw vs,p≠ .Hc aw vs)/\p≠ .I8:=by
    by_cases e:i=0;subst e;have ay:=h.mn;rw[I] at ay;obtain⟨p0,ac,_,hh⟩:=h.main;rw[I] at ac;cases ac;refine⟨λk e=>?_,λe=>?_,λaw vs e=>?_,λe=>?_⟩;subst e;rcases hh with⟨_,Y⟩ | ⟨_,Y⟩<;>exact Y.elim;subst e;exact ay.1 V;subst e;rcases hh with⟨e,Y⟩ | ⟨_,Y⟩;have:=Y.2;rw[e] at this;cases this;exact Y.elim;subst e;exact ay.2 V
    .rcases h.F0 a2 with aq | ⟨_,d,hd,_⟩ | ⟨k',ca,cc,_,hw⟩;exact absurd aq e;rw[I] at hd;cases hd
     .rw [I] at hw;refine⟨λk e=>?_,λe=>?_,λaw vs e=>?_,λe=>?_⟩<;>subst e;exact absurd hw.2 uz
      all_goals exact hw.elim
   let⟨v',w',sm',es,ce,bz⟩:=h.Dx.enabled bw bx aj.1 (λk e=>c2 ⟨k,e⟩) aj.2.1 aj.2.2.1 aj.2.2.2 bv c3 λk l e=>c1 ⟨k,l,e⟩;exact K.act ag hi I hm hg O bz
  .subst a4;have b0:Fits (loc (.ph p) (S i)) (w.at d):=by
    have:=K.CP.fits i a2;unfold loc;split;exact⟨λb o az=>(by cases az),λb o az=>(by cases az),λb hb=>V⟩;exact this
   let⟨g',s',w',es,am,ap,b1,b2,b3,b4⟩:=hgo (w.at d) b0;exact K.own ag hi I hm am ap b1 b2 b3 b4 (by rw[a3];exact⟨f0,_,rfl,rfl⟩)
theorem Inv.run(Y:∀k v E E',Le E E'->F.msg k v E->F.msg k v E'):∀(I:Mu) (gs:Array Goroutine) (w:World) (sl:Option (Nat×Nat)) (t:Trace) (φ:Nat->Nx) (r:Nat->Rk) (bt:Nat->Bool) (S:Nat->St) (Sh:Nat->Prop) (j:Nat) (c:Bool) (v wt' sm:Nat) (m:M4) (q:Nat) (f:Nat->Value),
  mu F gs.size φ m q r bt=I->Inv P F B gs w t φ r bt S Sh j c v wt' sm m q f->∃n gs' w' K O,runNT P n (crowd gs w sl) t=(.next (crowd gs' w' K),O)/\UR P F B gs' w' O:=by
 intro I
 induction I using Mu.wf.induction with
 | _ I Z=>
  intro gs w sl t φ r bt S Sh j c v wt' sm m q f ac h;let⟨gs',w',K,u,U,hh⟩:=h.step (sl:=sl) Y;rcases hh with⟨φ',r',ag,S',ai,aj,al,v',am,sm',m',q',ap,aq,av⟩ | aw;let⟨n,ay,az,a0,a1,a2,a3⟩:=Z _ (ac▸av) gs' w' K (t++u) φ' r' ag S' ai aj al v' am sm' m' q' ap V aq;exact⟨n+1,ay,az,a0,a1,PM U a2,a3⟩;exact⟨1,gs',w',K,t++u,PM U V,aw⟩
end
def Ly(H:LH)(a b c:Nat):LH:=λx=>if x=c then none else if x=b then none else if x=a then none else H x
theorem gn{P:Program}(F:Fam){s:St}{ai:Nat->Value}(aq:1<=F.n)(a3:F.n<134217728)(a4:∀k v E E',Le E E'->F.msg k v E->F.msg k v E')
  (av:F.mu≠F.wg) (aw:F.fd≠F.wg) (ay:F.fd≠F.mu) (Z:s.H F.wg=some (F.Jo 0 0)) (ac:s.H F.mu=some (F.Jp 0 0)) (aj:s.H F.fd=some (F.Kc ai))
  (a5:Way P true (Stop P F (.HE 0)) g ⟨s.E,Ly s.H F.wg F.mu F.fd,false⟩) (a6:∀g s,F.fin g s->(H7 P).ok Q g s):(H7 P).ok Q g s:=by
 intro gs w sl t q Sh hC;have U:0<gs.size:=(f7.1 hC.main).1;let s1:St:={s with H:=λb=>if b=F.wg then none else s.H b}
 let s2:St:={s with H:=λb=>if b=F.mu then none else s1.H b}
 have az:lone s 0=s:=V;have c1:Cu t w gs.size (upd (lone s) 0 s1) (λb=>Sh b∨b=F.wg):=by
  have:=hC.CP.share (i:=0) U (b₀:=F.wg) (o₀:=F.Jo 0 0) (by rw[az];exact Z);exact this
 have c2:Cu t w gs.size (upd (upd (lone s) 0 s1) 0 s2) (λb=>(Sh b∨b=F.wg)∨b=F.mu):=by
  have:=c1.share (i:=0) U (b₀:=F.mu) (o₀:=F.Jp 0 0) (by rw[upd_same];simp[s1,av,ac]);refine this.congr λi hi=>?_;by_cases e:i=0;subst e;simp only[upd_same];exact⟨V,V⟩;have h:∀(f:Nat->St) (x:St),upd f 0 x i=f i:=λf x=>upd_ne f x e;constructor<;>simp only[h]
 have c3:Cu t w gs.size (upd (upd (upd (lone s) 0 s1) 0 s2) 0 ⟨s.E,Ly s.H F.wg F.mu F.fd,false⟩) (λb=>((Sh b∨b=F.wg)∨b=F.mu)∨b=F.fd):=by
  have:=c2.share (i:=0) U (b₀:=F.fd) (o₀:=F.Kc ai) (by rw[upd_same];simp[s2,s1,aw,ay,aj]);refine this.congr λi hi=>?_;by_cases e:i=0;subst e;simp only[upd_same];exact⟨V,V⟩;have h:∀(f:Nat->St) (x:St),upd f 0 x i=f i:=λf x=>upd_ne f x e;constructor<;>simp only[h]
 have Y:∀b,s.H b≠none->∀x a,touchAt t x=some a->DY a.loc=some b->Knows t 0 x:=λb hb=>hC.CP.kH 0 U b (by rw[az];exact hb);have al:=hC.CP.fits 0 U;obtain⟨ρ,a7⟩:=a5;let φ:Nat->Nx:=λi=>if i=0 then .ph (.HE 0) else .gone (Deaf t i)
 have z:∀f:Nx->Nat,(∀d,f (.gone d)=0)->f (.ph (.HE 0))=0->(sumTo gs.size λi=>f (φ i))=0:=by
  intro f a0 a1;have:=sumTo_le (f:=λi=>f (φ i)) (c:=0) (j:=gs.size) λi _=>by
   show f (φ i)<=0;by_cases e:i=0;simp[φ,e,a1];simp[φ,e,a0]
  omega
 have K:∀f:LP->Nat,Sg f gs.size φ=0:=λf=>z (Ey f) (λ_=>rfl) rfl;have a8:∀i,(upd (upd (upd (lone s) 0 s1) 0 s2) 0 ⟨s.E,Ly s.H F.wg F.mu F.fd,false⟩) i=if i=0 then⟨s.E,Ly s.H F.wg F.mu F.fd,false⟩ else .quiet:=by
  intro i;by_cases e:i=0;subst e;rw[upd_same];rfl;rw[upd_ne _ _ e,upd_ne _ _ e,upd_ne _ _ e];simp[lone,e]
 have a9:F.Jo (Fam.word 0 0) (0:Nat)=F.Jo 0 0:=by simp[Fam.word]
 have bb:F.Jp M4.zero.num (0:Nat)=F.Jp 0 0:=by simp[M4.num,M4.zero]
 have a2:∀i,i<gs.size->(i=0∨gs.size<=i)->i=0:=λi hi ag=>by omega
 have be:Inv P F ⟨gs.size,t.size,s.E,w⟩ gs w t φ (λi=>if i=0 then ρ else chain (q i)) (λ_=>true) (upd (upd (upd (lone s) 0 s1) 0 s2) 0 ⟨s.E,Ly s.H F.wg F.mu F.fd,false⟩) (λb=>((Sh b∨b=F.wg)∨b=F.mu)∨b=F.fd) 0 false 0 0 0 M4.zero 0 ai:=by
  refine⟨?_,⟨?_,λi hi=>?_⟩,⟨λi hi=>?_,λi hi=>hC.lv.above i hi,λx a b I hb am O i hi ag=>?_,λx a b I hb am O=>?_,λx a I hb=>.inl λi hi ag=>?_,λx g hg bg bi=>.inl (hC.over x g hg bg bi),λx I e=>?_,jK _,λk O=>by omega⟩,λi g' ap=>?_,c3,.inl (.inl (.inr V)),.inl (.inr V),.inr V,av,aw,ay,a3,by simp[φ],?_,?_,al.h _ _ aj,λi hi hb=>(by cases hb),λk O=>AB,?_,V,.refl _,V⟩
  .rw [K5];refine⟨U,aq,AB,AM,tz _,AM,⟨.HE 0,V,V,aq,V⟩,λi a0 a1=>?_,λk O=>by omega,AM,?_,by simp[φ,pend],?_,λk O=>by omega,.nil,λk O=>by cases O⟩
   .have:i≠0:=by omega
    simp[φ,this,Rl]
   have:=z cU (λ_=>rfl) rfl;simp only[sY,tQ];rw[this];simp[φ,pend];simp only[s5,tP,EV];exact⟨z cL (λ_=>V) V,z cS (λ_=>V) V,trivial,trivial,trivial⟩
  rw[K,K,K,K,K,K,K,K];simp[LN,M4.zero];by_cases e:i=0;simp[φ,e,R3];simp[φ,e,R3];by_cases e:i=0;subst e;simp[φ,Hh];exact hC.hears;simp[φ,e,Hh];obtain rfl:=a2 i hi ag;rcases am with rfl | rfl;exact Y _ (by rw[Z];simp) x a I hb;exact Y _ (by rw[ac];simp) x a I hb;rcases am with rfl | rfl;exact Y _ (by rw[Z];simp) x a I hb;exact Y _ (by rw[ac];simp) x a I hb;obtain rfl:=a2 i hi ag;exact Y _ (by rw[aj];simp) x a I hb;have:=lt_of_act? e;have cw:t.size<=x:=I;omega
  .rw [a8];by_cases e:i=0;subst e;rw[hC.main] at ap;obtain rfl:=f8 ap;simp only[tS,φ];exact .walk V (λh=>by cases h) a7
   .have hm:(i==0)=false:=by rw[beq_eq_false_iff_ne];exact e
    simp only[e,tP,φ];exact .gone hm (hC.lv.old i g' AB ap)
  show w.heap[F.wg]?=_;rw[a9];exact al.h _ _ Z;show w.heap[F.mu]?=_;rw[bb];exact al.h _ _ ac;rw[upd_same];exact BQ _
 refine let⟨n,gs',w',bn,bo,bv,q',bw,g',s',bx,bz,hle,b0,b1,b2⟩:=Inv.run a4 _ _ _ sl _ _ _ _ _ _ _ _ _ _ _ _ _ _ V be;let⟨n2,b3,w2,b4,t2,b5,b6,g2,ca,k1,cc,ce,ci,co,cp,ct⟩:=a6 g' s' bz gs' w' bn bo q' bw bx;⟨n+n2,b3,w2,b4,t2,b5,b6,g2,ca,?_,cc,ce,λb o h=>ci b o (hle b o h),co.trans b0,b1.trans cp,ct.trans b2⟩;rw[runNT_add,bv];exact k1
end Pal
namespace Pal
open Go Go.Conc
variable {ops:Ao_}{i:Nat}{rest:List Nat}{d:Option Tmp}{f:FuncId}{args:Array Operand}{ats:Array TypeId}{ty:TypeId}{pp:String}{af:Ae_}{g:On_}{vs:Lv_}{p q:Ph}
variable{fn:Func}{w:World}{sm v':Nat}{T:Av_}{ad:Addr}
section
variable {P:Program}{F:Fam}{J:Judge P}{Q:GP}{n:Nat}{L L':Env}{ds:Ld_}{k:Li_}{cs:Lf_}{s s':St}{b:Frame}{main:Bool}
theorem Ci(hb:b.roundOf=none)(T:Av_)(todo:Li_):fr b T ds todo=b.at ⟨T,ds⟩ todo:=by simp[fr,Frame.at,hb]
theorem Nm(hb:b.roundOf=none)(T:Av_)(todo:Li_):FL b T ds todo={b.at ⟨T,ds⟩ todo with mode:=.returning}:=by simp[FL,Frame.at,hb]
theorem F5(T:Av_)(ds:Ld_)(x:Operand):(⟨T,ds⟩:Act).eval x=BZ T x:=by cases x<;>rfl
theorem Fz(T:Av_)(ds:Ld_)(d:Option Tmp)(v:Value):(⟨T,ds⟩:Act).put d v=⟨DU T d v,ds⟩:=by cases d<;>rfl
def JO(J:Judge P)(Q:GP)(b:Frame)(n:Nat)(L:Env)(ds:Ld_)(cs:Lf_)(s:St):Prop:=
 ∀T,Has n L T->∀todo,J.ok Q (G (FL b T ds todo) cs) s
theorem JL.out(I:b.roundOf=none)(h:JO J Q b n L ds cs s):JL J Q b n L ds [] cs s:=λT K=>
 Bk V (λw=>by simp[G,stepG,stepG.exec,fr,FL,I]) (h T K [])
abbrev H3:=@JL.out
theorem IX(I:b.roundOf=none)(h:JO J Q b n L ds cs s):JL J Q b n L ds (.code .ret::k) cs s:=λT K=>
 Bk V (λw=>by simp[G,stepG,stepG.exec,fr,FL,I]) (h T K (.code .ret::k))
theorem JO.leave{c:Frame}{v:Value}(K:b.kind=.normal)(I:BY P b.fn L n s v)(h:J.ok Q (G (c.finish v) cs) s):JO J Q b n L [] (c::cs) s:=λT O todo=>by
 obtain⟨fn,U,I⟩:=I
 exact G5 K U (I T O) h
abbrev D4:=@JO.leave
theorem JO.leaveD{c:Frame}(K:b.kind=.deferred)(O:P.funcs[b.fn]?=some fn)(I:fn.results=#[])(U:c.mode=.returning∨c.mode=.panicking [goexitEntry])(h:J.ok Q (G c cs) s):JO J Q b n L [] (c::cs) s:=λT Z todo=>by
 refine Bk rfl (λw=>?_) h
 have Y:=results_none I T P w
 have e2:=λ(x:Array Event)=>events_results_none (P:=P) (w:=w) I T x
 rcases U with e | e<;>simp[G,stepG,unwind,FL,O,Y,e2,doReturn,K,GStep.after,seen_none,e,goexitEntry]
abbrev Ga:=@JO.leaveD
theorem JO.enter{f:FuncId}{c:Code}{vs:Lv_}(K:b.roundOf=none)(U:P.funcs[f]?=some fn)(Y:(fn.name== "runtime.NumGoroutine")=false)(hb:fn.body=some c)(ag:vs.length<=fn.ntmps)
  (h:∀T,Has n L T->∀todo,JL J Q (baseD f) fn.ntmps (HD 0 vs) [] [.code c] (FL b T ds todo::cs) s):JO J Q b n L (dcall f vs.toArray::ds) cs s:=λT Z todo=>by
 refine Bk rfl (λw=>?_) (h T Z todo (vs.toArray++Array.replicate (fn.ntmps - vs.length) undef) ⟨by simp;omega,λt v ht=>?_⟩)
 .rw [Nm K,stepG_unwind_enter (a:=⟨T,dcall f vs.toArray::ds⟩) rfl U Y hb,Nm K]
  rw[Ci (b:=baseD f) rfl];simp
 .let⟨_,I⟩:=Ln ht;have ac:t<vs.length:=by
   rcases mt t vs.length with O | O;exact O;simp at I;have:=(d7.1 I).1;omega
  rw[no,ua (by simpa using ac)];simp at I;simp[I]
theorem JL.defer{ops:Ao_}{i:Nat}{rest:List Nat}{d:Option Tmp}{f:FuncId}{args:Array Operand}{ats:Array TypeId}{ty:TypeId}{p:String}{af:Ae_}{g:On_}{vs:Lv_}
  (O:ops[i]?=some ⟨d,.defer ⟨.value (.func f),args,ats⟩,ty,p,af,g⟩) (U:b.roundOf=none) (hw:A9 L ops ⟨d,.defer ⟨.value (.func f),args,ats⟩,ty,p,af,g⟩=some true) (I:((b.kind != .early)&&BC n d)=true)
  (Y:evs L args.toList=some vs) (h:JL J Q b n (AG L d undef) (dcall f vs.toArray::ds) (Ah ops rest k) cs s):
  JL J Q b n L ds (Ag ops i rest k) cs s:=λT K=>by
 simp only[f6] at I
 have Z:args.map (BZ T)=vs.toArray:=by
  rw[← HP K.Hu Y];apply ut;simp
 refine DI O (CI K hw) (by simpa using I.1) (.inl U) ?_;have hd:execOp (BZ T) ⟨d,.defer ⟨.value (.func f),args,ats⟩,ty,p,af,g⟩=.pure (.defer (dcall f vs.toArray)):=by
  simp only[execOp,resolve,bind,Sem.bind,Deferred.ofValue,BZ,pure,dcall];rw[Z];simp
 rw[hd];exact h _ (K.put I.2 undef)
abbrev IH:=@JL.defer
def Nu:Ph->Bool
 | .IB _ | .Hi _ | .Ic | .Hc _ _ | .I8 | .GV | .HH | .lk _ _=>false
 | _=>true
theorem Kj{p:Ph}{g:Goroutine}(I:Nu p=true)(U:g.status=.running)(Y:g.offers=none)(K:if Fam.DX p=true then s=.quiet else s.q=false)(Z:p=.GF->mayWake P g=true)
  (h:∀v wt sm v' wt' sm' es O,F.act p v wt sm=some ((v',wt',sm'),es,O)->∃g',(∀w,F.WG w v wt sm->stepG P (Fam.Dw p) g w=.go g' (F.put w v' wt' sm') es)/\g'.status=.running/\Pe P (Stop P F) (Fam.Dw p) O g' (Fam.Lg p s)):Stop P F p g s:=
 Ij.stop {
  run:=U
  offers:=Y
  quiet:=λe=>by rw[d9 e] at K;exact K
  live:=λe=>by rw[d0 (by rw[e];simp)] at K;exact K
  act:=h
  Ky:=λe=>by rcases e with e | ⟨k,b,e⟩;exact Z e;subst e;cases I
  Gs:=λe=>by subst e;cases I
  go:=λj e=>by subst e;cases I
  lk:=λk l e=>by subst e;cases I
  Dr:=λk sv e=>by subst e;cases I
  store:=λk e=>by subst e;cases I
  fin:=λe=>by subst e;cases I}
theorem Ng{v wt:Nat}(h:F.WG w v wt sm):F.put w v wt sm=w:=by
 unfold Fam.put;have:w.heap.setIfInBounds F.wg (F.Jo (Fam.word v wt) sm)=w.heap:=by
  apply tY;intro i;by_cases e:F.wg=i
  .subst e;unfold Fam.WG at h;have K:F.wg<w.heap.size:=by
    rcases mt F.wg w.heap.size with I | I;exact I;simp[ta I] at h
   rw[sT K,h]
  .rw [sN e]
 rw[this]
theorem Km{v wt:Nat}(h:F.WG w v wt sm):w.cell? F.sA=some (.int .u64 (Fam.word v wt))/\w.cell? F.mA=some (.int .u32 sm)/\w.frozen? F.sA=false/\w.frozen? F.mA=false:=by
 unfold Fam.WG Fam.Jo at h;refine⟨?_,?_,?_,?_⟩;simp[World.cell?,Fam.sA,h];simp[World.cell?,Fam.mA,h];simp[World.frozen?,Fam.sA,h];simp[World.frozen?,Fam.mA,h]
theorem PQ{v wt wt':Nat}(h:F.WG w v wt sm):w.setCell F.sA (.int .u64 (Fam.word v' wt'))=F.put w v' wt' sm:=by
 unfold Fam.put World.setCell;congr 1;apply tY;intro i;unfold Fam.WG Fam.Jo at h;rw[uv];have K:F.wg<w.heap.size:=by
  rcases mt F.wg w.heap.size with I | I;exact I;simp[ta I] at h
 by_cases e:F.wg=i;subst e;rw[sT K,h];simp[Fam.sA,Fam.Jo];rw[sN e];simp[Fam.sA,e]
theorem VJ{v wt sm':Nat}(h:F.WG w v wt sm):w.setCell F.mA (.int .u32 sm')=F.put w v wt sm':=by
 unfold Fam.put World.setCell;congr 1;apply tY;intro i;unfold Fam.WG Fam.Jo at h;rw[uv];have K:F.wg<w.heap.size:=by
  rcases mt F.wg w.heap.size with I | I;exact I;simp[ta I] at h
 by_cases e:F.wg=i;subst e;rw[sT K,h];simp[Fam.mA,Fam.Jo];rw[sN e];simp[Fam.mA,e]
structure CH (P:Program) (f:FuncId) (e:Av_->Sem Value):Prop where
 h:∃fn,P.funcs[f]?=some fn/\(fn.name== "runtime.NumGoroutine")=false/\fn.body.isNone=true/\Extern.findNext fn=none/\Extern.find fn=some e
theorem LJ(I:Has n L T)(K:evs L args.toList=some vs):args.map (⟨T,ds⟩:Act).eval=vs.toArray:=by
 have:(⟨T,ds⟩:Act).eval=BZ T:=funext λx=>F5 T ds x;rw[this,← HP I.Hu K];apply ut;simp
theorem Ot{m:Mark}(Y:Nu p=true)(Z:if Fam.DX p=true then s=.quiet else s.q=false)(ac:p≠ .GF)(ag:∀v wt sm,F.act p v wt sm=some ((v,wt,sm),#[Fam.DF m],.ph q))(ai:Fam.Lg p s=s)
  (aj:ops[i]?=some ⟨d,.call ⟨.value (.func f),args,ats⟩,ty,pp,af,g⟩) (K:b.roundOf=none) (hw:A9 L ops ⟨d,.call ⟨.value (.func f),args,ats⟩,ty,pp,af,g⟩=some true) (I:((b.kind != .early)&&BC n d)=true)
  (hm:∀x,m≠ .extern x) (he:CH P f (λ_=>do mark m;pure Extern.Race.none_))
  (h:JL (Bo P (Fam.Dw p)) (Stop P F q) b n (AG L d (.tuple #[])) ds (Ah ops rest k) cs s):
  JL (Bo P (Fam.Dw p)) (Stop P F p) b n L ds (Ag ops i rest k) cs s:=λT O=>by
 simp only[f6] at I
 obtain⟨fn,al,am,hb,ap,he⟩:=he.h
 refine(Bo P _).stop (Kj Y rfl rfl Z (λe=>absurd e ac) λv wt sm v' wt' sm' es av U=>?_)
 rw[ag] at U;cases U
 refine⟨_,λw aq=>?_,rfl,by rw[ai];exact h _ (O.put I.2 _)⟩
 rw[Ci K,Ci K,stepG_mark0 (a:=⟨T,ds⟩) m hm aj (CI O hw) (by simpa using I.1) rfl al am hb ap he,Ng aq,Fz]
 rfl
theorem SU{mk:Addr->Mark}(Y:Nu p=true)(Z:if Fam.DX p=true then s=.quiet else s.q=false)(ac:p≠ .GF)(ag:∀v wt sm,F.act p v wt sm=some ((v,wt,sm),#[Fam.DF (mk ad)],.ph q))
  (ai:ops[i]?=some ⟨d,.call ⟨.value (.func f),args,ats⟩,ty,pp,af,g⟩) (O:b.roundOf=none) (hw:A9 L ops ⟨d,.call ⟨.value (.func f),args,ats⟩,ty,pp,af,g⟩=some true) (I:((b.kind != .early)&&BC n d)=true)
  (hm:∀ad x,mk ad≠ .extern x) (he:CH P f (Extern.Race.marked mk)) (aj:evs L args.toList=some vs) (al:vs[0]?=some (.pointer (some ad)))
  (h:JL (Bo P (Fam.Dw p)) (Stop P F q) b n (AG L d (.tuple #[])) ds (Ah ops rest k) cs (Fam.Lg p s)):
  JL (Bo P (Fam.Dw p)) (Stop P F p) b n L ds (Ag ops i rest k) cs s:=λT K=>by
 simp only[f6] at I
 obtain⟨fn,am,ap,hb,aq,he⟩:=he.h
 refine(Bo P _).stop (Kj Y rfl rfl Z (λe=>absurd e ac) λv wt sm v' wt' sm' es aw U=>?_)
 rw[ag] at U;cases U
 refine⟨_,λw av=>?_,rfl,h _ (K.put I.2 _)⟩
 rw[Ci O,Ci O,stepG_markAt (a:=⟨T,ds⟩) mk hm ai (CI K hw) (by simpa using I.1) rfl am ap hb aq he (ad:=ad) (by rw[LJ K aj];simpa using al),Ng av,Fz]
 rfl
end
variable {E:LH}{S:List Seg}{j l:Nat}{o':Obj}
section
variable {H:LH}{o:Obj}
theorem Mk(aj:Aw E H S)(U:S[j]?=some [(l,o)])(o':Obj):(Ao E H S).upd l o'=Ao E H (S.set j [(l,o')])/\Aw E H (S.set j [(l,o')]):=by
 let⟨I,Y⟩:=HS aj U;have O:=Nd.iff.1 Y;have Z:E l=none:=(O.2 (l,o) AM).1;have al:H l=none:=(O.2 (l,o) AM).2;have ac:Nd E H (S.set j []).flatten:=Lo.Nd.left Y;have am:∀q∈(S.set j []).flatten,q.1≠l:=λq K e=>by
  have:=O.1;rw[tE,tU] at this;exact this.2.2 q.1 (vl K) l AM e
 have ag:Bu (S.set j []).flatten H l=none:=by
  have key:∀(B:List (Nat×Obj)),(∀q∈B,q.1≠l)->Bu B H l=none:=by
   intro B
   induction B with
   | nil=>intro _;exact al
   | cons q B ap=>
    intro K;obtain⟨c,aq⟩:=q;have ai:l≠c:=λe=>K (c,aq) AM e.symm;have I:=ap λq' av=>K q' (kW _ av);simp only[Bu]
    first
    | rw[d0 ai];exact I
    | rw[d0 (ti ai)];exact I
  exact key _ am
 refine have f1:=Mg (E:=E) (H:=H) (B:=(S.set j []).flatten) (r:=l) Z ag o ac;have f2:=Mg (E:=E) (H:=H) (B:=(S.set j []).flatten) (r:=l) Z ag o' ac;let⟨g1,g2⟩:=Kq (seg:=[(l,o)]) U f2.1;⟨?_,g2⟩;rw[I,← g1,← f1.2,← f2.2];unfold St.upd;congr 1;funext x;by_cases aw:x=l<;>simp[aw]
end
variable {P:Program}{J:Judge P}{Q:Gs_}{b:Frame}{L:Env}{ds:Ld_}{k:Li_}{cs:Lf_}
variable{r:Loop}{caps:Lv_}
section
variable {n:Nat}{H:LH}
theorem Judge.Gs{α:Type}{g:Goroutine}{g':α->Goroutine}{s:St}(x:Sem α)(Z:s.q=false)(ac:g.status=.running)
  (ag:∀w a w',x.run P w=.ok a w'->∃es,stepG P J.main g w=.go (g' a) w' es/\∀e∈es,e∈x.events P w #[])
  (h:lp P x s (λa s'=>J.ok Q (g' a) s') (λ_ _=>False)):J.ok Q g s:=by
 refine J.step ⟨ac,λw f=>?_,λe=>by subst e;cases Z⟩;let⟨s',K,O,U,I⟩:=P4 _ h f;cases Y:x.run P w with
 | ok a w'=>
  rw[Y] at K O U I;simp only[MI] at K O U;let⟨es,he,hm⟩:=ag w a w' Y;exact⟨g' a,s',w',es,he,I,K,O,λe ai=>U e (hm e ai)⟩
 | halt a w'=>rw[Y] at I;exact I.elim
abbrev F3:=@Judge.Gs
theorem PL{s:St}{I:Loop->St->Prop}{X:Halt->St->Prop}(h:s.get l=some (.loop r))(k:I r s):lp P (Instr.getLoop l) s I X:=by
 unfold Instr.getLoop getObj;simp only[bind,Sem.bind,lp];exact⟨_,h,V,k⟩
theorem Z4(j:Nat)(I:Aw E H S)(K:S[j]?=some [(l,.loop r)])(hs:(r.state== .busy)=false)(O:r.pending=none)
  (h:Aw E H (S.set j [(l,.loop {r with state:=.exhausted})])->J.ok Q (G (fr b T ds k) cs) (Ao E H (S.set j [(l,.loop {r with state:=.exhausted})]))):
  J.ok Q (G (fr b T ds (.endRangeFunc l::k)) cs) (Ao E H S):=by
 let⟨u1,u2⟩:=Mk I K (.loop {r with state:=.exhausted});have U:lp P (Instr.endLoop l) (Ao E H S) (λa s'=>a=none/\s'=Ao E H (S.set j [(l,.loop {r with state:=.exhausted})])) (λ_ _=>False):=by
  unfold Instr.endLoop;refine AH _ _ (PL (Ew (i:=0) I K V) ?_);rw[d0 (by rw[hs];simp)];have Y:(Ao E H S).H l=some (.loop r):=by
   have:=Ew (i:=0) I K V;have Z:E l=none:=Rt I K;unfold St.get at this;rw[show(Ao E H S).E l=none from Z] at this;exact this
  simp only[bind,Sem.bind,lp,setObj,pure];exact ⟨⟨_,Y,V⟩,V,O,u1⟩
 refine F3 (g':=λac=>G (fr b T ds ((ac.map Item.code).toList++k)) cs) (Instr.endLoop l) V V (λw a w' ag=>?_) (Fy _ U (λa s' ⟨ai,aj⟩=>by subst ai aj;exact h u2) (λ_ _ h=>h));refine⟨seen P b.fn ((Instr.endLoop l).events P w #[])++ #[],?_,λe he=>?_⟩;simp[G,stepG,stepG.exec,fr,ag,GStep.after];exact mem_seen (by simpa using he)
def Zi(l:Nat)(f:FuncId):Frame:={(default:Frame) with fn:=f,kind:=.normal,roundOf:=some l}
theorem Im.yield{t:Tmp}{v:Value}{B:Seg}{R:Value->LH->Seg->Prop}{i:Nat}(I:B[i]?=some (l,.loop r))(K:r.params=#[t])
  (h:∀(Q:Gs_) (O:Frame) (cs:Lf_) (H:LH),Aw E H [B]->(∀w E' S' B',Le E E'->S'.flatten=B'->R w E' B'->Aw E' H S'->J.ok Q (G (O.finish w) cs) (Ao E' H S'))->
   J.ok Q (G (fr (Zi l r.fn) (r.tmps.setIfInBounds t v) [] [.code r.assign,.beginRound,.code r.body]) (O::cs)) (Ao E H [B])):
  Im J (.func (.yield l) #[] #[]) [v] E B R:=λH U Q c cs Y=>by
 have hg:(mk E H B).get l=some (.loop r):=SH U I
 simp only[Deferred.ofValue,bind,Sem.bind,pure,invoke]
 unfold Instr.yield
 refine AH _ _ (PL hg ?_)
 have Z:¬((#[]:Av_)++ [v].toArray).size≠r.params.size:=by rw[K];simp
 rw[d0 Z];have e2:((r.params.zip ((#[]:Av_)++ [v].toArray)).foldl (λtmps (t,a)=>tmps.setIfInBounds t a) r.tmps)=r.tmps.setIfInBounds t v:=by rw[K];simp[Array.zip,Array.zipWith,Array.zipWithMAux]
 simp only[lp,pure];have ac:mk E H B=Ao E H [B]:=by unfold Ao;simp
 rw[e2,ac];exact h Q c cs H (by unfold Aw;simpa using U) λw E' S' B' hle I ag ai=>by
  subst I;exact Y w _ ⟨E',S'.flatten,hle,ag,ai,rfl⟩
theorem JL.beginRound(j:Nat)(O:b.roundOf=some l)(U:b.kind=.normal)(I:Aw E H S)(K:S[j]?=some [(l,.loop r)])(hs:r.state=.ready)
  (h:Aw E H (S.set j [(l,.loop {r with state:=.busy})])->JL J Q b n L ds k cs (Ao E H (S.set j [(l,.loop {r with state:=.busy})]))):
  JL J Q b n L ds (.beginRound::k) cs (Ao E H S):=λT Y=>by
 let⟨u1,u2⟩:=Mk I K (.loop {r with state:=.busy})
 have Z:lp P (Instr.beginRound l) (Ao E H S) (λ_ s'=>s'=Ao E H (S.set j [(l,.loop {r with state:=.busy})])) (λ_ _=>False):=by
  unfold Instr.beginRound;refine AH _ _ (PL (Ew (i:=0) I K rfl) ?_);have ac:(Ao E H S).H l=some (.loop r):=by
   have:=Ew (i:=0) I K rfl;have ag:E l=none:=Rt I K;unfold St.get at this;rw[show(Ao E H S).E l=none from ag] at this;exact this
  simp only[bind,Sem.bind,lp,setObj,pure,hs];exact⟨⟨_,ac,rfl⟩,rfl,u1⟩
 refine F3 (g':=λ_=>G (fr b T ds k) cs) (Instr.beginRound l) rfl rfl (λw a w' ai=>?_) (Fy _ Z (λa s' aj=>by subst aj;exact h u2 T Y) (λ_ _ h=>h));refine⟨seen P b.fn ((Instr.beginRound l).events P w #[])++ #[],?_,λe he=>?_⟩;simp[G,stepG,stepG.exec,fr,stepG.apply,O,U,ai,GStep.after,Frame.finish];exact mem_seen (by simpa using he)
theorem LQ{o:Obj}{seg:Seg}(I:Aw E H S)(K:S[j]?=some ((l,o)::seg)):(Ao E H S).H l=some o:=by
 have:=Ew (i:=0) I K V;have O:E l=none:=Rt I K;unfold St.get at this;rw[show(Ao E H S).E l=none from O] at this;exact this
theorem JL.endRound{c:Frame}(j:Nat)(O:b.roundOf=some l)(U:b.kind=.normal)(I:Aw E H S)(K:S[j]?=some [(l,.loop r)])
  (h:Aw E H (S.set j [(l,.loop {r with state:=.ready,pending:=none})])->J.ok Q (G (c.finish (.bool true)) cs) (Ao E H (S.set j [(l,.loop {r with state:=.ready,pending:=none})]))):
  JL J Q b n L [] [] (c::cs) (Ao E H S):=λT ai=>by
 let⟨u1,u2⟩:=Mk I K (.loop {r with state:=.ready,pending:=none})
 have Y:lp P (Instr.endRound l none) (Ao E H S) (λa s'=>a=.bool true/\s'=Ao E H (S.set j [(l,.loop {r with state:=.ready,pending:=none})])) (λ_ _=>False):=by
  unfold Instr.endRound;refine AH _ _ (PL (Ew (i:=0) I K rfl) ?_);simp only[bind,Sem.bind,lp,setObj,pure];exact⟨⟨_,LQ I K,rfl⟩,rfl,rfl,u1⟩
 refine F3 (g':=λv=>G (c.finish v) cs) (Instr.endRound l none) rfl rfl (λw a w' Z=>?_) (Fy _ Y (λa s' ⟨ac,ag⟩=>by subst ac ag;exact h u2) (λ_ _ h=>h));refine⟨seen P b.fn ((Instr.endRound l none).events P w #[])++ #[],?_,λe he=>?_⟩;simp[G,stepG,stepG.exec,fr,O,U,Z,GStep.after,doReturn];exact mem_seen (by simpa using he)
theorem JL.rangeFunc{x:Operand}{params:Array Tmp}{as K:Code}{f:FuncId}(al:b.roundOf=none)(am:b.kind≠ .early)(ac:ev L x=some (.func (.func f) #[] caps.toArray))(hb:ET P f=true)(ap:Aw E H S)
  (h:∀I l T,Has n L T->Aw E H (S++ [[(I,.deferred (some []))]]++ [[(l,.loop ⟨.ready,none,b.fn,T,params,as,K,I⟩)]])->
   J.ok Q (G (Frame.enter P f (.func (.yield l) #[] #[]::caps).toArray .normal) (fr b T (⟨.collected I,#[]⟩::ds) (.inRangeFunc l::k)::cs)) (Ao E H (S++ [[(I,.deferred (some []))]]++ [[(l,.loop ⟨.ready,none,b.fn,T,params,as,K,I⟩)]]))):
  JL J Q b n L ds (.code (.rangeFunc x params as K)::k) cs (Ao E H S):=λT ag=>by
 have aq:lp P (Instr.enterLoop b.fn T params as K b.roundOf) (Ao E H S) (λq s'=>∃I,q.2=[⟨.collected I,#[]⟩]/\Aw E H (S++ [[(I,.deferred (some []))]]++ [[(q.1,.loop ⟨.ready,none,b.fn,T,params,as,K,I⟩)]])/\s'=Ao E H (S++ [[(I,.deferred (some []))]]++ [[(q.1,.loop ⟨.ready,none,b.fn,T,params,as,K,I⟩)]])) (λ_ _=>False):=by
  unfold Instr.enterLoop;rw[al];simp only[newObj,bind,Sem.bind,lp,pure];refine⟨rfl,λI U Y=>?_⟩;let⟨Z,av⟩:=Mg U Y (.deferred (some [])) ap;let⟨p1,p2⟩:=Gb Z;have aw:(Ao E H S).upd I (.deferred (some []))=Ao E H (S++ [[(I,.deferred (some []))]]):=by rw[← p1,← av];rfl
  rw[aw];exact ⟨rfl,λl ay az=>let⟨a0,a1⟩:=Mg ay az (.loop ⟨.ready,none,b.fn,T,params,as,K,I⟩) p2;let⟨p3,p4⟩:=Gb a0;⟨I,rfl,p4,by rw[← p3,← a1];rfl⟩⟩
 refine F3 (g':=λq=>G (Frame.enter P f (.func (.yield q.1) #[] #[]::caps).toArray .normal) (fr b T (q.2++ds) (.inRangeFunc q.1::k)::cs)) (Instr.enterLoop b.fn T params as K b.roundOf) rfl rfl (λw a w' a2=>?_) (Fy _ aq (λa s' ⟨I,U,Y,Z⟩=>by subst Z;simp only[U];exact h I a.1 T ag Y) (λ_ _ h=>h));obtain⟨l,mk⟩:=a;have a3:BZ T x=.func (.func f) #[] caps.toArray:=ag.ev ac;obtain⟨fn,O,a4,ai⟩:∃fn,P.funcs[f]?=some fn/\(fn.name== "runtime.NumGoroutine")=false/\fn.body.isNone=false:=by
  unfold ET at hb;cases O:P.funcs[f]? with
  | none=>rw[O] at hb;cases hb
  | some fn=>
   rw[O] at hb;simp only[f6,vc] at hb;exact⟨fn,rfl,hb.1,by cases ac:fn.body<;>simp_all⟩
 refine⟨seen P b.fn ((Instr.enterLoop b.fn T params as K b.roundOf).events P w #[])++ #[],?_,λe he=>?_⟩
 .have aj:=W3 (b:=b) (ds:=mk++ds) T (.inRangeFunc l::k);simp only[fr] at aj;have a5:¬fn.name= "runtime.NumGoroutine" :=by simpa using a4
  have a6:¬fn.body=none:=by intro e;rw[e] at ai;cases ai
  have a7:BZ T (.const (.func (.yield l) #[] #[]))=.func (.yield l) #[] #[]:=rfl;simp[G,stepG,stepG.exec,fr,a2,GStep.after,stepG.apply,resolve,aj,a3,Deferred.ofValue,invoke,callFunc,O,a5,a6,am,a7,seen_none]
 .exact mem_seen (by simpa using he)
theorem JO.collected{I:Nat}(j:Nat)(ai:b.roundOf=none)(K:Aw E H S)(O:S[j]?=some [(I,.deferred (some []))])
  (h:Aw E H (S.set j [(I,.deferred none)])->JO J Q b n L ds cs (Ao E H (S.set j [(I,.deferred none)]))):JO J Q b n L (⟨.collected I,#[]⟩::ds) cs (Ao E H S):=λT U todo=>by
 let⟨u1,u2⟩:=Mk K O (.deferred none)
 have Y:lp P (Instr.takeDeferred I) (Ao E H S) (λa s'=>a=[]/\s'=Ao E H (S.set j [(I,.deferred none)])) (λ_ _=>False):=by
  unfold Instr.takeDeferred getObj;simp only[bind,Sem.bind,lp,setObj,pure];exact⟨_,Ew (i:=0) K O rfl,rfl,⟨_,LQ K O,rfl⟩,rfl,rfl,u1⟩
 refine F3 (g':=λl=>G (FL b T (l++ds) todo) cs) (Instr.takeDeferred I) rfl rfl (λw a w' Z=>?_) (Fy _ Y (λa s' ⟨ac,ag⟩=>by subst ac ag;exact h u2 T U todo) (λ_ _ h=>h));refine⟨seen P b.fn ((Instr.takeDeferred I).events P w #[])++ #[],?_,λe he=>?_⟩;simp[G,stepG,unwind,FL,Z,GStep.after];exact mem_seen (by simpa using he)
def MG(f:FuncId)(args caps:Av_):Deferred:={target:=.fn (.func f) caps,args:=args}
theorem JO.Un{f:FuncId}{c:Code}{vs:Lv_}(ai:b.roundOf=none)(K:P.funcs[f]?=some fn)(U:(fn.name== "runtime.NumGoroutine")=false)(hb:fn.body=some c)(Y:(vs++caps).length<=fn.ntmps){s:St}
  (h:∀T,Has n L T->∀todo,JL J Q (baseD f) fn.ntmps (HD 0 (vs++caps)) [] [.code c] (FL b T ds todo::cs) s):JO J Q b n L (MG f vs.toArray caps.toArray::ds) cs s:=λT Z todo=>by
 have ac:¬fn.name= "runtime.NumGoroutine" :=by simpa using U
 refine Bk rfl (λw=>?_) (h T Z todo ((vs++caps).toArray++Array.replicate (fn.ntmps - (vs++caps).length) undef) ⟨by simp;simp at Y;omega,λt v ht=>?_⟩);rw[Ci (b:=baseD f) rfl];have:=enter_atD (P:=P) (vs++caps).toArray K hb;simp only[uR] at this;rw[← this];simp[G,stepG,unwind,callDeferred,FL,MG,invoke,callFunc,K,ac,hb,GStep.after,seen_none]
 .let⟨_,I⟩:=Ln ht;have ag:t<(vs++caps).length:=by
   rcases mt t (vs++caps).length with O | O;exact O;simp only[uO] at I;have:=(d7.1 I).1;omega
  rw[no,ua (by simpa using ag)];simp only[uO] at I;rw[tq,I];rfl
theorem cf{ops:Ao_}{i:Nat}{rest:List Nat}{d:Option Tmp}{x:Operand}{f:FuncId}{args:Array Operand}{ats:Array TypeId}{ty:TypeId}{p:String}{af:Ae_}{g:On_}{vs:Lv_}{s:St}
  (O:ops[i]?=some ⟨d,.defer ⟨.value x,args,ats⟩,ty,p,af,g⟩) (U:b.roundOf=none) (hw:A9 L ops ⟨d,.defer ⟨.value x,args,ats⟩,ty,p,af,g⟩=some true) (K:((b.kind != .early)&&BC n d)=true)
  (Y:ev L x=some (.func (.func f) #[] caps.toArray)) (Z:evs L args.toList=some vs) (h:JL J Q b n (AG L d undef) (MG f vs.toArray caps.toArray::ds) (Ah ops rest k) cs s):
  JL J Q b n L ds (Ag ops i rest k) cs s:=λT I=>by
 simp only[f6] at K
 have ac:args.map (BZ T)=vs.toArray:=by
  rw[← HP I.Hu Z];apply ut;simp
 refine DI O (CI I hw) (by simpa using K.1) (.inl U) ?_;have hd:execOp (BZ T) ⟨d,.defer ⟨.value x,args,ats⟩,ty,p,af,g⟩=.pure (.defer (MG f vs.toArray caps.toArray)):=by
  simp only[execOp,resolve,bind,Sem.bind,Deferred.ofValue,I.ev Y,pure,MG];rw[ac];simp
 rw[hd];exact h _ (I.put K.2 undef)
end
variable {s:St}{ρ:Operand->Value}{x y z:Operand}{t u e:TypeId}{a:Option Addr}{c:Nat}
section
variable {p:String}
theorem PT(ht:P.underlying t=some (.slice e))(I:ρ x=.slice a l c)(K:ρ (.const (.slice none 0 0))=.slice none 0 0):Yl P ⟨d,.binOp .eql t x (.const (.slice none 0 0)) u,ty,p,af,g⟩ ρ s (.bool a.isNone):=by
 refine G7 (sm:=do eqGuard .eql t x (.const (.slice none 0 0)) (ρ x) (ρ (.const (.slice none 0 0)));binOp .eql t (ρ x) (ρ (.const (.slice none 0 0)))) V ?_
 rw[I,K];have hg:lp P (eqGuard .eql t x (.const (.slice none 0 0)) (.slice a l c) (.slice none 0 0)) s (λ_ s'=>s'=s) (λ_ _=>False):=by
  simp[eqGuard,lp,pure]
 refine AH _ _ (Fy _ hg ?_ (λ_ _ h=>h));rintro _ _ rfl;have hb:binOp .eql t (.slice a l c) (.slice none 0 0)=(do pure (.bool (← Op.equal t (.slice a l c) (.slice none 0 0)))):=V
 rw[hb];refine AH (x:=Op.equal t (.slice a l c) (.slice none 0 0)) _ ?_;unfold Op.equal Op.maxDepth Op.equalIn;refine AH _ _ (C4 ht ?_);cases a<;>exact⟨rfl,rfl⟩
end
section
variable {n:Nat}
end
variable {fuel:Nat}{listed:Array Bool}
variable {v:Value}
section
variable {n m:Nat}{H:LH}
variable {p:String}
end
def Kx(P:Program)(d:Nat):GP:=λg _=>∃q,QuitsD P q d g
def NL(P:Program):Frame:={(default:Frame) with fn:=P.funcs.size,defers:=[],mode:=.panicking [goexitEntry]}
section
variable {P:Program}{F:Fam}{J:Judge P}{Q:GP}{n:Nat}{L L':Env}{ds:Ld_}{k:Li_}{cs:Lf_}{s s':St}{b:Frame}{main:Bool}
theorem Lv.quits{d:Nat}:∀{m:Nat}{g:Goroutine},Lv P (Kx P d) m g->∃q,QuitsD P q d g
 | 0,_,h=>h
 | m+1,_,h=>by
  rcases h with h | ⟨I,g',K,h⟩;exact h;obtain⟨q,O⟩:=h.quits;exact⟨q+1,.ctl I K O⟩
theorem SE{d:Nat}{g:Goroutine}(h:(JD P).ok (Kx P d) g .quiet):∃q,QuitsD P q d g:=by
 let⟨m,hm⟩:=h V;exact hm.quits
theorem ar:(JD P).ok (Kx P 0) (G (NL P) []) .quiet:=by
 refine Bk (g':={frame:=NL P,callers:=[],status:=.finished,dying:=none}) V (λw=>?_) ((JD P).stop ⟨0,V,V⟩);have I:(default:Frame).todo=[]:=V;have K:∀(m:FrameMode),Frame.catches P {fn:=P.funcs.size,tmps:=(default:Frame).tmps,todo:=[],defers:=[],mode:=m,kind:=(default:Frame).kind,roundOf:=(default:Frame).roundOf}=false:=λm=>by simp[Frame.catches]
 simp[G,stepG,unwind,NL,goexitEntry,I,K]
theorem W5{ops:Ao_}{i:Nat}{rest:List Nat}{d:Option Tmp}{f:FuncId}{args:Array Operand}{ats:Array TypeId}{ty:TypeId}{pp:String}{af:Ae_}{g:On_}{e:Av_->Sem Value}
  (I:ops[i]?=some ⟨d,.call ⟨.value (.func f),args,ats⟩,ty,pp,af,g⟩) (he:CH P f e):mayWake P (G (fr b T ds (Ag ops i rest k)) cs)=true:=by
 obtain⟨fn,K,_,hb,_⟩:=he.h;have O:fn.body.isSome=false:=by cases h:fn.body<;>simp_all
 simp[mayWake,G,fr,I,Frame.eval,K,O]
theorem eI{v wt:Nat}(I:1<=v)(K:v<2147483648)(O:wt<=1):IntKind.u64.wrap (Fam.word v wt+18446744069414584320)=Fam.word (v - 1) wt:=by
 simp only[Fam.word,Fam.KK,IntKind.wrap,IntKind.bits,IntKind.signed];simp;omega
theorem eS{v:Nat}(h:v<2147483647):IntKind.u64.wrap (Fam.word v 0+4294967296)=Fam.word (v+1) 0:=by
 simp only[Fam.word,Fam.KK,IntKind.wrap,IntKind.bits,IntKind.signed];simp;omega
theorem word_inj{v wt:Nat}(h:Fam.word v wt=Fam.word v' wt):v=v':=by
 simp only[Fam.word,Fam.KK] at h;omega
theorem gr(ac:ops[i]?=some ⟨d,.call ⟨.value (.func f),#[x,y],ats⟩,ty,pp,af,g⟩)(Y:b.roundOf=none)(hw:A9 L ops ⟨d,.call ⟨.value (.func f),#[x,y],ats⟩,ty,pp,af,g⟩=some true)(K:((b.kind != .early)&&BC n d)=true)
  (he:CH P f (Extern.Atomic.update (Op.intArith .add) .u64 true)) (ag:ev L x=some (.pointer (some F.sA))) (ai:ev L y=some (.int .u64 18446744069414584320))
  (aj:JL (Bo P false) (Stop P F .Ib) b n (AG L d (.int .u64 (Fam.word 0 1))) ds (Ah ops rest k) cs .quiet)
  (al:∀v wt:Nat,v<2147483647->wt<=1->¬(v=0/\wt=1)->JL (JD P) (Kx P 1) b n (AG L d (.int .u64 (Fam.word v wt))) ds (Ah ops rest k) cs .quiet):
  JL (Bo P false) (Stop P F .IF) b n L ds (Ag ops i rest k) cs .quiet:=λT I=>by
 simp only[f6] at K
 obtain⟨fn,am,ap,hb,aq,he⟩:=he.h
 refine(Bo P _).stop (Kj rfl rfl rfl rfl AM λv wt sm v' wt' sm' es av O=>?_)
 simp only[Fam.act] at O
 split at O
 .rename_i U
  cases O;refine⟨G (fr b (DU T d (.int .u64 (Fam.word (v - 1) wt))) ds (Ah ops rest k)) cs,λw Z=>?_,rfl,?_⟩
  .let⟨c1,_,c3,_⟩:=Km Z;rw[Ci Y,Ci Y];show stepG P false _ w=_;rw[stepG_add_atomic (a:=⟨T,ds⟩) ac (CI I hw) (by simpa using K.1) rfl am ap hb aq .u64 he (by rw[F5];exact I.ev ag) (by rw[F5];exact I.ev ai) c1 c3,eI U.1 U.2.1 U.2.2,PQ Z,Fz]
   rfl
  .split;rename_i e;obtain⟨rfl,rfl⟩:=e;exact aj _ (I.put K.2 _);rename_i e;exact SE (al (v - 1) wt AB U.2.2 AB _ (I.put K.2 _))
 .cases O
theorem gx{j:Nat}(ac:s.q=false)(ag:ops[i]?=some ⟨d,.call ⟨.value (.func f),#[x,y],ats⟩,ty,pp,af,g⟩)(Y:b.roundOf=none)(hw:A9 L ops ⟨d,.call ⟨.value (.func f),#[x,y],ats⟩,ty,pp,af,g⟩=some true)(K:((b.kind != .early)&&BC n d)=true)
  (he:CH P f (Extern.Atomic.update (Op.intArith .add) .u64 true)) (ai:ev L x=some (.pointer (some F.sA))) (aj:ev L y=some (.int .u64 4294967296))
  (al:JL (Bo P true) (Stop P F (.J7 j)) b n (AG L d (.int .u64 (Fam.word 1 0))) ds (Ah ops rest k) cs s)
  (am:∀v:Nat,1<=v->v<2147483647->JL (Bo P true) (Stop P F (.Ik j)) b n (AG L d (.int .u64 (Fam.word (v+1) 0))) ds (Ah ops rest k) cs s):
  JL (Bo P true) (Stop P F (.J3 j)) b n L ds (Ag ops i rest k) cs s:=λT I=>by
 simp only[f6] at K
 obtain⟨fn,ap,aq,hb,av,he⟩:=he.h
 refine(Bo P _).stop (Kj rfl rfl rfl ac AM λv wt sm v' wt' sm' es aw O=>?_)
 simp only[Fam.act] at O
 split at O
 .rename_i U
  obtain⟨U,rfl⟩:=U;cases O;refine⟨G (fr b (DU T d (.int .u64 (Fam.word (v+1) 0))) ds (Ah ops rest k)) cs,λw Z=>?_,rfl,?_⟩
  .let⟨c1,_,c3,_⟩:=Km Z;rw[Ci Y,Ci Y];show stepG P true _ w=_;rw[stepG_add_atomic (a:=⟨T,ds⟩) ag (CI I hw) (by simpa using K.1) rfl ap aq hb av .u64 he (by rw[F5];exact I.ev ai) (by rw[F5];exact I.ev aj) c1 c3,eS U,PQ Z,Fz]
   rfl
  .split;rename_i e;subst e;exact al _ (I.put K.2 _);rename_i e;exact am v AB U _ (I.put K.2 _)
 .cases O
theorem jq(ag:Nu p=true)(ai:if Fam.DX p=true then s=.quiet else s.q=false)(aj:p≠ .GF)(al:Fam.Lg p s=s)(am:∀v wt sm r,F.act p v wt sm=some r->r.1=(v,wt,sm)/\r.2.1=#[Fam.CR F.sA])
  (ap:ops[i]?=some ⟨d,.call ⟨.value (.func f),#[x],ats⟩,ty,pp,af,g⟩) (O:b.roundOf=none) (hw:A9 L ops ⟨d,.call ⟨.value (.func f),#[x],ats⟩,ty,pp,af,g⟩=some true) (I:((b.kind != .early)&&BC n d)=true)
  (he:CH P f (Extern.Atomic.loadT (.int .u64))) (aq:ev L x=some (.pointer (some F.sA)))
  (h:∀v wt sm r,F.act p v wt sm=some r->∃q,r.2.2=.ph q/\JL (Bo P (Fam.Dw p)) (Stop P F q) b n (AG L d (.int .u64 (Fam.word v wt))) ds (Ah ops rest k) cs s):
  JL (Bo P (Fam.Dw p)) (Stop P F p) b n L ds (Ag ops i rest k) cs s:=λT K=>by
 simp only[f6] at I
 obtain⟨fn,av,aw,hb,ay,he⟩:=he.h
 refine(Bo P _).stop (Kj ag rfl rfl ai (λe=>absurd e aj) λv wt sm v' wt' sm' es az U=>?_)
 let⟨Y,e2⟩:=am _ _ _ _ U
 let⟨q,Z,hj⟩:=h _ _ _ _ U
 simp only at Y e2 Z
 cases Y
 subst e2 Z
 refine⟨_,λw ac=>?_,rfl,by rw[al];exact hj _ (K.put I.2 _)⟩
 let⟨c1,_,_,_⟩:=Km ac
 rw[Ci O,Ci O,stepG_load_atomic (a:=⟨T,ds⟩) ap (CI K hw) (by simpa using I.1) rfl av aw hb ay .u64 he (by rw[F5];exact K.ev aq) c1,Ng ac,Fz]
 rfl
theorem je(Z:ops[i]?=some ⟨d,.call ⟨.value (.func f),#[x,y],ats⟩,ty,pp,af,g⟩)(U:b.roundOf=none)(hw:A9 L ops ⟨d,.call ⟨.value (.func f),#[x,y],ats⟩,ty,pp,af,g⟩=some true)(O:((b.kind != .early)&&BC n d)=true)
  (he:CH P f Extern.Atomic.storeT) (ac:ev L x=some (.pointer (some F.sA))) (ag:ev L y=some (.int .u64 0))
  (h:JL (Bo P false) (Stop P F .GF) b n (AG L d (.tuple #[])) ds (Ah ops rest k) cs .quiet):
  JL (Bo P false) (Stop P F .Iy) b n L ds (Ag ops i rest k) cs .quiet:=λT I=>by
 simp only[f6] at O
 obtain⟨fn,ai,aj,hb,al,he⟩:=he.h
 refine(Bo P _).stop (Kj rfl rfl rfl rfl AM λv wt sm v' wt' sm' es aq K=>?_)
 simp only[Fam.act] at K
 split at K
 .rename_i am
  obtain⟨rfl,rfl⟩:=am;cases K;refine⟨_,λw Y=>?_,rfl,h _ (I.put O.2 _)⟩;let⟨c1,_,c3,_⟩:=Km Y;have ap:(.int .u64 0:Value)=.int .u64 (Fam.word 0 0):=by simp[Fam.word]
  rw[Ci U,Ci U];show stepG P false _ w=_;rw[stepG_store_atomic (a:=⟨T,ds⟩) Z (CI I hw) (by simpa using O.1) rfl ai aj hb al he (by rw[F5];exact I.ev ac) (by rw[F5];exact I.ev ag) c1 c3,ap,PQ Y,Fz]
  rfl
 .cases K
theorem jB{m:Nat}(ap:s.q=false)(Z:ops[i]?=some ⟨d,.call ⟨.value (.func f),#[x,y,z],ats⟩,ty,pp,af,g⟩)(Y:b.roundOf=none)(hw:A9 L ops ⟨d,.call ⟨.value (.func f),#[x,y,z],ats⟩,ty,pp,af,g⟩=some true)(O:((b.kind != .early)&&BC n d)=true)
  (he:CH P f (Extern.Atomic.casT (.int .u64))) (ac:ev L x=some (.pointer (some F.sA))) (ag:ev L y=some (.int .u64 (Fam.word m 0))) (ai:ev L z=some (.int .u64 (Fam.word m 1)))
  (aq:JL (Bo P true) (Stop P F .Ka) b n (AG L d (.bool true)) ds (Ah ops rest k) cs s)
  (av:JL (Bo P true) (Stop P F (.Ht (m - 1))) b n (AG L d (.bool false)) ds (Ah ops rest k) cs s):
  JL (Bo P true) (Stop P F (.IE m)) b n L ds (Ag ops i rest k) cs s:=λT I=>by
 simp only[f6] at O
 obtain⟨fn,aj,al,hb,am,he⟩:=he.h
 refine(Bo P _).stop (Kj rfl rfl rfl ap AM λv wt sm v' wt' sm' es ay K=>?_)
 simp only[Fam.act] at K
 split at K
 .rename_i aw
  obtain⟨_,_,rfl⟩:=aw;split at K
  .rename_i e;subst e;cases K;refine⟨_,λw U=>?_,rfl,aq _ (I.put O.2 _)⟩;let⟨c1,_,c3,_⟩:=Km U;rw[Ci Y,Ci Y];show stepG P true _ w=_;rw[stepG_cas_hit (a:=⟨T,ds⟩) Z (CI I hw) (by simpa using O.1) rfl aj al hb am .u64 he (by rw[F5];exact I.ev ac) (by rw[F5];exact I.ev ag) (by rw[F5];exact I.ev ai) c1 c3,PQ U,Fz]
   rfl
  .rename_i e;cases K;refine⟨_,λw U=>?_,rfl,av _ (I.put O.2 _)⟩;let⟨c1,_,c3,_⟩:=Km U;rw[Ci Y,Ci Y];show stepG P true _ w=_;rw[stepG_cas_miss (a:=⟨T,ds⟩) Z (CI I hw) (by simpa using O.1) rfl aj al hb am .u64 he (by rw[F5];exact I.ev ac) (by rw[F5];exact I.ev ag) (by rw[F5];exact I.ev ai) c1 c3 (λq=>e (word_inj q)),Ng U,Fz]
   rfl
 .cases K
theorem eX{args:Array Operand}{vs:Lv_}(U:ops[i]?=some ⟨d,.call ⟨.value (.func f),args,ats⟩,ty,pp,af,g⟩)(Y:b.roundOf=none)(hw:A9 L ops ⟨d,.call ⟨.value (.func f),args,ats⟩,ty,pp,af,g⟩=some true)(K:((b.kind != .early)&&BC n d)=true)
  (he:CH P f Extern.Sync.semrelease) (ac:evs L args.toList=some vs) (ag:vs[0]?=some (.pointer (some F.mA)))
  (h:JL (JD P) (Kx P 1) b n (AG L d (.tuple #[])) ds (Ah ops rest k) cs .quiet):
  JL (Bo P false) (Stop P F .GF) b n L ds (Ag ops i rest k) cs .quiet:=λT O=>by
 simp only[f6] at K
 have ai:=W5 (P:=P) (b:=b) (ds:=ds) (k:=k) (cs:=cs) (rest:=rest) (T:=T) U he
 obtain⟨fn,aj,al,hb,am,he⟩:=he.h
 refine(Bo P _).stop (Kj rfl rfl rfl rfl (λ_=>ai) λv wt sm v' wt' sm' es av I=>?_)
 simp only[Fam.act] at I
 split at I
 .rename_i ap
  subst ap;cases I;refine⟨_,λw Z=>?_,rfl,SE (h _ (O.put K.2 _))⟩;let⟨_,c2,_,c4⟩:=Km Z;rw[Ci Y,Ci Y];show stepG P false _ w=_;rw[stepG_semrelease (a:=⟨T,ds⟩) U (CI O hw) (by simpa using K.1) rfl aj al hb am he (ad:=F.mA) (by rw[LJ O ac];simpa using ag) c2 c4,Fz];have aq:IntKind.u32.wrap (((0:Nat):Int)+1)=((1:Nat):Int):=by decide
  rw[aq,VJ Z]
 .cases I
theorem aT{args:Array Operand}{vs:Lv_}(al:s.q=false)(Z:ops[i]?=some ⟨d,.call ⟨.value (.func f),args,ats⟩,ty,pp,af,g⟩)(U:b.roundOf=none)(hw:A9 L ops ⟨d,.call ⟨.value (.func f),args,ats⟩,ty,pp,af,g⟩=some true)(Y:((b.kind != .early)&&BC n d)=true)
  (he:CH P f Extern.Sync.semacquire) (am:evs L args.toList=some vs) (ap:vs[0]?=some (.pointer (some F.mA)))
  (h:JL (Bo P true) (Stop P F .Iz) b n (AG L d (.tuple #[])) ds (Ah ops rest k) cs s):
  JL (Bo P true) (Stop P F .GV) b n L ds (Ag ops i rest k) cs s:=λT I=>by
 simp only[f6] at Y
 obtain⟨fn,ac,ag,hb,ai,he⟩:=he.h
 have aj:(args.map (⟨T,ds⟩:Act).eval)[0]?=some (.pointer (some F.mA)):=by rw[LJ I am];simpa using ap
 refine(Bo P _).stop (Ij.stop {
  run:=rfl,offers:=rfl,quiet:=AZ,live:=λ_=>al,act:=?_,Ky:=AM,Gs:=?_,go:=AM,lk:=AM,Dr:=AM,store:=AM,fin:=AM})
 .intro v wt sm v' wt' sm' es aw K;simp only[Fam.act] at K;split at K
  .rename_i aq;subst aq;cases K;refine⟨_,λw O=>?_,rfl,h _ (I.put Y.2 _)⟩;let⟨_,c2,_,c4⟩:=Km O;rw[Ci U,Ci U];show stepG P true _ w=_;rw[stepG_semacquire (a:=⟨T,ds⟩) Z (CI I hw) (by simpa using Y.1) rfl ac ag hb ai he (ad:=F.mA) aj c2 AD c4,Fz];have av:(((1:Nat):Int) - 1)=((0:Nat):Int):=by decide
   rw[av,VJ O]
  .cases K
 .intro _ w v wt O;let⟨_,c2,_,c4⟩:=Km O;rw[Ci U];exact stepG_semacquire_wait (a:=⟨T,ds⟩) Z (CI I hw) rfl ac ag hb ai he (ad:=F.mA) aj c2
theorem XY{args:Array Operand}{vs:Lv_}(U:s.q=false)(Y:ops[i]?=some ⟨d,.call ⟨.value (.func f),args,ats⟩,ty,pp,af,g⟩)(O:b.roundOf=none)(hw:A9 L ops ⟨d,.call ⟨.value (.func f),args,ats⟩,ty,pp,af,g⟩=some true)(I:((b.kind != .early)&&BC n d)=true)
  (he:CH P f (Extern.Race.marked .acquire)) (Z:evs L args.toList=some vs) (ac:vs[0]?=some (.pointer (some F.sA)))
  (h:∀E' f,Le s.E E'->E' F.fd=none->(∀b,E' b≠none->s.H b=none)->(∀k,k<F.n->F.msg k (f k) E')->∀T,Has n (AG L d (.tuple #[])) T->F.fin (G (fr b T ds (Ah ops rest k)) cs) ⟨E',F.LD s.H f,false⟩):
  JL (Bo P true) (Stop P F .HH) b n L ds (Ag ops i rest k) cs s:=λT K=>by
 simp only[f6] at I
 obtain⟨fn,ag,ai,hb,aj,he⟩:=he.h
 refine(Bo P _).stop (Ij.stop {
  run:=rfl,offers:=rfl,quiet:=AZ,live:=λ_=>U,act:=(by simp[Fam.act]),Ky:=AM,Gs:=AM,go:=AM,lk:=AM,Dr:=AM,store:=AM,fin:=λ_=>?_})
 refine⟨_,λw=>?_,λE' f a1 al am ap=>h E' f a1 al am ap _ (K.put I.2 _)⟩
 rw[Ci O,Ci O,stepG_markAt (a:=⟨T,ds⟩) .acquire AM Y (CI K hw) (by simpa using I.1) rfl ag ai hb aj he (ad:=F.sA) (by rw[LJ K Z];simpa using ac),Fz]
 rfl
end
variable{fi:Av_}{as:Lv_}
section
variable {P:Program}{F:Fam}{J:Judge P}{Q:GP}{n:Nat}{L L':Env}{ds:Ld_}{k:Li_}{cs:Lf_}{s s':St}{b:Frame}{main:Bool}
theorem Nb(T:Av_)(ds:Ld_):(⟨T,ds⟩:Act).eval=BZ T:=funext λx=>F5 T ds x
theorem dK{X:GP}{c:Code}{vs:Lv_}{caps args:Av_}(K:P.funcs[f]?=some fn)(Y:(fn.name== "runtime.NumGoroutine")=false)(hb:fn.body=some c)(Z:args++caps=vs.toArray)(ai:vs.length<=fn.ntmps)
  (h:JL (Bo P false) X (baseD f) fn.ntmps (HD 0 vs) [] [.code c] [NL P] s):Way P false X (born P {target:=.fn (.func f) caps,args:=args}) s:=by
 have ac:¬fn.name= "runtime.NumGoroutine" :=by simpa using Y
 refine Bk (J:=Bo P false) V (λw=>?_) (h (vs.toArray++Array.replicate (fn.ntmps - vs.length) undef) ⟨by simp;omega,λt v ht=>?_⟩);show stepG P false _ w=_;have O:=enter_atD (P:=P) vs.toArray K hb;rw[Ci (b:=baseD f) rfl];simp only[uR] at O;simp[G,born,stepG,unwind,callDeferred,invoke,callFunc,K,ac,hb,GStep.after,seen_none,Z,NL,O]
 .let⟨_,I⟩:=Ln ht;have ag:t<vs.length:=by
   rcases mt t vs.length with U | U;exact U;simp at I;have:=(d7.1 I).1;omega
  rw[no,ua (by simpa using ag)];simp at I;simp[I]
theorem lr{args:Array Operand}{I:Go.Fn}{K:Av_}(O:Has n L T)(U:ev L x=some (.func I fi K))(Y:evs L args.toList=some as):
  execOp (BZ T) ⟨d,.go ⟨.value x,args,ats⟩,ty,pp,af,g⟩=.pure (.spawn {target:=.fn I K,args:=fi++as.toArray}):=by
 have Z:args.map (BZ T)=as.toArray:=by
  rw[← HP O.Hu Y];apply ut;simp
 simp only[execOp,resolve,bind,Sem.bind,Deferred.ofValue,O.ev U,pure,Z]
theorem kB{j:Nat}{args:Array Operand}{O:Av_}{U:FuncId}(ac:s.q=false)(ag:ops[i]?=some ⟨d,.go ⟨.value x,args,ats⟩,ty,pp,af,g⟩)(Y:b.roundOf=none)(hw:A9 L ops ⟨d,.go ⟨.value x,args,ats⟩,ty,pp,af,g⟩=some true)(I:((b.kind != .early)&&BC n d)=true)
  (ai:ev L x=some (.func (.func U) fi O)) (aj:evs L args.toList=some as)
  (al:Way P false (Stop P F (F.start j)) (born P {target:=.fn (.func U) O,args:=fi++as.toArray}) ⟨s.E,λ_=>none,false⟩)
  (am:JL (Bo P true) (Stop P F (F.FY j)) b n (AG L d undef) ds (Ah ops rest k) cs s):
  JL (Bo P true) (Stop P F (.Hi j)) b n L ds (Ag ops i rest k) cs s:=λT K=>by
 simp only[f6] at I
 have Z:=lr (d:=d) (ats:=ats) (ty:=ty) (pp:=pp) (af:=af) (g:=g) K ai aj
 refine(Bo P _).stop (Ij.stop {
  run:=rfl,offers:=rfl,quiet:=AZ,live:=λ_=>ac,act:=(by simp[Fam.act]),Ky:=AM,Gs:=AM,go:=λap e=>?_,lk:=AM,Dr:=AM,store:=AM,fin:=AM})
 cases e
 refine⟨G (fr b (DU T d undef) ds (Ah ops rest k)) cs,_,rfl,rfl,λw=>?_,al,am _ (K.put I.2 _)⟩
 rw[Ci Y,Ci Y,stepG_spawn (a:=⟨T,ds⟩) (w':=w) ag (CI K hw) (by simpa using I.1) (by rw[Nb,Z];rfl) rfl,listed_none (by rw[Nb,Z];simp[Sem.events_pure']),Fz]
theorem JO.XL{j:Nat}(U:s.q=false)(I:b.roundOf=none)(he:CH P f (λ_=>do mark .enable;pure Extern.Race.none_))
  (h:JO (Bo P true) (Stop P F (.Hi j)) b n L ds cs s):JO (Bo P true) (Stop P F (.Ik j)) b n L (dcall f #[]::ds) cs s:=λT Y todo=>by
 obtain⟨fn,Z,ac,hb,ag,he⟩:=he.h
 refine(Bo P _).stop (Kj rfl rfl rfl U AM λv wt sm v' wt' sm' es aj K=>?_)
 simp only[Fam.act] at K
 cases K
 refine⟨G (FL b T ds todo) cs,λw ai=>?_,rfl,h T Y todo⟩
 rw[Nm I,Nm I,Ng ai]
 exact stepG_unwind_entry (a:=⟨T,dcall f #[]::ds⟩) (v:=.tuple #[]) (evs:=#[Fam.DF .enable]) rfl Z ac hb ag he (by simp[Extern.Race.none_]) (by simp;rfl) (by
  intro x O
  simp at O
  subst O
  exact⟨rfl,λg h=>by cases h⟩)
theorem JO.QY(I:b.roundOf=none)(he:CH P f (λ_=>do mark .enable;pure Extern.Race.none_))
  (h:JO (JD P) (Kx P 0) b n L ds cs .quiet):JO (JD P) (Kx P 1) b n L (dcall f #[]::ds) cs .quiet:=λT O todo=>by
 obtain⟨fn,U,Y,hb,Z,he⟩:=he.h
 refine(JD P).stop ?_
 let⟨q,K⟩:=SE (h T O todo)
 rw[Nm I] at K
 rw[Nm I]
 exact⟨q+1,QuitsD.unwind_mark (a:=⟨T,dcall f #[]::ds⟩) .enable rfl AM rfl U Y hb Z he K⟩
end
def Zt:BinOp->Int->Int->Option Bool
 | .lss,m,m'=>some (decide (m<m'))
 | .leq,m,m'=>some (decide (m<=m'))
 | .gtr,m,m'=>some (decide (m'<m))
 | .geq,m,m'=>some (decide (m'<=m))
 | .eql,m,m'=>some (decide (m=m'))
 | .neq,m,m'=>some (decide (m≠m'))
 | _,_,_=>none
def MJ(L:Env):Op->Option Value
 | .move x=>ev L x
 | .assign x=>ev L x
 | .pick z x y=>match ev L z with
  | some (.bool true)=>ev L x
  | some (.bool false)=>ev L y
  | _=>none
 | .extract x i=>match ev L x with
  | some (.tuple vs)=>vs[i]?
  | _=>none
 | .nilCheck x=>match ev L x with
  | some (.pointer (some a))=>some (.pointer (some a))
  | _=>none
 | .binOp op _ x y _=>match ev L x with
  | some (.int kd m)=>match ev L y with
   | some (.int kd' m')=>if kd=kd' then(match Zt op m m' with | some t=>some (.bool t) | none=>none) else none
   | _=>none
  | _=>none
 | _=>none
theorem ic{P:Program}{s:St}{ρ:Operand->Value}{d:Option Tmp}{x y:Operand}{t u ty:TypeId}{p:String}{af:Ae_}{g:On_}{kd:IntKind}{m m':Int}(I:ρ x=.int kd m)(K:ρ y=.int kd m'):Yl P ⟨d,.binOp .neq t x y u,ty,p,af,g⟩ ρ s (.bool (decide (m≠m'))):=by
 have h:=Dj (P:=P) (s:=s) (d:=d) (t:=t) (u:=u) (ty:=ty) (p:=p) (af:=af) (g:=g) I K;simpa using h
theorem QD{P:Program}{L:Env}{ρ:Operand->Value}{s:St}{o:Oper}{v:Value}(I:FV L ρ)(h:MJ L o.op=some v):Yl P o ρ s v:=by
 obtain⟨d,op,ty,p,af,g⟩:=o;simp only at h;unfold MJ at h;split at h;exact DW (I _ _ h);exact DE (I _ _ h);split at h;rename_i e;exact On (I _ _ e) (I _ _ h);rename_i e;exact cF (I _ _ e) (I _ _ h);cases h;split at h;rename_i e;exact D7 (I _ _ e) h;cases h;split at h;rename_i e;cases h;exact Yl.nilCheck (I _ _ e);cases h;split at h;rename_i K;split at h;rename_i O;split at h;rename_i e;subst e;split at h;rename_i e;cases h;unfold Zt at e;split at e;cases e;exact Ee (I _ _ K) (I _ _ O);cases e;exact Yl.leq (I _ _ K) (I _ _ O);cases e;exact Hq (I _ _ K) (I _ _ O);cases e;exact Yl.geq (I _ _ K) (I _ _ O);cases e;exact DN (I _ _ K) (I _ _ O);cases e;exact ic (I _ _ K) (I _ _ O);cases e;cases h;cases h;cases h;cases h;cases h
def K9:List Oper->Nat->Option Oper
 | [],_=>none
 | o::_,0=>some o
 | _::os,i+1=>K9 os i
theorem Nq:∀(os:List Oper) (i:Nat),K9 os i=os[i]?
 | [],i=>by simp[K9]
 | _::_,0=>rfl
 | _::os,i+1=>by simp[K9,Nq os i]
def UC(b:Frame)(n:Nat)(L:Env):Li_->Option (Li_×Env)
 | .code (.seq x y)::k=>some (.code x:: .code y::k,L)
 | .code (.block i c)::k=>some (.code c:: .inBlock i::k,L)
 | .code (.scope c)::k=>some (.code c:: .inScope c::k,L)
 | .code .skip::k=>some (k,L)
 | .code (.exit i)::k=>match exitTo i k with
  | some k'=>some (k',L)
  | none=>none
 | .code (.cond c x y)::k=>match ev L c with
  | some (.bool true)=>some (.code x::k,L)
  | some (.bool false)=>some (.code y::k,L)
  | _=>none
 | .code (.region _ ops false)::k=>some (.inRegion ops (List.range ops.size)::k,L)
 | .inBlock _::k=>some (k,L)
 | .inScope _::k=>some (k,L)
 | .inRegion _ []::k=>some (k,L)
 | .inRegion ops (i::rest)::k=>match K9 ops.toList i with
  | some ⟨d,op,ty,p,af,g⟩=>match A9 L ops ⟨d,op,ty,p,af,g⟩ with
   | some true=>match Cd b n ⟨d,op,ty,p,af,g⟩ with
    | true=>match MJ L op with
     | some v=>match d with
      | some d=>some (.inRegion ops rest::k,(d,v)::L)
      | none=>some (.inRegion ops rest::k,L)
     | none=>none
    | false=>none
   | some false=>match BC n d with
    | true=>match d with
     | some d=>some (.inRegion ops rest::k,(d,undef)::L)
     | none=>some (.inRegion ops rest::k,L)
    | false=>none
   | none=>none
  | none=>none
 | _=>none
def Q8(b:Frame)(n:Nat):Nat->Li_->Env->Option (Li_×Env)
 | 0,k,L=>some (k,L)
 | m+1,k,L=>match UC b n L k with
  | some (k',L')=>Q8 b n m k' L'
  | none=>none
variable {L':Env}{k':Li_}
section
variable {n:Nat}
theorem kr(h:UC b n L k=some (k',L'))(I:JL J Q b n L' ds k' cs s):JL J Q b n L ds k cs s:=by
 unfold UC at h;split at h;cases h;exact D5 I;cases h;exact Ay I;cases h;exact JL.scope I;cases h;exact Bl I;split at h;rename_i e;cases h;exact A3 e I;cases h;split at h;rename_i e;cases h;exact bq e I;rename_i e;cases h;exact bG e I;cases h;cases h;exact CA I;cases h;exact Og I;cases h;exact Z3 I;cases h;exact A1 I
 .split at h
  .rename_i d op ty p af g K;rw[Nq,tN] at K;split at h
   .rename_i hw;split at h
    .rename_i O;split at h
     .rename_i v Y;cases d with
      | none=>cases h;exact Bv K hw O (λρ U=>QD U Y) I
      | some d=>cases h;exact Bv K hw O (λρ U=>QD U Y) I
     .cases h
    .cases h
   .rename_i hw;split at h
    .rename_i O;cases d with
     | none=>cases h;exact JR K hw O I
     | some d=>cases h;exact JR K hw O I
    .cases h
   .cases h
  .cases h
 .cases h
theorem JL.go(m:Nat)(h:Q8 b n m k L=some (k',L'))(I:JL J Q b n L' ds k' cs s):JL J Q b n L ds k cs s:=by
 induction m generalizing k L with
 | zero=>cases h;exact I
 | succ m K=>
  unfold Q8 at h;split at h;rename_i e;exact kr e (K h);cases h
abbrev BH:=@JL.go
end
abbrev AA(a o:Nat):Value:=.pointer (some ⟨a,o,none⟩)
abbrev sV{α:Type}(a:Option Addr)(l:List α)(c:Nat):Value:=.slice a l.length c
abbrev fV(n:Nat):Value:=.func (.func n) #[] #[]
abbrev nS:Value:=.slice none 0 0
abbrev Bd(r:Nat):Option Addr:=some ⟨r,0,none⟩
open Go.Conc.Lib Go.ConcR.Gen
theorem Hz{P:Program}{t:TypeId}{n:Nat}(h:∀w,Sem.run P (Go.sizeOf t) w=.ok n w):BA P t=some n:=by
 have I:=h default;unfold BA;simp only[Go.sizeOf,typeInfo,bind,Sem.bind,program,Sem.run] at I;cases hi:P.info? t with
 | none=>rw[hi] at I;simp[stuck,Sem.run,Sem.bind] at I
 | some i=>
  rw[hi] at I;simp[pure,Sem.bind,Sem.run] at I;simp[I]
section
variable {L:WgLink}(H:WgLib P L)
include H
theorem PK:CH P L.disable (λ_=>do mark .disable;pure Extern.Race.none_):=⟨⟨_,H.f_disable,x_disable_n L,x_disable_b L,x_disable_x L,x_disable_f L⟩⟩
theorem KQ:CH P L.enable (λ_=>do mark .enable;pure Extern.Race.none_):=⟨⟨_,H.f_enable,x_enable_n L,x_enable_b L,x_enable_x L,x_enable_f L⟩⟩
theorem Vj:CH P L.relMerge (Extern.Race.marked .releaseMerge):=⟨⟨_,H.f_relMerge,x_relMerge_n L,x_relMerge_b L,x_relMerge_x L,x_relMerge_f L⟩⟩
theorem SD:CH P L.acquire (Extern.Race.marked .acquire):=⟨⟨_,H.f_acquire,x_acquire_n L,x_acquire_b L,x_acquire_x L,x_acquire_f L⟩⟩
theorem cY:CH P L.raceRead (Extern.Race.marked .read):=⟨⟨_,H.f_raceRead,x_raceRead_n L,x_raceRead_b L,x_raceRead_x L,x_raceRead_f L⟩⟩
theorem bU:CH P L.raceWrite (Extern.Race.marked .write):=⟨⟨_,H.f_raceWrite,x_raceWrite_n L,x_raceWrite_b L,x_raceWrite_x L,x_raceWrite_f L⟩⟩
theorem XX:CH P L.addU64 (Extern.Atomic.update (Op.intArith .add) .u64 true):=⟨⟨_,H.f_addU64,x_addU64_n L,x_addU64_b L,x_addU64_x L,x_addU64_f L⟩⟩
theorem fg:CH P L.loadU64 (Extern.Atomic.loadT (.int .u64)):=⟨⟨_,H.f_loadU64,x_loadU64_n L,x_loadU64_b L,x_loadU64_x L,x_loadU64_f L⟩⟩
theorem cd:CH P L.storeU64 Extern.Atomic.storeT:=⟨⟨_,H.f_storeU64,x_storeU64_n L,x_storeU64_b L,x_storeU64_x L,x_storeU64_f L⟩⟩
theorem gm:CH P L.casU64 (Extern.Atomic.casT (.int .u64)):=⟨⟨_,H.f_casU64,x_casU64_n L,x_casU64_b L,x_casU64_x L,x_casU64_f L⟩⟩
theorem bS:CH P L.semrelease Extern.Sync.semrelease:=⟨⟨_,H.f_semrelease,x_semrelease_n L,x_semrelease_b L,x_semrelease_x L,x_semrelease_f L⟩⟩
theorem aa:CH P L.semacquire Extern.Sync.semacquire:=⟨⟨_,H.f_semacquire,x_semacquire_n L,x_semacquire_b L,x_semacquire_x L,x_semacquire_f L⟩⟩
theorem VQ:CH P L.inBubble (λ_=>pure (.bool false)):=⟨⟨_,H.f_inBubble,x_inBubble_n L,x_inBubble_b L,x_inBubble_x L,x_inBubble_f L⟩⟩
end
variable {tw:TypeId}
section
variable {P:Program}{F:Fam}{J:Judge P}{Q:GP}{n:Nat}{L L':Env}{ds:Ld_}{k:Li_}{cs:Lf_}{s s':St}{b:Frame}{main:Bool}
theorem Yl.to{o:Oper}{ρ:Operand->Value}{v v':Value}(h:Yl P o ρ s v)(e:v=v'):Yl P o ρ s v':=e▸h
abbrev Ce:=@Yl.to
theorem OG(al:Nu p=true)(am:if Fam.DX p=true then s=.quiet else s.q=false)(ap:p≠ .GF)(aq:∀v wt sm,F.act p v wt sm=some ((v,wt,sm),#[],.ph q))(av:Fam.Lg p s=s)
  (aw:ops[i]?=some ⟨d,.convert t u x,ty,pp,af,g⟩) (O:b.roundOf=none) (hw:A9 L ops ⟨d,.convert t u x,ty,pp,af,g⟩=some true) (I:((b.kind != .early)&&BC n d)=true)
  (ht:P.underlying t=some (.pointer tw)) (hu:P.underlying u=some .unsafePointer) (U:(P.info? tw).map (λi=>decide (i.size=0))=some false) (ay:ev L x=some (.pointer (some ad))) (hb:ad=F.sA∨ad=F.mA)
  (h:JL (Bo P (Fam.Dw p)) (Stop P F q) b n (AG L d (.pointer (some ad))) ds (Ah ops rest k) cs s):
  JL (Bo P (Fam.Dw p)) (Stop P F p) b n L ds (Ag ops i rest k) cs s:=λT K=>by
 simp only[f6] at I
 refine(Bo P _).stop (Kj al rfl rfl am (λe=>absurd e ap) λv wt sm v' wt' sm' es a0 Y=>?_)
 rw[aq] at Y;cases Y
 refine⟨_,λw Z=>?_,rfl,by rw[av];exact h _ (K.put I.2 _)⟩
 obtain⟨ac,ag⟩:∃ac,w.cell? ad=some ac:=by
  let⟨c1,c2,_,_⟩:=Km Z;rcases hb with e | e<;>rw[e];exact⟨_,c1⟩;exact⟨_,c2⟩
 have ai:=run_convert_to_unsafe (P:=P) (w:=w) ht hu U ag;have az:=events_convert_to_unsafe (P:=P) (w:=w) ht hu U ag;have aj:execOp (⟨T,ds⟩:Act).eval ⟨d,.convert t u x,ty,pp,af,g⟩=(do pure (Next.value (← Go.convert t u (.pointer (some ad))))):=by
  rw[Nb];simp only[execOp,K.ev ay]
 rw[Ci O,Ci O,stepG_value (a:=⟨T,ds⟩) (v:=.pointer (some ad)) (w':=w) aw (CI K hw) (by simpa using I.1) (by rw[aj];simp[ai,Result.andThen]),Ng Z,Fz];have e2:listed P b.fn ⟨T,ds⟩ ⟨d,.convert t u x,ty,pp,af,g⟩ w=#[]:=by
  unfold listed;rw[aj];simp[ai,az,Result.evThen,seen_none]
 rw[e2]
end
section
variable {P:Program}{F:Fam}{J:Judge P}{Q:GP}{n:Nat}{L L':Env}{ds:Ld_}{k:Li_}{cs:Lf_}{s s':St}{b:Frame}{main:Bool}
def nk(P:Program)(b:Frame)(n:Nat)(L:Env)(d:Option Tmp)(ds:Ld_)(todo:Li_)(cs:Lf_)(O:Frame):Prop:=
 ∀(I:Judge P) (K:GP) (v:Value) (s':St),JL I K b n (AG L d v) ds todo cs s'->I.ok K (G (O.finish v) cs) s'
theorem Iv{c:Code}(U:ops[i]?=some ⟨d,.call ⟨.value (.func f),args,ats⟩,ty,pp,af,g⟩)(hw:A9 L ops ⟨d,.call ⟨.value (.func f),args,ats⟩,ty,pp,af,g⟩=some true)(K:((b.kind != .early)&&BC n d)=true)
  (Y:P.funcs[f]?=some fn) (ag:(fn.name== "runtime.NumGoroutine")=false) (hb:fn.body=some c) (ai:evs L args.toList=some vs) (aq:vs.length<=fn.ntmps)
  (h:∀Z:Frame,nk P b n L d ds (Ah ops rest k) cs Z->JL J Q (base f) fn.ntmps (HD 0 vs) [] [.code c] (Z::cs) s):
  JL J Q b n L ds (Ag ops i rest k) cs s:=λT O=>by
 simp only[f6] at K
 have aj:args.map (BZ T)=vs.toArray:=by
  rw[← HP O.Hu ai];apply ut;simp
 refine DI U (CI O hw) (by simpa using K.1) (.inr λc al=>by cases al) ?_;have am:ET P f=true:=by unfold ET;rw[Y];simp[ag,hb]
 have hd:lp P (execOp (BZ T) ⟨d,.call ⟨.value (.func f),args,ats⟩,ty,pp,af,g⟩) s (upon J Q b T ds ops i rest k cs d) (NO J Q b T ds ops i rest k cs):=by
  simp only[execOp,resolve,bind,Sem.bind,Deferred.ofValue,BZ,pure,invoke];have e: #[]++args.map (BZ T)++ #[]=vs.toArray:=by rw[aj];simp
  rw[e];refine KP am ?_;have he:Frame.enter P f vs.toArray .normal=fr (base f) (vs.toArray++Array.replicate (fn.ntmps - vs.length) undef) [] [.code c]:=by
   simp[Frame.enter,fr,Y,hb,base];rfl
  show J.ok Q (G (Frame.enter P f vs.toArray .normal) _) s;rw[he];refine h _ (λav aw v s' hj=>?_) _ ⟨by simp;omega,λt v ht=>?_⟩;rw[HQ (o:=⟨d,.call ⟨.value (.func f),args,ats⟩,ty,pp,af,g⟩) _ _ _ _ _ U];exact hj _ (O.put K.2 v)
  .let⟨_,I⟩:=Ln ht;have ap:t<vs.length:=by
    rcases mt t vs.length with ac | ac;exact ac;simp at I;have:=(d7.1 I).1;omega
   rw[no,ua (by simpa using ap)];simp at I;simp[I]
 exact hd
theorem Yl.ext{e:Av_->Sem Value}{v:Value}{ρ:Operand->Value}(he:CH P f e)(K:args.map ρ=vs.toArray)(h:e vs.toArray=.pure v):Yl P ⟨d,.call ⟨.value (.func f),args,ats⟩,ty,pp,af,g⟩ ρ s v∨ρ (.func f)≠ .func (.func f) #[] #[]:=by
 by_cases I:ρ (.func f)=.func (.func f) #[] #[]
 .left;obtain⟨fn,O,U,Y,Z,ac⟩:=he.h;unfold Yl;simp only[execOp,resolve,bind,Sem.bind,Deferred.ofValue,I,pure,invoke];have ag: #[]++args.map ρ++ #[]=vs.toArray:=by rw[K];simp
  rw[ag];have ai:fn.body=none:=by simpa using Y
  simp only[callFunc,bind,Sem.bind,program,lp,O,U,ai,Option.isNone_none,s5,tP,tS,mark,Z,ac,h,pure];exact⟨.inr ⟨f,V⟩,trivial,trivial⟩
 .exact .inr I
theorem JL.ext{e:Av_->Sem Value}{v:Value}(K:ops[i]?=some ⟨d,.call ⟨.value (.func f),args,ats⟩,ty,pp,af,g⟩)(hw:A9 L ops ⟨d,.call ⟨.value (.func f),args,ats⟩,ty,pp,af,g⟩=some true)(O:Cd b n ⟨d,.call ⟨.value (.func f),args,ats⟩,ty,pp,af,g⟩=true)
  (he:CH P f e) (U:evs L args.toList=some vs) (Y:e vs.toArray=.pure v) (h:JL J Q b n (AG L d v) ds (Ah ops rest k) cs s):JL J Q b n L ds (Ag ops i rest k) cs s:=
 Bv K hw O (λρ I=>by
  have Z:args.map ρ=vs.toArray:=by
   rw[← HP I U]
   apply ut;simp
  rcases Yl.ext (s:=s) (d:=d) (ats:=ats) (ty:=ty) (pp:=pp) (af:=af) (g:=g) he Z Y with q | q;exact q
  .exact absurd (I (.func f) _ rfl) q) h
abbrev Gt:=@JL.ext
end
section
variable {P:Program}{L:WgLink}(H:WgLib P L){F:Fam}{n:Nat}{M:Env}{ds:Ld_}{k:Li_}{cs:Lf_}{s:St}{b:Frame}
include H
theorem fa(I:ops[i]?=some ⟨d,.call ⟨.value (.func L.uAdd),#[x,y],ats⟩,ty,pp,af,g⟩)(hw:A9 M ops ⟨d,.call ⟨.value (.func L.uAdd),#[x,y],ats⟩,ty,pp,af,g⟩=some true)(K:((b.kind != .early)&&BC n d)=true)
  (O:ev M x=some (.pointer (some F.sA))) (U:ev M y=some (.int .u64 18446744069414584320))
  (Y:JL (Bo P false) (Stop P F .Ib) b n (AG M d (.int .u64 (Fam.word 0 1))) ds (Ah ops rest k) cs .quiet)
  (Z:∀v wt:Nat,v<2147483647->wt<=1->¬(v=0/\wt=1)->JL (JD P) (Kx P 1) b n (AG M d (.int .u64 (Fam.word v wt))) ds (Ah ops rest k) cs .quiet):
  JL (Bo P false) (Stop P F .IF) b n M ds (Ag ops i rest k) cs .quiet:=by
 refine Iv (vs:=[.pointer (some F.sA),.int .u64 18446744069414584320]) I hw K H.f_uAdd (nm_uAdd L) V (by simp[evs,O,U]) (sZ V) λaj back=>BH 8 V (Bv V V V (λ_ h=>B4 H.underlying_tAU V (Hz H.sizeOf_tU64) (h _ _ V)) (BH 1 V (gr V V V V (XX H) V V ?_ λv wt ac ag ai=>?_)));exact Bv V V V (λ_ h=>DE (h _ _ V)) (A1 (CT V V (Gu H.f_uAdd V V) (back _ _ _ _ Y)));exact Bv V V V (λ_ h=>DE (h _ _ V)) (A1 (CT V V (Gu H.f_uAdd V V) (back _ _ _ _ (Z v wt ac ag ai))))
theorem du{j:Nat}(I:s.q=false)(K:ops[i]?=some ⟨d,.call ⟨.value (.func L.uAdd),#[x,y],ats⟩,ty,pp,af,g⟩)(hw:A9 M ops ⟨d,.call ⟨.value (.func L.uAdd),#[x,y],ats⟩,ty,pp,af,g⟩=some true)(O:((b.kind != .early)&&BC n d)=true)
  (U:ev M x=some (.pointer (some F.sA))) (Y:ev M y=some (.int .u64 4294967296))
  (Z:JL (Bo P true) (Stop P F (.J7 j)) b n (AG M d (.int .u64 (Fam.word 1 0))) ds (Ah ops rest k) cs s)
  (ac:∀v:Nat,1<=v->v<2147483647->JL (Bo P true) (Stop P F (.Ik j)) b n (AG M d (.int .u64 (Fam.word (v+1) 0))) ds (Ah ops rest k) cs s):
  JL (Bo P true) (Stop P F (.J3 j)) b n M ds (Ag ops i rest k) cs s:=by
 refine Iv (vs:=[.pointer (some F.sA),.int .u64 4294967296]) K hw O H.f_uAdd (nm_uAdd L) V (by simp[evs,U,Y]) (sZ V) λaj back=>BH 8 V (Bv V V V (λ_ h=>B4 H.underlying_tAU V (Hz H.sizeOf_tU64) (h _ _ V)) (BH 1 V (gx I V V V V (XX H) V V ?_ λv ag ai=>?_)));exact Bv V V V (λ_ h=>DE (h _ _ V)) (A1 (CT V V (Gu H.f_uAdd V V) (back _ _ _ _ Z)));exact Bv V V V (λ_ h=>DE (h _ _ V)) (A1 (CT V V (Gu H.f_uAdd V V) (back _ _ _ _ (ac v ag ai))))
theorem JL.uLoad(I:Nu p=true)(K:if Fam.DX p=true then s=.quiet else s.q=false)(O:p≠ .GF)(U:Fam.Lg p s=s)(Y:∀v wt sm r,F.act p v wt sm=some r->r.1=(v,wt,sm)/\r.2.1=#[Fam.CR F.sA])(Z:ops[i]?=some ⟨d,.call ⟨.value (.func L.uLoad),#[x],ats⟩,ty,pp,af,g⟩)(hw:A9 M ops ⟨d,.call ⟨.value (.func L.uLoad),#[x],ats⟩,ty,pp,af,g⟩=some true)(ac:((b.kind != .early)&&BC n d)=true)
  (ag:ev M x=some (.pointer (some F.sA)))
  (h:∀v wt sm r,F.act p v wt sm=some r->∃q,r.2.2=.ph q/\JL (Bo P (Fam.Dw p)) (Stop P F q) b n (AG M d (.int .u64 (Fam.word v wt))) ds (Ah ops rest k) cs s):
  JL (Bo P (Fam.Dw p)) (Stop P F p) b n M ds (Ag ops i rest k) cs s:=by
 exact Iv (vs:=[.pointer (some F.sA)]) Z hw ac H.f_uLoad (nm_uLoad L) V (by simp[evs,ag]) (sZ V) λal back=>BH 8 V (Bv V V V (λ_ h=>B4 H.underlying_tAU V (Hz H.sizeOf_tU64) (h _ _ V)) (jq I K O U Y V V V V (fg H) V λv wt sm r ai=>let⟨q,aj,hj⟩:=h v wt sm r ai;⟨q,aj,Bv V V V (λ_ h=>DE (h _ _ V)) (A1 (CT V V (Gu H.f_uLoad V V) (back _ _ _ _ hj)))⟩))
theorem JL.uStore(I:ops[i]?=some ⟨d,.call ⟨.value (.func L.uStore),#[x,y],ats⟩,ty,pp,af,g⟩)(hw:A9 M ops ⟨d,.call ⟨.value (.func L.uStore),#[x,y],ats⟩,ty,pp,af,g⟩=some true)(K:((b.kind != .early)&&BC n d)=true)
  (O:ev M x=some (.pointer (some F.sA))) (U:ev M y=some (.int .u64 0))
  (h:JL (Bo P false) (Stop P F .GF) b n (AG M d (.tuple #[])) ds (Ah ops rest k) cs .quiet):
  JL (Bo P false) (Stop P F .Iy) b n M ds (Ag ops i rest k) cs .quiet:=by
 exact Iv (vs:=[.pointer (some F.sA),.int .u64 0]) I hw K H.f_uStore (nm_uStore L) V (by simp[evs,O,U]) (sZ V) λY back=>BH 3 V (Bv V V V (λ_ h=>B4 H.underlying_tAU V (Hz H.sizeOf_tU64) (h _ _ V)) (BH 1 V (je V V V V (cd H) V V (A1 (DA V V (C0 H.f_uStore V) (back _ _ _ _ h))))))
theorem JL.uCas{m:Nat}(I:s.q=false)(K:ops[i]?=some ⟨d,.call ⟨.value (.func L.uCas),#[x,y,z],ats⟩,ty,pp,af,g⟩)(hw:A9 M ops ⟨d,.call ⟨.value (.func L.uCas),#[x,y,z],ats⟩,ty,pp,af,g⟩=some true)(O:((b.kind != .early)&&BC n d)=true)
  (U:ev M x=some (.pointer (some F.sA))) (Y:ev M y=some (.int .u64 (Fam.word m 0))) (Z:ev M z=some (.int .u64 (Fam.word m 1)))
  (ac:JL (Bo P true) (Stop P F .Ka) b n (AG M d (.bool true)) ds (Ah ops rest k) cs s)
  (ag:JL (Bo P true) (Stop P F (.Ht (m - 1))) b n (AG M d (.bool false)) ds (Ah ops rest k) cs s):
  JL (Bo P true) (Stop P F (.IE m)) b n M ds (Ag ops i rest k) cs s:=by
 refine Iv (vs:=[.pointer (some F.sA),.int .u64 (Fam.word m 0),.int .u64 (Fam.word m 1)]) K hw O H.f_uCas (nm_uCas L) V (by simp[evs,U,Y,Z]) (sZ V) λai back=>BH 8 V (Bv V V V (λ_ h=>B4 H.underlying_tAU V (Hz H.sizeOf_tU64) (h _ _ V)) (BH 2 V (jB (m:=m) I V V V V (gm H) V V V ?_ ?_)));exact Bv V V V (λ_ h=>DE (h _ _ V)) (A1 (CT V V (Gu H.f_uCas V V) (back _ _ _ _ ac)));exact Bv V V V (λ_ h=>DE (h _ _ V)) (A1 (CT V V (Gu H.f_uCas V V) (back _ _ _ _ ag)))
end
theorem NC{v wt:Nat}(I:v<2147483648)(K:wt<=1):IntKind.u64.wrap (BitVec.ofInt IntKind.u64.bits (Fam.word v wt)&&& BitVec.ofInt IntKind.u64.bits 2147483648).toNat=0:=by
 have:=Go.ConcN.st_flag v wt I K;simpa [bits,Fam.word,Fam.KK] using this
theorem NM{v wt:Nat}(I:v<2147483648)(K:wt<=1):IntKind.u64.wrap (BitVec.ofInt IntKind.u64.bits (Fam.word v wt)&&& BitVec.ofInt IntKind.u64.bits 2147483647).toNat=(wt:Int):=by
 have:=Go.ConcN.st_waiters v wt I K;simpa [bits,Fam.word,Fam.KK] using this
theorem Nh{v wt:Nat}(I:wt<=1):(Fam.word v wt).fdiv (2^(min (32:Int).toNat IntKind.u64.bits))=(v:Int):=by
 have e:(2:Int)^(min (32:Int).toNat IntKind.u64.bits)=4294967296:=by decide
 rw[e,u9 _ AD];simp only[Fam.word,Fam.KK];omega
theorem wrap_i32{v:Nat}(I:v<2147483648):IntKind.i32.wrap (v:Int)=v:=by
 simp only[IntKind.wrap,IntKind.bits,IntKind.signed];simp;split<;>omega
theorem wrap_u32{v:Nat}(I:v<=1):IntKind.u32.wrap (v:Int)=v:=by
 simp only[IntKind.wrap,IntKind.bits,IntKind.signed];simp;omega
theorem bR{F:Fam}:∀v wt sm r,F.act .Ib v wt sm=some r->r.1=(v,wt,sm)/\r.2.1=#[Fam.CR F.sA]:=by
 intro v wt sm r h;simp only[Fam.act] at h;split at h;rename_i I;obtain⟨rfl,rfl⟩:=I;cases h;exact⟨V,V⟩;cases h
theorem en{F:Fam}{v wt:Nat}{r}(h:F.act .Ib v wt sm=some r):v=0/\wt=1/\r.2.2=.ph .Iy:=by
 simp only[Fam.act] at h;split at h;rename_i I;cases h;exact⟨I.1,I.2,V⟩;cases h
section
variable {P:Program}{L:WgLink}(H:WgLib P L){F:Fam}{n:Nat}{M:Env}{ds:Ld_}{k:Li_}{cs:Lf_}{s:St}{b:Frame}
include H
theorem bL(O:s.q=false)(U:ops[i]?=some ⟨d,.call ⟨.value (.func L.add),#[x,y],ats⟩,ty,pp,af,g⟩)(hw:A9 M ops ⟨d,.call ⟨.value (.func L.add),#[x,y],ats⟩,ty,pp,af,g⟩=some true)(Y:((b.kind != .early)&&BC n d)=true)
  (Z:ev M x=some (.pointer (some F.sA))) (ac:ev M y=some (.int .i64 (-1)))
  (h:JL (JD P) (Kx P 0) b n (AG M d (.tuple #[])) ds (Ah ops rest k) cs .quiet):
  JL (Bo P false) (Stop P F .Jk) b n M ds (Ag ops i rest k) cs s:=by
 refine Iv (vs:=[.pointer (some F.sA),.int .i64 (-1)]) U hw Y H.f_add (nm_add L) V (by simp[evs,Z,ac]) (sZ V) λai back=>BH 11 V (OG (p:=.Jk) (q:=.HZ) (ad:=F.sA) V O AM (λ_ _ _=>V) V V V V V H.underlying_tWgP H.underlying_tUP H.room_tWg V (.inl V) ?_)
 refine SU (p:=.HZ) (q:=.Kz) (mk:=.releaseMerge) (ad:=F.sA) (vs:=[.pointer (some F.sA)]) V O AM (λ_ _ _=>V) V V V V AM (Vj H) V V (BH 3 V (Ot (p:=.Kz) (q:=.IF) V V AM (λ_ _ _=>V) V V V V V AM (PK H) (BH 2 V (IH (vs:=[]) V V V V V (BH 8 V (Gt (vs:=[]) V V V (VQ H) V V (BH 7 V (Bv V V V (λ_ h=>B4 H.underlying_tWg V (Hz H.sizeOf_tAU) (h _ _ V)) (BH 1 V (Bv V V V (λ_ h=>Gy H.underlying_t3 H.underlying_tU64 (h _ _ V)) ?_))))))))))
 refine Bv (v:=.int .u64 18446744069414584320) V V V (λ_ h=>(Ho (h _ _ V) (h _ _ V) AD).to (s7 _ AD)) (fa H V V V V V ?_ λv wt aj I al=>?_)
 .refine Bv V V V (λ_ h=>DE (h _ _ V)) (BH 5 V (Bv (v:=.int .u64 0) V V V (λ_ h=>(Dt (h _ _ V) (h _ _ V)).to (s7 _ (NC (v:=0) (wt:=1) AD AD))) (Bv V V V (λ_ h=>Dj (h _ _ V) (h _ _ V)) (BH 10 V (Bv (v:=.int .u64 (0:Nat)) V V V (λ_ h=>(E7 (h _ _ V) (h _ _ V) AD).to (s7 _ (Nh (v:=0) (wt:=1) AD))) (Bv (v:=.int .i32 (0:Nat)) V V V (λ_ h=>(Gy H.underlying_tU64 H.underlying_t21 (h _ _ V)).to (s7 _ (wrap_i32 AD))) ?_))))))
  refine BH 5 V (Bv (v:=.int .u64 (1:Nat)) V V V (λ_ h=>(Dt (h _ _ V) (h _ _ V)).to (s7 _ (NM (v:=0) (wt:=1) AD AD))) (Bv (v:=.int .u32 (1:Nat)) V V V (λ_ h=>(Gy H.underlying_tU64 H.underlying_tU32 (h _ _ V)).to (s7 _ (wrap_u32 AD))) ?_))
  refine BH 30 V (Bv V V V (λ_ h=>Dj (h _ _ V) (h _ _ V)) (BH 30 V (Bv V V V (λ_ h=>B4 H.underlying_tWg V (Hz H.sizeOf_tAU) (h _ _ V)) (JL.uLoad H (p:=.Ib) V V AM V bR V V V V λv wt sm r ag=>?_))));obtain⟨rfl,rfl,e⟩:=en ag;refine ⟨.Iy,e,BH 1 V (Bv (v:=.bool false) V V V (λ_ h=>(Dj (h _ _ V) (h _ _ V)).to AM) (BH 7 V (Bv V V V (λ_ h=>B4 H.underlying_tWg V (Hz H.sizeOf_tAU) (h _ _ V)) (JL.uStore H V V V V V (BH 9 V (Ki (BH 4 V (Bv V V V (λ_ h=>Dj (h _ _ V) (h _ _ V)) (BH 8 V (Bv V V V (λ_ h=>B4 H.underlying_tWg V (Hz H.sizeOf_tU32) (h _ _ V)) (eX (vs:=[.pointer (some F.mA),.bool false,.int .i64 0]) V V V V (bS H) V V (BH 4 V (Bv (v:=.int .u32 ((0:Nat):Int)) V V V (λ_ h=>(D3 (h _ _ V) (h _ _ V)).to (s7 _ AD)) (BH 2 V (CY (BH 4 V (Bv V V V (λ_ h=>Dj (h _ _ V) (h _ _ V)) (BH 3 V (H3 V (JO.QY V (KQ H) (D4 V (C0 H.f_add V) (back _ _ _ _ h))))))))))))))))))))))⟩
 .refine Bv V V V (λ_ h=>DE (h _ _ V)) (BH 5 V (Bv (v:=.int .u64 0) V V V (λ_ h=>(Dt (h _ _ V) (h _ _ V)).to (s7 _ (NC (v:=v) (wt:=wt) AB I))) (Bv V V V (λ_ h=>Dj (h _ _ V) (h _ _ V)) (BH 10 V (Bv (v:=.int .u64 (v:Nat)) V V V (λ_ h=>(E7 (h _ _ V) (h _ _ V) AD).to (s7 _ (Nh (v:=v) (wt:=wt) I))) (Bv (v:=.int .i32 (v:Nat)) V V V (λ_ h=>(Gy H.underlying_tU64 H.underlying_t21 (h _ _ V)).to (s7 _ (wrap_i32 AB))) ?_))))))
  refine BH 5 V (Bv (v:=.int .u64 (wt:Nat)) V V V (λ_ h=>(Dt (h _ _ V) (h _ _ V)).to (s7 _ (NM (v:=v) (wt:=wt) AB I))) (Bv (v:=.int .u32 (wt:Nat)) V V V (λ_ h=>(Gy H.underlying_tU64 H.underlying_tU32 (h _ _ V)).to (s7 _ (wrap_u32 I))) ?_))
  refine BH 22 V (Bv (v:=.bool false) V V V (λ_ h=>(Ee (h _ _ V) (h _ _ V)).to AM) (BH 6 V ?_));by_cases K:wt=0;refine Bv V V V (λ_ h=>DW (h _ _ V)) (Bv (v:=.bool false) V V V (λ_ h=>(Dj (h _ _ V) (h _ _ V)).to (by simp[K])) (BH 16 V ?_));by_cases am:0<v;refine Bv V V V (λ_ h=>DW (h _ _ V)) (Bv (v:=.bool true) V V V (λ_ h=>(Hq (h _ _ V) (h _ _ V)).to (by simp<;>omega)) (BH 6 V (IX V (JO.QY V (KQ H) (D4 V (C0 H.f_add V) (back _ _ _ _ h))))));refine Bv V V V (λ_ h=>DW (h _ _ V)) (Bv (v:=.bool false) V V V (λ_ h=>(Hq (h _ _ V) (h _ _ V)).to (by simp<;>omega)) (BH 2 V (Bv (v:=.bool true) V V V (λ_ h=>(DN (h _ _ V) (h _ _ V)).to (by simp[K])) (BH 3 V (IX V (JO.QY V (KQ H) (D4 V (C0 H.f_add V) (back _ _ _ _ h))))))));refine Bv V V V (λ_ h=>DW (h _ _ V)) (Bv (v:=.bool true) V V V (λ_ h=>(Dj (h _ _ V) (h _ _ V)).to (by simp[K])) (BH 17 V (Bv (v:=.bool true) V V V (λ_ h=>(Hq (h _ _ V) (h _ _ V)).to (by simp<;>omega)) (BH 6 V (IX V (JO.QY V (KQ H) (D4 V (C0 H.f_add V) (back _ _ _ _ h))))))))
theorem bE{j:Nat}(I:s.q=false)(K:ops[i]?=some ⟨d,.call ⟨.value (.func L.add),#[x,y],ats⟩,ty,pp,af,g⟩)(hw:A9 M ops ⟨d,.call ⟨.value (.func L.add),#[x,y],ats⟩,ty,pp,af,g⟩=some true)(O:((b.kind != .early)&&BC n d)=true)
  (U:ev M x=some (.pointer (some F.sA))) (Y:ev M y=some (.int .i64 1))
  (h:JL (Bo P true) (Stop P F (.Hi j)) b n (AG M d (.tuple #[])) ds (Ah ops rest k) cs s):
  JL (Bo P true) (Stop P F (.HE j)) b n M ds (Ag ops i rest k) cs s:=by
 refine Iv (vs:=[.pointer (some F.sA),.int .i64 1]) K hw O H.f_add (nm_add L) V (by simp[evs,U,Y]) (sZ V) λZ back=>BH 12 V (Ot (p:=.HE j) (q:=.J3 j) V I AM (λ_ _ _=>V) V V V V V AM (PK H) (BH 2 V (IH (vs:=[]) V V V V V (BH 8 V (Gt (vs:=[]) V V V (VQ H) V V (BH 7 V (Bv V V V (λ_ h=>B4 H.underlying_tWg V (Hz H.sizeOf_tAU) (h _ _ V)) (BH 1 V (Bv V V V (λ_ h=>Gy H.underlying_t3 H.underlying_tU64 (h _ _ V)) ?_)))))))))
 refine Bv (v:=.int .u64 4294967296) V V V (λ_ h=>(Ho (h _ _ V) (h _ _ V) AD).to (s7 _ AD)) (du H I V V V V V ?_ λv ac ag=>?_)
 .refine Bv V V V (λ_ h=>DE (h _ _ V)) (BH 5 V (Bv (v:=.int .u64 0) V V V (λ_ h=>(Dt (h _ _ V) (h _ _ V)).to (s7 _ (NC (v:=1) (wt:=0) AD AD))) (Bv V V V (λ_ h=>Dj (h _ _ V) (h _ _ V)) (BH 10 V (Bv (v:=.int .u64 (1:Nat)) V V V (λ_ h=>(E7 (h _ _ V) (h _ _ V) AD).to (s7 _ (Nh (v:=1) (wt:=0) AD))) (Bv (v:=.int .i32 (1:Nat)) V V V (λ_ h=>(Gy H.underlying_tU64 H.underlying_t21 (h _ _ V)).to (s7 _ (wrap_i32 AD))) ?_))))))
  refine BH 5 V (Bv (v:=.int .u64 (0:Nat)) V V V (λ_ h=>(Dt (h _ _ V) (h _ _ V)).to (s7 _ (NM (v:=1) (wt:=0) AD AD))) (Bv (v:=.int .u32 (0:Nat)) V V V (λ_ h=>(Gy H.underlying_tU64 H.underlying_tU32 (h _ _ V)).to (s7 _ (wrap_u32 AD))) ?_))
  refine BH 12 V (Bv (v:=.int .i32 1) V V V (λ_ h=>(Gy H.underlying_t3 H.underlying_t21 (h _ _ V)).to (s7 _ AD)) ?_)
  refine Bv (v:=.bool true) V V V (λ_ h=>(DN (h _ _ V) (h _ _ V)).to AM) (BH 6 V (Bv V V V (λ_ h=>B4 H.underlying_tWg V (Hz H.sizeOf_tU32) (h _ _ V)) (OG (p:=.J7 j) (q:=.Ja j) (ad:=F.mA) V I AM (λ_ _ _=>V) V V V V V H.underlying_tPU32 H.underlying_tUP H.room_tU32 V (.inr V) ?_)))
  exact SU (p:=.Ja j) (q:=.Ik j) (mk:=.read) (ad:=F.mA) (vs:=[.pointer (some F.mA)]) V I AM (λ_ _ _=>V) V V V V AM (cY H) V V (BH 5 V (Bv (v:=.bool false) V V V (λ_ h=>(Ee (h _ _ V) (h _ _ V)).to AM) (BH 7 V (Bv (v:=.bool false) V V V (λ_ h=>(Dj (h _ _ V) (h _ _ V)).to AM) (BH 17 V (Bv (v:=.bool true) V V V (λ_ h=>(Hq (h _ _ V) (h _ _ V)).to AM) (BH 6 V (IX V (JO.XL I V (KQ H) (D4 V (C0 H.f_add V) (back _ _ _ _ h)))))))))))
 .refine Bv V V V (λ_ h=>DE (h _ _ V)) (BH 5 V (Bv (v:=.int .u64 0) V V V (λ_ h=>(Dt (h _ _ V) (h _ _ V)).to (s7 _ (NC (v:=(v+1)) (wt:=0) AB AD))) (Bv V V V (λ_ h=>Dj (h _ _ V) (h _ _ V)) (BH 10 V (Bv (v:=.int .u64 ((v+1):Nat)) V V V (λ_ h=>(E7 (h _ _ V) (h _ _ V) AD).to (s7 _ (Nh (v:=(v+1)) (wt:=0) AD))) (Bv (v:=.int .i32 ((v+1):Nat)) V V V (λ_ h=>(Gy H.underlying_tU64 H.underlying_t21 (h _ _ V)).to (s7 _ (wrap_i32 AB))) ?_))))))
  refine BH 5 V (Bv (v:=.int .u64 (0:Nat)) V V V (λ_ h=>(Dt (h _ _ V) (h _ _ V)).to (s7 _ (NM (v:=(v+1)) (wt:=0) AB AD))) (Bv (v:=.int .u32 (0:Nat)) V V V (λ_ h=>(Gy H.underlying_tU64 H.underlying_tU32 (h _ _ V)).to (s7 _ (wrap_u32 AD))) ?_))
  refine BH 12 V (Bv (v:=.int .i32 1) V V V (λ_ h=>(Gy H.underlying_t3 H.underlying_t21 (h _ _ V)).to (s7 _ AD)) ?_)
  exact Bv (v:=.bool false) V V V (λ_ h=>(DN (h _ _ V) (h _ _ V)).to (by simp<;>omega)) (BH 8 V (Bv (v:=.bool false) V V V (λ_ h=>(Ee (h _ _ V) (h _ _ V)).to (by simp<;>omega)) (BH 7 V (Bv (v:=.bool false) V V V (λ_ h=>(Dj (h _ _ V) (h _ _ V)).to AM) (BH 17 V (Bv (v:=.bool true) V V V (λ_ h=>(Hq (h _ _ V) (h _ _ V)).to (by simp<;>omega)) (BH 6 V (IX V (JO.XL I V (KQ H) (D4 V (C0 H.f_add V) (back _ _ _ _ h)))))))))))
omit H in
theorem bA{m:Nat}:∀v wt sm r,F.act (.Ht m) v wt sm=some r->r.1=(v,wt,sm)/\r.2.1=#[Fam.CR F.sA]:=by
 intro v wt sm r h;simp only[Fam.act] at h;split at h;rename_i I;obtain⟨_,rfl⟩:=I;cases h;exact⟨V,V⟩;cases h
omit H in
theorem ep{m v wt:Nat}{r}(h:F.act (.Ht m) v wt sm=some r):v<=m/\wt=0/\r.2.2=if v=0 then .ph .Hx else .ph (.IE v):=by
 simp only[Fam.act] at h;split at h;rename_i I;cases h;exact⟨I.1,I.2,V⟩;cases h
omit H in
theorem au:∀v wt sm r,F.act .Iz v wt sm=some r->r.1=(v,wt,sm)/\r.2.1=#[Fam.CR F.sA]:=by
 intro v wt sm r h;simp only[Fam.act] at h;split at h;rename_i I;obtain⟨rfl,rfl⟩:=I;cases h;exact⟨V,V⟩;cases h
omit H in
theorem bV{v wt:Nat}{r}(h:F.act .Iz v wt sm=some r):v=0/\wt=0/\r.2.2=.ph .Hx:=by
 simp only[Fam.act] at h;split at h;rename_i I;cases h;exact⟨I.1,I.2,V⟩;cases h
omit H in
theorem cW{v:Nat}(I:v<2147483648):IntKind.u64.wrap (Fam.word v 0+1)=Fam.word v 1:=by
 simp only[Fam.word,Fam.KK,IntKind.wrap,IntKind.bits,IntKind.signed];simp;omega
theorem JL.wait(aj:F.n<2147483648)(I:s.q=false)(al:ops[i]?=some ⟨d,.call ⟨.value (.func L.wait),#[x],ats⟩,ty,pp,af,g⟩)(hw:A9 M ops ⟨d,.call ⟨.value (.func L.wait),#[x],ats⟩,ty,pp,af,g⟩=some true)(am:((b.kind != .early)&&BC n d)=true)
  (ap:ev M x=some (.pointer (some F.sA)))
  {Q:GP}(ag:∀g s,(H7 P).ok Q g s->F.fin g s)
  (h:∀E' f,Le s.E E'->E' F.fd=none->(∀b,E' b≠none->s.H b=none)->(∀k,k<F.n->F.msg k (f k) E')->JL (H7 P) Q b n (AG M d (.tuple #[])) ds (Ah ops rest k) cs ⟨E',F.LD s.H f,false⟩):
  JL (Bo P true) (Stop P F .EL) b n M ds (Ag ops i rest k) cs s:=by
 refine Iv (vs:=[.pointer (some F.sA)]) al hw am H.f_wait (nm_wait L) V (by simp[evs,ap]) (sZ V) λaw back=>BH 3 V (Ot (p:=.EL) (q:=.Ht F.n) V I AM (λ_ _ _=>V) V V V V V AM (PK H) (BH 2 V (Ki (EU (L':=[(0,.pointer (some F.sA))]) Ad ?_))));generalize F.n=m at aj ⊢
 induction m using Nat.strongRecOn with
 | _ m aq=>?_
 refine BH 5 V (Bv V V V (λ_ h=>B4 H.underlying_tWg V (Hz H.sizeOf_tAU) (h _ _ V)) (JL.uLoad H (p:=.Ht m) V I AM V bA V V V V λv wt sm r O=>?_));obtain⟨ay,rfl,e⟩:=ep O;have K:v<2147483648:=by omega
 by_cases ai:v=0
 .subst ai;refine ⟨.Hx,e,BH 5 V (Bv (v:=.int .u64 (0:Nat)) V V V (λ_ h=>(E7 (h _ _ V) (h _ _ V) AD).to (s7 _ (Nh (v:=0) (wt:=0) AD))) (Bv (v:=.int .i32 (0:Nat)) V V V (λ_ h=>(Gy H.underlying_tU64 H.underlying_t21 (h _ _ V)).to (s7 _ (wrap_i32 AD))) ?_))⟩
  refine BH 5 V (Bv (v:=.int .u64 ((0:Nat):Int)) V V V (λ_ h=>(Dt (h _ _ V) (h _ _ V)).to (s7 _ (NM (v:=0) (wt:=0) AD AD))) (Bv (v:=.int .u32 ((0:Nat):Int)) V V V (λ_ h=>(Gy H.underlying_tU64 H.underlying_tU32 (h _ _ V)).to (s7 _ (wrap_u32 AD))) ?_))
  refine BH 6 V (Bv (v:=.bool true) V V V (λ_ h=>(DN (h _ _ V) (h _ _ V)).to AM) (BH 6 V (Ot (p:=.Hx) (q:=.J1) V I AM (λ_ _ _=>V) V V V V V AM (KQ H) (BH 3 V (OG (p:=.J1) (q:=.HH) (ad:=F.sA) V I AM (λ_ _ _=>V) V V V V V H.underlying_tWgP H.underlying_tUP H.room_tWg V (.inl V) ?_)))))
  refine XY (vs:=[.pointer (some F.sA)]) I V V V V (SD H) V V λE' U z1 Y Z ac T av=>ag _ _ ?_;revert T;refine(?_:JL (H7 P) Q _ _ _ _ _ _ _);refine BH 5 V (Bv (v:=.bool true) V V V (λ_ h=>(DN (h _ _ V) (h _ _ V)).to AM) ?_);refine BH 2 V (Bv (v:=.int .u64 0) V V V (λ_ h=>(Dt (h _ _ V) (h _ _ V)).to (s7 _ (NC (v:=0) (wt:=0) AD AD))) ?_);refine Bv (v:=.bool false) V V V (λ_ h=>(Dj (h _ _ V) (h _ _ V)).to AM) (BH 8 V ?_);exact CT V V (C0 H.f_wait V) (back _ _ _ _ (h E' U z1 Y Z ac))
 .refine⟨.IE v,by rw[e,d0 ai],?_⟩;refine BH 5 V (Bv (v:=.int .u64 (v:Nat)) V V V (λ_ h=>(E7 (h _ _ V) (h _ _ V) AD).to (s7 _ (Nh (v:=v) (wt:=0) AD))) (Bv (v:=.int .i32 (v:Nat)) V V V (λ_ h=>(Gy H.underlying_tU64 H.underlying_t21 (h _ _ V)).to (s7 _ (wrap_i32 K))) ?_))
  refine BH 5 V (Bv (v:=.int .u64 ((0:Nat):Int)) V V V (λ_ h=>(Dt (h _ _ V) (h _ _ V)).to (s7 _ (NM (v:=v) (wt:=0) K AD))) (Bv (v:=.int .u32 ((0:Nat):Int)) V V V (λ_ h=>(Gy H.underlying_tU64 H.underlying_tU32 (h _ _ V)).to (s7 _ (wrap_u32 AD))) ?_))
  refine BH 6 V (Bv (v:=.bool false) V V V (λ_ h=>(DN (h _ _ V) (h _ _ V)).to (by simp<;>omega)) (BH 7 V (Bv V V V (λ_ h=>B4 H.underlying_tWg V (Hz H.sizeOf_tAU) (h _ _ V)) (BH 2 V (Bv (v:=.int .u64 (Fam.word v 1)) V V V (λ_ h=>(Yl.add (h _ _ V) (h _ _ V)).to (s7 _ (cW K))) (JL.uCas H (m:=v) I V V V V V V ?_ ?_))))))
  .refine A1 (BH 6 V (Bv (v:=.bool true) V V V (λ_ h=>(DN (h _ _ V) (h _ _ V)).to AM) (BH 6 V (Bv V V V (λ_ h=>B4 H.underlying_tWg V (Hz H.sizeOf_tU32) (h _ _ V)) (OG (p:=.Ka) (q:=.Jl) (ad:=F.mA) V I AM (λ_ _ _=>V) V V V V V H.underlying_tPU32 H.underlying_tUP H.room_tU32 V (.inr V) ?_)))))
   refine SU (p:=.Jl) (q:=.GV) (mk:=.write) (ad:=F.mA) (vs:=[.pointer (some F.mA)]) V I AM (λ_ _ _=>V) V V V V AM (bU H) V V (BH 9 V (Bv (v:=.int .u64 0) V V V (λ_ h=>(Dt (h _ _ V) (h _ _ V)).to (s7 _ (NC (v:=v) (wt:=0) K AD))) (Bv (v:=.bool false) V V V (λ_ h=>(Dj (h _ _ V) (h _ _ V)).to AM) (BH 10 V (Bv V V V (λ_ h=>B4 H.underlying_tWg V (Hz H.sizeOf_tU32) (h _ _ V)) (BH 1 V (aT (vs:=[.pointer (some F.mA),.bool false]) I V V V V (aa H) V V (BH 5 V (Bv V V V (λ_ h=>B4 H.underlying_tWg V (Hz H.sizeOf_tAU) (h _ _ V)) (JL.uLoad H (p:=.Iz) V I AM V au V V V V λv wt sm r O=>?_))))))))));obtain⟨rfl,rfl,e⟩:=bV O;refine ⟨.Hx,e,Bv (v:=.bool false) V V V (λ_ h=>(Dj (h _ _ V) (h _ _ V)).to (by simp[Fam.word])) (BH 6 V (Ot (p:=.Hx) (q:=.J1) V I AM (λ_ _ _=>V) V V V V V AM (KQ H) (BH 3 V (OG (p:=.J1) (q:=.HH) (ad:=F.sA) V I AM (λ_ _ _=>V) V V V V V H.underlying_tWgP H.underlying_tUP H.room_tWg V (.inl V) ?_))))⟩
   refine XY (vs:=[.pointer (some F.sA)]) I V V V V (SD H) V V λE' U z1 Y Z ac T av=>ag _ _ ?_;revert T;refine(?_:JL (H7 P) Q _ _ _ _ _ _ _);exact BH 8 V (CT V V (C0 H.f_wait V) (back _ _ _ _ (h E' U z1 Y Z ac)))
  .exact A1 (BH 3 V (CY (EU (L':=[(0,.pointer (some F.sA))]) Ad (aq (v - 1) AB AB))))
theorem JO.mc(I:b.roundOf=none)(K:s.q=false)(h:JO (JD P) (Kx P 0) b n M ds cs .quiet):
  JO (Bo P false) (Stop P F .Jk) b n M (dcall L.done #[.pointer (some F.sA)]::ds) cs s:=by
 exact JO.enter (vs:=[.pointer (some F.sA)]) I H.f_done (nm_done L) V (sZ V) λT O todo=>BH 2 V (bL H K V V V V V (A1 (H3 V (Ga V H.f_done V (.inl V) (h T O todo)))))
end
end Pal
namespace Pal
open Go Go.Conc
variable {P:Program}{J:Judge P}{Q:Gs_}{g:Goroutine}{cs:Lf_}{c:Frame}{E:LH}{S S':List Seg}
variable{f:FuncId}{vs:Lv_}{seg:Seg}{R:Value->LH->Seg->Prop}
section
variable {H:LH}
theorem Qt(I:S.flatten.Perm S'.flatten)(K:Aw E H S)(h:Aw E H S'->J.ok Q g (Ao E H S')):J.ok Q g (Ao E H S):=by
 have O:Ao E H S=Ao E H S':=Gk K I;rw[O];exact h (Cj K I)
theorem Ts(I:S'.flatten=S.flatten)(K:Aw E H S)(h:Aw E H S'->J.ok Q g (Ao E H S')):J.ok Q g (Ao E H S):=Qt (by rw[I]) K h
theorem dS(j:Nat)(ag:A2 J f vs E seg R)(I:Aw E H S)(K:S[j]?=some seg)
  (ai:∀v E' seg',Le E E'->R v E' seg'->Aw E' H (S.set j seg')->J.ok Q (G (c.finish v) cs) (Ao E' H (S.set j seg'))):
  J.ok Q (G (Frame.enter P f vs.toArray .normal) (c::cs)) (Ao E H S):=by
 have O:S.flatten.Perm (seg++(S.set j []).flatten):=(CB (seg':=seg) K).1.trans lF;have U:Nd E H (seg++(S.set j []).flatten):=Cj I O;have aj:Ao E H S=mk E (Bu (S.set j []).flatten H) seg:=by
  rw[show Ao E H S=mk E H S.flatten from rfl,Gk I O];unfold mk;rw[G8]
 have Y:=Id (ag (Bu (S.set j []).flatten H) (Ef U)) (by rintro v s' ⟨E',B',_,_,_,rfl⟩;rfl);rw[← aj] at Y;refine Y Q c cs ?_;rintro v a1 ⟨⟨E',B',hle,al,am,rfl⟩,w,ap⟩;have e2:mk E' (Bu (S.set j []).flatten H) B'=mk E' H (B'++(S.set j []).flatten):=by unfold mk;rw[G8]
 have aq:Nd E H (S.set j []).flatten:=by
  have:=U;rw[Ea] at this ⊢;rw[tE,tU] at this;exact⟨this.1.2.1,λq av=>this.2 q (tG _ av)⟩
 have aw:Nd E' H (S.set j []).flatten:=aq.grow λx ay=>by
  have az:=ap.d x ay;have a0:Bu B' (Bu (S.set j []).flatten H) x=none:=az;exact(IW a0).1
 have Z:Nd E' H (B'++(S.set j []).flatten):=EQ am aw;rw[e2];have ac:(B'++(S.set j []).flatten).Perm (S.set j B').flatten:=lF.trans (CB K).2.symm;rw[Gk Z ac];exact ai v E' B' hle al (Cj Z ac)
end
variable {b:Frame}{L:Env}{ds:Ld_}{k:Li_}{ops:Ao_}{i:Nat}{rest:List Nat}{d:Option Tmp}{t ty e:TypeId}{p:String}{af:Ae_}
section
variable {n:Nat}{H:LH}{g:On_}
end
theorem aR{E H:LH}{a b c:Nat}{I K O:Obj}(Z:Aw E H [[(a,I)],[(b,K)],[(c,O)]]):(⟨E,Ly (Ao E H [[(a,I)],[(b,K)],[(c,O)]]).H b a c,false⟩:St)=Ao E H []:=by
 have h:=Nd.iff.1 Z;have ac:H a=none:=(h.2 (a,I) AM).2;have ag:H b=none:=(h.2 (b,K) AM).2;have ai:H c=none:=(h.2 (c,O) AM).2;unfold Ao mk;congr 1;funext x;simp only[Ly,Ao,mk,tk,vi,s6,tH,tB,Bu];by_cases U:x=a;subst U;simp[ac];by_cases e2:x=b;subst e2;simp[ag];by_cases Y:x=c;subst Y;simp[ai];simp[U,e2,Y]
theorem HR{P:Program}{J:Judge P}{Q:Gs_}{b:Frame}{n:Nat}{L:Env}{ds:Ld_}{cs:Lf_}{E H:LH}{S:List Seg}{todo:Li_}{A B:Seg}(j I:Nat)(K:S[j]?=some A)(Y:(S.set j [])[I]?=some B)(Z:Aw E H S)
  (h:Aw E H (((S.set j []).set I []).set j (A++B))->JL J Q b n L ds todo cs (Ao E H (((S.set j []).set I []).set j (A++B)))):JL J Q b n L ds todo cs (Ao E H S):=by
 refine Cw ?_ Z h;have O:j<S.length:=(d7.1 K).1;have ac:=(CB (seg':=A) K).1;have ag:=(CB (seg':=B) Y).1;have ai:((S.set j []).set I [])[j]?=some []:=by
  by_cases e:I=j;subst e;rw[tC (by simpa using O)];rw[s0 e,tC O]
 have U:=(CB (seg':=A++B) ai).2;have aj:(((S.set j []).set I []).set j [])=(S.set j []).set I []:=by
  by_cases e:I=j;subst e;simp;rw[uT _ _ e];simp
 rw[aj] at U;refine ac.trans (List.Perm.trans ?_ U.symm);refine(wd A ag).trans ?_;rw[lZ];exact tL _ lF
def WL{α:Type}(e:TypeId)(pp:Rp α)(E:LH)(bk c n:Nat)(f:Av_)(xs:List α):Prop:=
 OL e pp E (some ⟨bk,0,none⟩) c [(bk,.cells f e (0,0))] xs/\xs.length=n
variable{α:Type}{bk:Nat}
theorem WL.Aj{e:TypeId}{pp:Rp α}{E E':LH}{c n:Nat}{f:Av_}{xs:List α}(h:WL e pp E bk c n f xs)(hle:Le E E'):WL e pp E' bk c n f xs:=⟨h.1.Aj hle,h.2⟩
theorem WL.at{e:TypeId}{pp:Rp α}{E:LH}{c n:Nat}{f:Av_}{xs:List α}{m:Int}{x:α}(h:WL e pp E bk c n f xs)(hm:ix xs m=some x):
  ∃ws,pp.r E ws x/\(∀j w,ws[j]?=some w->f[m.toNat*pp.n+j]?=some w):=by
 let⟨ws,I,K,_,_⟩:=OL.again h.1 hm V;exact⟨ws,I,K⟩
abbrev Cr:=@WL.at
theorem WL.put{e:TypeId}{pp:Rp α}{E:LH}{c n:Nat}{f:Av_}{xs I:List α}{m:Int}{x0 x':α}{ws':Lv_}(h:WL e pp E bk c n f xs)(K:I.length=n)(hm:ix I m=some x0)(O:pp.r E ws' x'):
  WL e pp E bk c n (Be f (m.toNat*pp.n) ws') (xs.set m.toNat x')/\m.toNat*pp.n+pp.n<=f.size:=by
 obtain⟨mm,rfl,U⟩:=Ge hm;have Y:mm<xs.length:=by rw[h.2,← K];exact(d7.1 U).1
 have Z:ix xs (mm:Int)=some xs[mm]:=by simp[ix,Y]
 let⟨ws,ai,aj,ac,ag⟩:=OL.again h.1 Z V;exact⟨⟨ag x' ws' O,by rw[sW];exact h.2⟩,ac⟩
abbrev D8:=@WL.put
theorem OL.cases{e:TypeId}{pp:Rp α}{E:LH}{a:Option Addr}{c:Nat}{xs:List α}(h:OL e pp E a c seg xs):
  (a=none/\c=0/\seg=[]/\xs=[])∨∃bk f,a=some ⟨bk,0,none⟩/\seg=[(bk,.cells f e (0,0))]/\WL e pp E bk c xs.length f xs:=by
 have U:=h;obtain⟨wss,hg,Z,ac⟩:=h;rcases hg with⟨I,K,O,Y,ag⟩ | ⟨bk,f,I,K,O⟩;exact .inl ⟨I,O,Y,vp.1 K⟩;subst I K;exact .inr ⟨bk,f,V,V,U,V⟩
theorem WL.of{e:TypeId}{pp:Rp α}{E:LH}{a:Option Addr}{c:Nat}{xs:List α}{m:Int}{x:α}(h:OL e pp E a c seg xs)(hm:ix xs m=some x):
  ∃bk f,(a=some ⟨bk,0,none⟩/\seg=[(bk,.cells f e (0,0))])/\WL e pp E bk c xs.length f xs:=by
 rcases OL.cases h with⟨_,_,_,rfl⟩ | ⟨bk,f,I,K,O⟩;let⟨k,_,h⟩:=Ge hm;simp at h;exact⟨bk,f,⟨I,K⟩,O⟩
theorem I5{P:Program}{s:St}{ρ:Operand->Value}{x y:Operand}{d:Option Tmp}{t ty e:TypeId}{p:String}{af:Ae_}{g:On_}{kd:IntKind}{xs:List α}{xv:α}{m:Int}{c sz n:Nat}(I:xs.length=n)(hm:ix xs m=some xv)(ht:P.underlying t=some (.slice e))(K:BA P e=some sz)(O:ρ x=.slice (some ⟨bk,0,none⟩) n c)(U:ρ y=.int kd m):
  Yl P ⟨d,.indexAddr t x y,ty,p,af,g⟩ ρ s (.pointer (some ⟨bk,m.toNat*sz,none⟩)):=by
 subst I;exact Tj hm ht K O U
variable{ats:Array TypeId}
theorem Qj{P:Program}{s:St}{ρ:Operand->Value}{x:Operand}{d:Option Tmp}{t ty e:TypeId}{p:String}{af:Ae_}{g:On_}{xs:List α}{a:Option Addr}{n c:Nat}(I:xs.length=n)(K:ats[0]?=some t)(ht:P.underlying t=some (.slice e))(O:ρ x=.slice a n c):
  Yl P ⟨d,.call ⟨.builtin .len,#[x],ats⟩,ty,p,af,g⟩ ρ s (.int .i64 (xs.length:Int)):=by
 subst I;exact Fo K ht O
variable {fuel:Nat}{D:Nat->Bool}{listed:Array Bool}{s:St}{E':LH}
variable {x y:Operand}{u:TypeId}{v:Value}{kd:IntKind}
variable{args:Array Operand}
section
variable {n m:Nat}{H:LH}
variable {g:On_}
theorem cB{R:Value->St->Prop}(O:s.q=false)(U:Region.ready .any ops listed=[i])
  (Y:ops[i]?=some ⟨d,.call ⟨.value x,args,ats⟩,ty,p,af,g⟩) (Z:ev L x=some (.func (.func f) #[] #[])) (ac:BC n d=true) (hw:A9 L ops ⟨d,.call ⟨.value x,args,ats⟩,ty,p,af,g⟩=some true) (hb:ET P f=true) (ag:evs L args.toList=some vs)
  (ai:F2 J f vs.toArray s R) (h:∀v I,R v I->I.q=false/\(∀x o,(BK D s).E x=some o->(BK D I).E x=some o)/\AU J Q b n ds ops k cs m D fuel (Bp listed i) (AG L d v) I):
  AU J Q b n ds ops k cs m D (fuel+1) listed L s:=by
 refine AU.one O U Y (by simp[EP,ac]) hw λρ K=>?_;have aj:args.map ρ=vs.toArray:=by
  rw[← HP K ag];apply ut;simp
 have al:ρ x=.func (.func f) #[] #[]:=K _ _ Z;simp only[execOp,resolve,bind,Sem.bind,Deferred.ofValue,al,pure,invoke];have e: #[]++args.map ρ++ #[]=vs.toArray:=by rw[aj];simp
 rw[e];refine KP hb ?_;rw[Nc];exact⟨R,ai,h⟩
theorem Jz{bks:List Nat}(ag:IA S bks)(ai:A2 J f vs E [] R)(aj:Region.ready .any ops listed=[i])
  (al:ops[i]?=some ⟨d,.call ⟨.value x,args,ats⟩,ty,p,af,g⟩) (I:ev L x=some (.func (.func f) #[] #[])) (am:BC n d=true) (hw:A9 L ops ⟨d,.call ⟨.value x,args,ats⟩,ty,p,af,g⟩=some true) (hb:ET P f=true) (ap:evs L args.toList=some vs) (U:Aw E H S)
  (aq:∀v E' seg',Le E E'->R v E' seg'->Aw E' H (S++ [seg'])->AU J Q b n ds ops k cs m (AO bks) fuel (Bp listed i) (AG L d v) (Ao E' H (S++ [seg']))):
  AU J Q b n ds ops k cs m (AO bks) (fuel+1) listed L (Ao E H S):=by
 refine have av:=Id (ai (Bu S.flatten H) trivial) (by rintro v s' ⟨E',B',_,_,_,rfl⟩;rfl);cB V aj al I am hw hb ap av ?_;rintro v a4 ⟨⟨E',B',hle,aw,ay,rfl⟩,w,az⟩;have e2:mk E' (Bu S.flatten H) B'=mk E' H (B'++S.flatten):=by unfold mk;rw[G8]
 have a0:Nd E' H S.flatten:=Nd.grow U λx I=>by
  have a1:=az.d x I;have O:Bu B' (Bu S.flatten H) x=none:=a1;exact(IW O).1
 have Y:Nd E' H (B'++S.flatten):=EQ ay a0;have Z:(B'++S.flatten).Perm (S++ [B']).flatten:=by rw[Gx];exact lF
 have ac:Aw E' H (S++ [B']):=Cj Y Z;rw[e2,Gk Y Z];refine⟨V,λx o I=>?_,aq v E' B' hle aw ac⟩;by_cases hd:AO bks x=true
 .obtain⟨j,o',hj⟩:=ag.mem x (by simpa [AO] using hd);have O:(Ao E H S).get x=some o':=Ew (i:=0) U hj V;have a2:j<S.length:=(d7.1 hj).1;have a3:(Ao E' H (S++ [B'])).get x=some o':=Ew (i:=0) ac (by rw[sX a2];exact hj) rfl;have K:(if AO bks x then(Ao E H S).get x else E x)=some o:=I
  show(if AO bks x then(Ao E' H (S++ [B'])).get x else E' x)=some o
  rw[d9 hd] at K ⊢;rw[a3,← O];exact K
 .have K:(if AO bks x then(Ao E H S).get x else E x)=some o:=I
  show(if AO bks x then(Ao E' H (S++ [B'])).get x else E' x)=some o
  rw[d0 hd] at K ⊢;exact hle _ _ K
end
section
variable {n:Nat}{H:LH}
variable {g:On_}
theorem Mh
  (K:A2 J f vs E [] R) (O:ops[i]?=some ⟨d,.call ⟨.value x,args,ats⟩,ty,p,af,g⟩) (U:ev L x=some (.func (.func f) #[] ([]:Lv_).toArray)) (hw:A9 L ops ⟨d,.call ⟨.value x,args,ats⟩,ty,p,af,g⟩=some true) (Y:((b.kind != .early)&&BC n d)=true) (hb:ET P f=true)
  (Z:evs L args.toList=some vs) (ac:Aw E H S) (ag:∀v E' seg',Le E E'->R v E' seg'->Aw E' H (S++ [seg'])->JL J Q b n (AG L d v) ds (Ah ops rest k) cs (Ao E' H (S++ [seg']))):
  JL J Q b n L ds (Ag ops i rest k) cs (Ao E H S):=by
 have ai:Im J (.func (.func f) #[] ([]:Lv_).toArray) vs E [] R:=Hk hb (by rw[s6];exact K);have aj:Aw E H (S++ [[]]):=by unfold Aw at*;rw[Gx,s6];exact ac
 have al:Ao E H S=Ao E H (S++ [[]]):=by unfold Ao;rw[Gx,s6]
 rw[al];refine Ni (seg:=[]) S.length ai O hw Y U Z aj AM λv E' seg' hle am I=>?_;have ap:(S++ [([]:Seg)]).set S.length seg'=S++ [seg']:=I2 _ _ _ _;rw[ap] at I ⊢;exact ag v E' seg' hle am I
end
def J2(a b:Int):Option Int:=if b=0 then none else Ax (a.tdiv b)
def UX(l:List Nat)(i:Int):Option Nat:=if 0<=i then l[i.toNat]? else none
variable {ρ:Operand->Value}{z:Operand}{kd':IntKind}{m':Int}{a:Nat}
variable{r:Int}
section
variable {g:On_}{m:Int}{b:Nat}
theorem Mm(I:ρ x=iV m)(K:ρ y=iV m')(h:J2 m m'=some r):Yl P ⟨d,.binOp .quo t x y u,ty,p,af,g⟩ ρ s (iV r):=by
 unfold J2 at h;split at h;cases h
 .rename_i O;obtain⟨rfl,hb⟩:=Na h;have:=Yl.quo (P:=P) (s:=s) (d:=d) (t:=t) (u:=u) (ty:=ty) (p:=p) (af:=af) (g:=g) I K O
  rwa[Lt hb] at this
theorem nI{a:Nat}:IntKind.u8.wrap (a:Int)=((a%256:Nat):Int):=by
 simp only[IntKind.wrap,IntKind.bits,IntKind.signed];simp
theorem gp(ht:P.underlying t=some (.int .u64))(hu:P.underlying u=some (.int .u8))(I:ρ x=.int .u64 (a:Int)):Yl P ⟨d,.convert t u x,ty,p,af,g⟩ ρ s (.int .u8 ((a%256:Nat):Int)):=by
 have h:=Gy (P:=P) (s:=s) (d:=d) (ty:=ty) (p:=p) (af:=af) (g:=g) ht hu I
 rw[nI] at h;exact h
theorem fy(ht:P.underlying t=some (.int .u8))(hu:P.underlying u=some (.int .i64))(I:ρ x=.int .u8 (a:Int))(h:Ax ((a:Nat):Int)=some r):Yl P ⟨d,.convert t u x,ty,p,af,g⟩ ρ s (iV r):=by
 obtain⟨rfl,hb⟩:=Na h;have h:=Gy (P:=P) (s:=s) (d:=d) (ty:=ty) (p:=p) (af:=af) (g:=g) ht hu I
 rwa[Lt hb] at h
theorem bJ{l:List Nat}{bs:ByteArray}{r:Nat}(K:(bs.data.toList.map UInt8.toNat==l)=true)(ht:P.underlying t=some .string)(O:ρ y=.int kd m)(U:ρ (.const (.string bs))=.string bs)(h:UX l m=some r):Yl P ⟨d,.index t (.const (.string bs)) y,ty,p,af,g⟩ ρ s (.int .u8 (r:Int)):=by
 unfold UX at h;split at h
 .rename_i Y;have Z:=eq_of_beq K;rw[← Z,tV] at h;obtain⟨I,hb,rfl⟩:=tr.1 h;have ac:bs[m.toNat]?=some I:=by
   have ag:bs.data[m.toNat]?=some I:=by rw[← tN];exact hb
   let⟨ai,aj⟩:=f7.1 ag;rw[getElem?_pos bs m.toNat ai];exact s7 some aj
  simp[Yl,execOp,lp,pure,bind,Sem.bind,U,O,Instr.index,underlying,program,ht,Y,ac,asIntOf]
 .cases h
end
end Pal
