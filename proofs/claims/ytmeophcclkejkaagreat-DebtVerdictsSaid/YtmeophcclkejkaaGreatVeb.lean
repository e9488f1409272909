/- DebtVerdicts: a part (2 of 9) of the proof of its row. -/
import Derived.Test.YtmeophcclkejkaaGreatVea
import Derived.Conc.CrowdComm
import Derived.Conc.TokenWalk
import Derived.Conc.MarkLaws
import Derived.Conc.AtomicLaws2
import Derived.Conc.ClockLaws
import Derived.Conc.WgLib
import Derived.Conc.WgArith
import Derived.Conc.WgGenW
set_option linter.all false
set_option maxRecDepth 100000
namespace Pal
open Go Go.Conc
open Go.ConcN (upd upd_same upd_ne)
section
variable {t u:Trace}{w w':World}{N:Nat}{S:Nat->St}{Sh:Nat->Prop}
theorem Cd.ext(h:Cd t w N S Sh)(ac:∀said,¬Race said (t++u))(hu:∀op∈u,∀a,op.act.touch? =some a->∀b,Db a.loc=some b->Sh b)
  (ag:∀op∈u,op.act.low w.heap.size) (hs:w'.heap.size=w.heap.size) (hw:∀b,¬Sh b->w'.heap[b]? =w.heap[b]?):Cd (t++u) w' N S Sh:=by
 have hold:∀x a b,touchAt (t++u) x=some a->Db a.loc=some b->¬Sh b->touchAt t x=some a:=by
  intro x a b U hb O;obtain⟨op,K,Z⟩:=touch_of U;rcases getElem?_append_cases K with⟨av,al⟩ | ⟨_,am⟩
  ·rw [touchAt_of al];exact Z
  ·exact absurd (hu op am a Z b hb) O
 have O:∀i,i<N->∀b,((S i).H b≠none∨(S i).E b≠none)->¬Sh b:=by
  intro i hi b hb ap;have:=h.sh i hi b ap;exact hb.elim (λx=>x this.1) (λx=>x this.2)
 refine⟨λi hi=>⟨λb o K=>?_,λb o K=>?_,(h.fits i hi).d⟩,h.hh,h.sh,λb hb=>by rw [hs];exact h.GI b hb,ac,λop K=>?_,λi hi b hb x a U Y=>?_,λi hi b hb x a U Y aq=>?_⟩
 ·rw [hw b (O i hi b (.inr (by rw [K];simp)))];exact(h.fits i hi).e b o K
 ·rw [hw b (O i hi b (.inl (by rw [K];simp)))];exact(h.fits i hi).h b o K
 ·rcases Array.mem_append.1 K with K | K
  ·rw [hs];exact h.low op K
  ·rw [hs];exact ag op K
 ·exact(h.kH i hi b hb x a (hold x a b U Y (O i hi b (.inl hb))) Y).app _
 ·exact(h.kE i hi b hb x a (hold x a b U Y (O i hi b (.inr hb))) Y aq).app _
theorem Cd.congr{S':Nat->St}(h:Cd t w N S Sh)(K:∀i,i<N->(S' i).E=(S i).E/\(S' i).H=(S i).H):Cd t w N S' Sh:=by
 refine⟨λi hi=>⟨by rw [(K i hi).1];exact(h.fits i hi).e,by rw [(K i hi).2];exact(h.fits i hi).h,by rw [(K i hi).1,(K i hi).2];exact(h.fits i hi).d⟩,λi j hi O U b=>?_,λi hi b=>?_,h.GI,h.clean,h.low,λi hi b=>?_,λi hi b=>?_⟩
 ·rw [(K i hi).2,(K j O).1,(K j O).2];exact h.hh i j hi O U b
 ·rw [(K i hi).1,(K i hi).2];exact h.sh i hi b
 ·rw [(K i hi).2];exact h.kH i hi b
 ·rw [(K i hi).1];exact h.kE i hi b
theorem Cd.less(h:Cd t w N S Sh){i:Nat}{s':St}(al:∀b o,s'.E b=some o->(S i).E b=some o)(am:∀b o,s'.H b=some o->(S i).H b=some o):Cd t w N (upd S i s') Sh:=by
 have Y:∀j b o,(upd S i s' j).E b=some o->(S j).E b=some o:=by
  intro j b o K;by_cases e:j=i
  ·subst e;rw [upd_same] at K;exact al b o K
  ·rwa [upd_ne _ _ e] at K
 have e2:∀j b o,(upd S i s' j).H b=some o->(S j).H b=some o:=by
  intro j b o K;by_cases e:j=i
  ·subst e;rw [upd_same] at K;exact am b o K
  ·rwa [upd_ne _ _ e] at K
 have n1:∀j b,(S j).E b=none->(upd S i s' j).E b=none:=by
  intro j b hb;cases U:(upd S i s' j).E b with
  | none=>rfl
  | some o=>rw [Y j b o U] at hb;cases hb
 have n2:∀j b,(S j).H b=none->(upd S i s' j).H b=none:=by
  intro j b hb;cases U:(upd S i s' j).H b with
  | none=>rfl
  | some o=>rw [e2 j b o U] at hb;cases hb
 have p1:∀j b,(upd S i s' j).E b≠none->(S j).E b≠none:=λj b hb x=>hb (n1 j b x);have p2:∀j b,(upd S i s' j).H b≠none->(S j).H b≠none:=λj b hb x=>hb (n2 j b x);exact⟨λj O=>⟨λb o K=>(h.fits j O).e b o (Y j b o K),λb o K=>(h.fits j O).h b o (e2 j b o K),λb hb=>n2 j b ((h.fits j O).d b (p1 j b hb))⟩,
  λa c Z ac ag b hb=>⟨n2 c b (h.hh a c Z ac ag b (p2 a b hb)).1,n1 c b (h.hh a c Z ac ag b (p2 a b hb)).2⟩,
  λj O b hb=>⟨n2 j b (h.sh j O b hb).1,n1 j b (h.sh j O b hb).2⟩,h.GI,h.clean,h.low,
  λj O b hb=>h.kH j O b (p2 j b hb),λj O b hb=>h.kE j O b (p1 j b hb)⟩
theorem Cd.push(h:Cd t w N S Sh){i:Nat}(hi:i<N){E:LH}(ac:∀b o,E b=some o->(S i).E b=some o)
  (am:∀b,E b≠none->∀x a,touchAt t x=some a->Db a.loc=some b->a.write=true->Knows t N x):Cd t w (N+1) (upd S N ⟨E,λ_=>none,false⟩) Sh:=by
 have O:∀j,j<N->upd S N ⟨E,λ_=>none,false⟩ j=S j:=λj K=>upd_ne _ _ (by omega);have aq:∀b,E b≠none->(S i).E b≠none:=λb hb=>by obtain⟨o,Y⟩:=Im hb;rw [ac b o Y];simp
 have al:∀b,(S i).E b=none->E b=none:=λb hb=>by
  cases ag:E b with
  | none=>rfl
  | some o=>rw [ac b o ag] at hb;cases hb
 have cs:∀j,j<N+1->j<N∨j=N:=λj K=>by omega
 constructor
 ·intro j K;rcases cs j K with K | rfl
  ·rw [O j K];exact h.fits j K
  ·rw [upd_same];exact⟨λb o Y=>(h.fits i hi).e b o (ac b o Y),λb o Y=>(by cases Y),λb _=>V⟩
 ·intro a c U Z ap b hb;rcases cs a U with U | rfl
  ·rw [O a U] at hb;rcases cs c Z with Z | rfl
   ·rw [O c Z];exact h.hh a c U Z ap b hb
   ·rw [upd_same];refine⟨V,al b ?_⟩;by_cases e:a=i
    ·subst e;cases ag:(S a).E b with
     | none=>rfl
     | some o=>exact absurd ((h.fits a U).d b (by rw [ag];simp)) hb
    ·exact(h.hh a i U hi e b hb).2
  ·rw [upd_same] at hb;exact absurd V hb
 ·intro j K b hb;rcases cs j K with K | rfl
  ·rw [O j K];exact h.sh j K b hb
  ·rw [upd_same];exact⟨V,al b (h.sh i hi b hb).2⟩
 ·exact h.GI
 ·exact h.clean
 ·exact h.low
 ·intro j K b hb;rcases cs j K with K | rfl
  ·rw [O j K] at hb;exact h.kH j K b hb
  ·rw [upd_same] at hb;exact absurd V hb
 ·intro j K b hb;rcases cs j K with K | rfl
  ·rw [O j K] at hb;exact h.kE j K b hb
  ·rw [upd_same] at hb;exact am b hb
theorem Cd.share(h:Cd t w N S Sh){i:Nat}(hi:i<N){b₀:Nat}{o₀:Obj}(U:(S i).H b₀=some o₀):
  Cd t w N (upd S i {S i with H:=λb=>if b=b₀ then none else(S i).H b}) (λb=>Sh b∨b=b₀):=by
 have K:Cd t w N (upd S i {S i with H:=λb=>if b=b₀ then none else(S i).H b}) Sh:=
  h.less (λb o O=>O) (λb o O=>by simp only at O;split at O <;> first | (cases O;done) | exact O)
 have ac:b₀<w.heap.size:=by
  have:=(h.fits i hi).h b₀ o₀ U;rcases Nat.lt_or_ge b₀ w.heap.size with Y | Y
  ·exact Y
  ·simp [Array.getElem?_eq_none Y] at this
 refine⟨K.fits,K.hh,λj Z b hb=>?_,λb hb=>hb.elim (K.GI b) (λe=>e▸ac),K.clean,K.low,K.kH,K.kE⟩;rcases hb with hb | rfl
 ·exact K.sh j Z b hb
 ·by_cases e:j=i
  ·subst e;rw [upd_same];refine⟨by simp,?_⟩;cases ag:(S j).E b with
   | none=>rfl
   | some o=>have:=(h.fits j Z).d b (by rw [ag];simp);rw [U] at this;cases this
  ·rw [upd_ne _ _ e];exact h.hh i j hi Z (Ne.symm e) b (by rw [U];simp)
end
open Go.ConcN (sumTo sumTo_upd)
abbrev GP:=Gs_
structure M4 where
 l:Bool
 k:Bool
 s:Bool
 w:Nat
instance:DecidableEq M4:=λa b=>decidable_of_iff (a.l=b.l/\a.k=b.k/\a.s=b.s/\a.w=b.w) ⟨λh=>by cases a;cases b;simp_all,λh=>by subst h;simp⟩
def M4.zero:M4:=⟨false,false,false,0⟩
def M4.num(m:M4):Int:=((m.l.toNat+2*m.k.toNat+4*m.s.toNat+8*m.w:Nat):Int)
inductive LP where
 | Gw | HE | EK (sv aw:Bool) (it:Nat) | CJ (sv aw:Bool) (it:Nat) (old:M4) | IB (sv:Bool) | CQ (sv:Bool) | Gu | EX (sv:Bool) | EI (ex:Bool) | len | K3 | Kh | F1
 | G4 | Kp | Kj | Kd | H8 | Fh (old:M4) | HG | FA (st:Bool) | FB
inductive Ph where
 | HB (k:Nat) | G2 | I9 | HI | Hg | HA | FL
 | DW | Gt (m:Nat) | HF (v:Nat) | Ic | FZ | Hz | GA | GH | H2
 | GK (j:Nat) | II (j:Nat) | H5 (j:Nat) | Hn (j:Nat) | Ge (j:Nat) | Hh | F8 (K:List Nat) (vs:Lv_)
 | Ia | IQ | IE | IL (j:Nat)
 | lk (k:Nat) (p:LP)
inductive Nx where
 | ph (p:Ph) | gone (d:Nat)
structure Fam where
 wg:Nat
 mu:Nat
 fd:Nat
 ty:TypeId
 dG:TypeId
 dE:TypeId
 n:Nat
 msg:Nat->Value->LH->Prop
 fin:GP
namespace Fam
variable (F:Fam)
def has(_:Fam)(_:Nat):Bool:=false
def KK:Int:=4294967296
def Ib(st sm:Int):Obj:= .cells #[.int .u64 st,.int .u32 sm] F.ty (0,0)
def word(v wt:Nat):Int:=(v:Int)*KK+wt
def WG(w:World)(v wt sm:Nat):Prop:=w.heap[F.wg]? =some (F.Ib (word v wt) sm)
def put(w:World)(v wt sm:Nat):World:={w with heap:=w.heap.setIfInBounds F.wg (F.Ib (word v wt) sm)}
def sA:Addr:=⟨F.wg,0,none⟩
def mA:Addr:=⟨F.wg,1,none⟩
def Ie(st sm:Int):Obj:= .cells #[.int .i32 st,.int .u32 sm] F.dG (0,0)
def MU(w:World)(m:M4)(q:Nat):Prop:=w.heap[F.mu]? =some (F.Ie m.num q)
def Ga(w:World)(m:M4)(q:Nat):World:={w with heap:=w.heap.setIfInBounds F.mu (F.Ie m.num q)}
def uA:Addr:=⟨F.mu,0,none⟩
def qA:Addr:=⟨F.mu,1,none⟩
def IM(f:Nat->Value):Obj:= .cells (Array.ofFn λi:Fin F.n=>f i) F.dE (0,0)
def FD(w:World)(f:Nat->Value):Prop:=w.heap[F.fd]? =some (F.IM f)
def HH(w:World)(f:Nat->Value):World:={w with heap:=w.heap.setIfInBounds F.fd (F.IM f)}
def Cw(a:Addr):Event:=⟨.cell a,false,true⟩
def EN(a:Addr):Event:=⟨.cell a,true,true⟩
def CZ(m:Mark):Event:=⟨.mark m,false,true⟩
def act:Ph->Nat->Nat->Nat->Option ((Nat×Nat×Nat)×Array Event×Nx)
 | .G2,v,wt,sm=>some ((v,wt,sm),#[CZ (.releaseMerge F.sA)],.ph .I9)
 | .I9,v,wt,sm=>some ((v,wt,sm),#[CZ .disable],.ph .HI)
 | .HI,v,wt,sm=>if 1<=v/\v<2147483648/\wt<=1 then some ((v - 1,wt,sm),#[Cw F.sA,EN F.sA],if v=1/\wt=1 then .ph .Hg else .gone 1) else none
 | .Hg,v,wt,sm=>if v=0/\wt=1 then some ((0,1,sm),#[Cw F.sA],.ph .HA) else none
 | .HA,v,wt,sm=>if v=0/\wt=1 then some ((0,0,sm),#[EN F.sA],.ph .FL) else none
 | .FL,v,wt,sm=>if sm=0 then some ((v,wt,1),semEvents F.mA,.gone 1) else none
 | .DW,v,wt,sm=>some ((v,wt,sm),#[CZ .disable],.ph (.Gt F.n))
 | .Gt m,v,wt,sm=>if v<=m/\wt=0 then some ((v,0,sm),#[Cw F.sA],if v=0 then .ph .GA else .ph (.HF v)) else none
 | .HF m,v,wt,sm=>if v<=m/\1<=m/\wt=0 then some (if v=m then((v,1,sm),#[Cw F.sA,EN F.sA],.ph .IQ) else((v,0,sm),#[Cw F.sA],.ph (.Gt (m - 1)))) else none
 | .Ic,v,wt,sm=>some ((v,wt,sm),#[CZ (.write F.mA)],.ph .FZ)
 | .FZ,v,wt,sm=>if sm=1 then some ((v,wt,0),semEvents F.mA,.ph .Hz) else none
 | .Hz,v,wt,sm=>if v=0/\wt=0 then some ((0,0,sm),#[Cw F.sA],.ph .GA) else none
 | .GA,v,wt,sm=>some ((v,wt,sm),#[CZ .enable],.ph .IE)
 | .Ia,v,wt,sm=>some ((v,wt,sm),#[],.ph .G2)
 | .IQ,v,wt,sm=>some ((v,wt,sm),#[],.ph .Ic)
 | .IE,v,wt,sm=>some ((v,wt,sm),#[],.ph .GH)
 | .IL j,v,wt,sm=>some ((v,wt,sm),#[],.ph (.H5 j))
 | .GK j,v,wt,sm=>some ((v,wt,sm),#[CZ .disable],.ph (.II j))
 | .II j,v,wt,sm=>if v<2147483647/\wt=0 then some ((v+1,0,sm),#[Cw F.sA,EN F.sA],if v=0 then .ph (.IL j) else .ph (.Hn j)) else none
 | .H5 j,v,wt,sm=>some ((v,wt,sm),#[CZ (.read F.mA)],.ph (.Hn j))
 | .Hn j,v,wt,sm=>some ((v,wt,sm),#[CZ .enable],.ph (.Ge j))
 | _,_,_,_=>none
abbrev LO:=M4×Nat×Array Event×Option LP
def FY(sv aw:Bool)(it:Nat)(old m:M4)(q:Nat):List LO:=
 (if old.l=true/\old.s=false/\it<4 then
  (if aw=false/\old.k=false/\old.w≠0 then
   [if m=old then({m with k:=true},q,#[Cw F.uA,EN F.uA],some (.EK sv true (it+1))) else(m,q,#[Cw F.uA],some (.EK sv aw (it+1)))]
  else [(m,q,#[],some (.CJ sv aw (it+1) m))])
 else [])++
 (if m=old then
  (if old.l=false/\old.s=false then [({m with l:=true,k:= !aw&&m.k},q,#[Cw F.uA,EN F.uA],some .len)]
  else [({m with k:= !aw&&m.k,s:=m.s || (sv&&m.l),w:=m.w+1},q,#[Cw F.uA,EN F.uA],some (.IB sv)),({m with k:= !aw&&m.k,s:=m.s || (sv&&m.l),w:=m.w+1},q,#[Cw F.uA,EN F.uA],some (.CQ sv))])
 else [(m,q,#[Cw F.uA],some (.EK sv aw it))])
def Cg:LP->M4->Nat->List LO
 | .Gw,m,q=> [(m,q,#[CZ .disable],some .HE)]
 | .HE,m,q=>if m=M4.zero then [(⟨true,false,false,0⟩,q,#[Cw F.uA,EN F.uA],some .len)] else [(m,q,#[Cw F.uA],some (.EK false false 0))]
 | .EK sv aw it,m,q=> [(m,q,#[],some (.CJ sv aw it m))]
 | .CJ sv aw it old,m,q=>F.FY sv aw it old m q
 | .IB sv,m,q=> [(m,q,#[],some (.CQ sv))]
 | .CQ sv,m,q=> [(m,q - 1,semEvents F.qA,some (if sv then .EX true else .Gu))]
 | .Gu,m,q=> [(m,q,#[],some (.EX false)),(m,q,#[],some (.EX true))]
 | .EX sv,m,q=>if m.s=true then [(m,q,#[],some (.EI (!sv || m.w==1)))] else [(m,q,#[],some (.CJ sv true 0 m))]
 | .EI ex,m,q=> [(⟨true,m.k,!ex,m.w - 1⟩,q,#[Cw F.uA,EN F.uA],some .len)]
 | .len,m,q=> [(m,q,#[CZ .enable],some .K3)]
 | .K3,m,q=> [(m,q,#[],some .Kh)]
 | .Kh,m,q=> [(m,q,#[CZ (.acquire F.uA)],some .F1)]
 | .F1,_,_=> []
 | .G4,m,q=> [(m,q,#[],some .Kp)]
 | .Kp,m,q=> [(m,q,#[],some .Kj)]
 | .Kj,m,q=> [(m,q,#[CZ (.releaseMerge F.uA)],some .Kd)]
 | .Kd,m,q=> [(m,q,#[CZ .disable],some .H8)]
 | .H8,m,q=> [({m with l:=false},q,#[Cw F.uA,EN F.uA],some (if m.s=true then .FA true else if m.k=false/\m.w≠0 then .Fh {m with l:=false} else .FB))]
 | .Fh old,m,q=>if m=old then [(⟨false,true,false,old.w - 1⟩,q,#[Cw F.uA,EN F.uA],some (.FA false))] else [(m,q,#[Cw F.uA],some .HG)]
 | .HG,m,q=> [(m,q,#[],some (if m.l=false/\m.k=false/\m.s=false/\m.w≠0 then .Fh m else .FB))]
 | .FA _,m,q=> [(m,q+1,semEvents F.qA,some .FB)]
 | .FB,m,q=> [(m,q,#[CZ .enable],none)]
def CW:Ph->Bool
 | .GK _ | .II _ | .H5 _ | .Hn _ | .Ge _ | .Hh | .F8 _ _ | .IL _=>true
 | .DW | .Gt _ | .HF _ | .Ic | .FZ | .Hz | .GA | .GH | .H2 | .IQ | .IE=>true
 | _=>false
def Da:Ph->Bool
 | .I9 | .HI | .Hg | .HA | .FL=>true
 | _=>false
def JF:Ph->St->St
 | .G2,_=> .quiet
 | _,s=>s
def start(_:Fam)(k:Nat):Ph:= .lk k .Gw
def FU(j:Nat):Ph:=if j+1=F.n then .Hh else .GK (j+1)
def EY(j:Nat):Ph:=if j+1=F.n then .DW else .GK (j+1)
def Dw(k:Nat):Option LP->Ph
 | some p=> .lk k p
 | none=> .Ia
end Fam
def Dt(m:M4):Prop:=m.w<134217728
def Ep:LP->M4->Nat->Prop
 | .CJ sv aw it old,m,_=>(aw=true->old.k=true)/\(sv=true->aw=true)/\it<=4/\Dt old/\Dt m/\(aw=true->m.k=true)
 | .EK sv aw it,m,_=>(sv=true->aw=true)/\it<=4/\Dt m/\(aw=true->m.k=true)
 | .CQ _,_,q=>q≠0
 | .EX _,m,_=>(m.s=true->m.l=false/\m.k=false/\m.w≠0)/\(m.s=false->m.k=true)/\Dt m
 | .EI ex,m,_=>m.s=true/\m.l=false/\m.k=false/\1<=m.w/\(ex=false->2<=m.w)/\Dt m
 | .H8,m,_=>m.l=true/\Dt m
 | .Fh old,m,_=>old.l=false/\old.k=false/\old.s=false/\old.w≠0/\Dt old/\Dt m
 | .FA _,m,q=>q<=1/\Dt m
 | _,m,_=>Dt m
def Way(P:Program)(main:Bool)(X:GP):GP:=(A8 P main).ok X
theorem Jr.M{P:Program}{main:Bool}{Q K:GP}(h:∀g s,Q g s->K g s):∀{r:Rk} {g:Goroutine} {s:St},Jr P main Q r g s->Jr P main K r g s
 | .leaf,_,_,x=>h _ _ x
 | .node _,_,_,.inl x=> .inl (h _ _ x)
 | .node _,_,_,.inr ⟨O,x⟩=> .inr ⟨O,λw f=>let ⟨g',s',w',es,U,Y,Z⟩:=x w f;⟨g',s',w',es,U,Jr.M h Y,Z⟩⟩
theorem Way.M{P:Program}{main:Bool}{Q K:GP}(h:∀g s,Q g s->K g s){g:Goroutine}{s:St}(x:Way P main Q g s):Way P main K g s:=
 let ⟨r,O⟩:=x;⟨r,Jr.M (λg s ⟨s₀,a,b⟩=>⟨s₀,a,h g s₀ b⟩) O⟩
def GZ(w K w':World):Prop:=w'.heap=K.heap/\w'.tape=w.tape/\GM w.os w'.os/\w'.output=w.output
section
variable (P:Program)(F:Fam)
def MR(X:Ph->GP)(main:Bool):Nx->GP
 | .ph p,g,s=>Way P main (X p) g s
 | .gone d,g,_=>∃q,QuitsD P q d g
def Fam.J5(H:LH)(f:Nat->Value):LH:=λb=>if b=F.fd then some (F.IM f) else H b
structure Ho (X:Ph->GP) (p:Ph) (g:Goroutine) (s:St):Prop where
 run:g.status= .running
 offers:g.offers=none
 quiet:Fam.Da p=true->s= .quiet
 live:Fam.Da p=false->s.q=false
 act:∀v wt sm v' wt' sm' es K,F.act p v wt sm=some ((v',wt',sm'),es,K)->
  ∃g',(∀w,F.WG w v wt sm->stepG P (Fam.CW p) g w= .go g' (F.put w v' wt' sm') es)/\g'.status= .running/\MR P X (Fam.CW p) K g' (Fam.JF p s)
 I7:(p= .FL∨∃k b,p= .lk k (.FA b))->mayWake P g=true
 FC:p= .FZ->∀w v wt,F.WG w v wt 0->stepG P true g w= .go {g with status:= .blocked} w #[]
 go:∀j,p= .Ge j->∃g' child,g'.status= .running/\child.status= .running/\(∀w,stepG P true g w= .spawn g' child w #[])/\Way P false (X (F.start j)) child ⟨s.E,λ_=>none,false⟩/\Way P true (X (F.EY j)) g' s
 lk:∀k l,p= .lk k l->l≠ .F1->∀w m q,F.MU w m q->Ep l m q->∃m' q' es x g' w',(m',q',es,x)∈F.Cg l m q/\stepG P false g w= .go g' w' es/\GZ w (F.Ga w m' q') w'/\g'.status= .running/\Way P false (X (Fam.Dw k x)) g' s
 CQ:∀k sv,p= .lk k (.CQ sv)->∀w m,F.MU w m 0->stepG P false g w= .go {g with status:= .blocked} w #[]
 store:∀k,p= .lk k .F1->∃v,F.msg k v s.E/\∃g',g'.status= .running/\(∀w f,F.FD w f->stepG P false g w= .go g' (F.HH w (upd f k v)) #[⟨.cell ⟨F.fd,k,none⟩,true,false⟩])/\Way P false (X (.lk k .G4)) g' s
 fin:p= .GH->∃g',(∀w,stepG P true g w= .go g' w #[Fam.CZ (.acquire F.sA)])/\∀E' f,Le s.E E'->E' F.fd=none->(∀b,E' b≠none->s.H b=none)->(∀k,k<F.n->F.msg k (f k) E')->F.fin g' ⟨E',F.J5 s.H f,false⟩
theorem MR.M{X O:Ph->GP}(h:∀p g s,X p g s->O p g s){main:Bool}{K:Nx}{g:Goroutine}{s:St}(x:MR P X main K g s):MR P O main K g s:=by
 cases K with
 | ph p=>exact Way.M (h p) x
 | gone d=>exact x
theorem Ho.M{X ac:Ph->GP}(h:∀p g s,X p g s->ac p g s){p:Ph}{g:Goroutine}{s:St}(x:Ho P F X p g s):Ho P F ac p g s where
 run:=x.run
 offers:=x.offers
 quiet:=x.quiet
 live:=x.live
 act v wt sm v' wt' sm' es ag e:=let ⟨g',K,O,U⟩:=x.act v wt sm v' wt' sm' es ag e;⟨g',K,O,U.M P h⟩
 I7:=x.I7
 FC:=x.FC
 go j e:=let ⟨g',c,K,O,U,Y,Z⟩:=x.go j e;⟨g',c,K,O,U,Y.M (h _),Z.M (h _)⟩
 lk k l e al w m q hm am:=let ⟨m',q',es,y,g',w',K,O,U,Y,Z⟩:=x.lk k l e al w m q hm am;⟨m',q',es,y,g',w',K,O,U,Y,Z.M (h _)⟩
 CQ:=x.CQ
 store k e:=let ⟨v,K,g',O,U,Y⟩:=x.store k e;⟨v,K,g',O,U,Y.M (h _)⟩
 fin:=x.fin
def Stop(p:Ph)(g:Goroutine)(s:St):Prop:=∃X:Ph->GP,(∀p g s,X p g s->Ho P F X p g s)/\X p g s
variable {P F}
theorem Stop.law{p:Ph}{g:Goroutine}{s:St}(h:Stop P F p g s):Ho P F (Stop P F) p g s:=by
 obtain⟨X,O,K⟩:=h;exact(O p g s K).M P F λp g s K=>⟨X,O,K⟩
theorem Ho.stop{p:Ph}{g:Goroutine}{s:St}(h:Ho P F (Stop P F) p g s):Stop P F p g s:=
 ⟨λp g s=>Ho P F (Stop P F) p g s,λ_ _ _ x=>x.M P F λ_ _ _ y=>y.law,h⟩
end
end Pal
namespace Pal
open Go Go.Conc
open Go.ConcN (upd upd_same upd_ne sumTo sumTo_upd sumTo_upd_out sumTo_congr le_sumTo sumTo_le)
def cU:Nx->Nat
 | .ph (.HB _) | .ph .Ia | .ph .G2 | .ph .I9 | .ph .HI | .ph (.lk _ _)=>1
 | _=>0
def cL:Nx->Nat
 | .ph .Hg | .ph .HA=>1
 | _=>0
def cS:Nx->Nat
 | .ph .FL=>1
 | _=>0
def pend:Nx->Nat
 | .ph (.IL _) | .ph (.H5 _) | .ph (.Hn _) | .ph (.Ge _)=>1
 | _=>0
def got:Nx->List Nat
 | .ph (.F8 K _)=>K
 | _=> []
def Om:Nx->Prop
 | .gone _=>True
 | _=>False
def HY(n j:Nat)(c:Bool):Ph->Prop
 | .GK K | .II K | .IL K | .H5 K | .Hn K | .Ge K=>K=j/\j<n/\c=false
 | .Hh=>j=n/\c=false
 | .F8 _ _=>j=n/\c=true
 | _=>False
def Hf(F:Fam)(k:Nat):Nx->Prop
 | .gone _=>True
 | .ph (.HB k')=>k'=k/\F.has k=true
 | .ph (.lk k' _)=>k'=k
 | .ph .Ia | .ph .G2 | .ph .I9 | .ph .HI | .ph .Hg | .ph .HA | .ph .FL=>True
 | _=>False
def Jx:Nx->Prop
 | .gone _=>True
 | .ph .DW | .ph (.Gt _) | .ph (.HF _) | .ph .IQ | .ph .Ic | .ph .FZ | .ph .Hz | .ph .GA | .ph .IE | .ph .GH | .ph .H2=>True
 | _=>False
def En(x:Nx)(v wt sm L S:Nat)(cl:Bool):Prop:=
 match x with
 | .ph .DW=>L=0/\S=0/\sm=0/\wt=0/\cl=false
 | .ph (.Gt m)=>L=0/\S=0/\sm=0/\wt=0/\cl=false/\v<=m
 | .ph (.HF m)=>L=0/\S=0/\sm=0/\wt=0/\cl=false/\v<=m/\1<=m
 | .ph .IQ | .ph .Ic | .ph .FZ=>L+S+sm+min v 1=1/\wt=L+min v 1/\cl=false
 | .ph .Hz | .ph .GA | .ph .IE | .ph .GH | .ph .H2=>L=0/\S=0/\sm=0/\wt=0/\v=0/\cl=false
 | .gone _=>L=0/\S=0/\sm=0/\wt=0/\v=0/\cl=true
 | _=>False
structure CX (F:Fam) (N0 N j:Nat) (c:Bool) (φ:Nat->Nx) (v wt sm:Nat) (cl:Bool):Prop where
 pos:0<N0
 n1:1<=F.n
 Ig:F.n<2147483647
 size:N=N0+j+c.toNat
 jn:j<=F.n
 cj:c=true->j=F.n
 main:∃p,φ 0= .ph p/\HY F.n j c p
 old:∀i,0<i->i<N0->Om (φ i)
 work:∀k,k<j->Hf F k (φ (N0+k))
 cls:c=true->Jx (φ (N0+F.n))
 cnt:v=sumTo N (λi=>cU (φ i))+pend (φ 0)
 Ko:v<=j+pend (φ 0)
 mode:En (if c=true then φ (N0+F.n) else .ph .DW) v wt sm (sumTo N λi=>cL (φ i)) (sumTo N λi=>cS (φ i)) cl
 K2:∀k,k<j->F.has k=true->(φ (N0+k)= .ph (.HB k)↔k ∉ got (φ 0))
 nd:(got (φ 0)).Nodup
 sub:∀k∈got (φ 0),k<j/\F.has k=true
section
variable {F:Fam}{N0 N j:Nat}{c:Bool}{φ:Nat->Nx}{v wt sm v' wt' sm':Nat}{cl cl':Bool}
theorem CX.EZ(h:CX F N0 N j c φ v wt sm cl){i:Nat}(hi:i<N):i=0∨(0<i/\i<N0)∨(∃k,k<j/\i=N0+k)∨(c=true/\i=N0+F.n):=by
 have:=h.size;rcases Nat.eq_zero_or_pos i with K | K
 ·exact .inl K
 rcases Nat.lt_or_ge i N0 with U | U
 ·exact .inr (.inl ⟨K,U⟩)
 rcases Nat.lt_or_ge i (N0+j) with Y | Y
 ·exact .inr (.inr (.inl ⟨i - N0,by omega,by omega⟩))
 ·cases O:c with
  | false=>rw [O] at this;simp at this;omega
  | true=>have e:=h.cj O;rw [O] at this;simp at this;exact .inr (.inr (.inr ⟨rfl,by omega⟩))
theorem CX.QZ(h:CX F N0 N j c φ v wt sm cl):v<=F.n:=by
 have K:=h.Ko;obtain⟨p,O,hm⟩:=h.main;have:=h.jn;rw [O] at K;cases p <;> simp [HY] at hm <;> simp [pend] at K <;> omega
theorem CX.IF(h:CX F N0 N j c φ v wt sm cl){k:Nat}(ag:k<j){x:Nx}(al:Hf F k x)(hs:∀k',φ (N0+k)≠ .ph (.HB k'))(am:∀k',x≠ .ph (.HB k'))
  (a1:v'+cU (φ (N0+k))=v+cU x)
  (hm:∀L S,L+cL (φ (N0+k))=(sumTo N λi=>cL (φ i))+cL x->S+cS (φ (N0+k))=(sumTo N λi=>cS (φ i))+cS x->En (if c=true then φ (N0+F.n) else .ph .DW) v' wt' sm' L S cl'):
  CX F N0 N j c (upd φ (N0+k) x) v' wt' sm' cl':=by
 have a2:=h.size;have a3:=h.jn;have a4:=h.pos;have Y:N0+k<N:=by omega
 have K:upd φ (N0+k) x 0=φ 0:=upd_ne _ _ (by omega);have ap:(if c=true then upd φ (N0+k) x (N0+F.n) else .ph .DW)=(if c=true then φ (N0+F.n) else .ph .DW):=by
  cases O:c with
  | false=>rfl
  | true=>have:=h.cj O;simp only [if_true];exact upd_ne _ _ (by omega)
 have s1:=sumTo_upd φ x cU Y;have s2:=sumTo_upd φ x cL Y;have aq:=sumTo_upd φ x cS Y;have a5:=h.cnt;have a6:=h.Ko;refine⟨h.pos,h.n1,h.Ig,h.size,h.jn,h.cj,by rw [K];exact h.main,λi av aw=>by rw [upd_ne _ _ (by omega)];exact h.old i av aw,λk' U=>?_,λO=>?_,by rw [K];omega,?_,?_,λk' U hh=>?_,by rw [K];exact h.nd,by rw [K];exact h.sub⟩
 ·by_cases e:k'=k
  ·subst e;rw [upd_same];exact al
  ·rw [upd_ne _ _ (by omega)];exact h.work k' U
 ·have:=h.cj O;rw [upd_ne _ _ (by omega)];exact h.cls O
 ·rw [K];have:cU x<=1:=by cases x with
   | gone d=>simp [cU]
   | ph p=>cases p <;> simp [cU]
  have hw:=h.work k ag;have key:cU x<=cU (φ (N0+k))∨cU (φ (N0+k))<cU x:=by omega
  rcases key with hle | a7
  ·omega
  ·
   have:(sumTo N λa=>cU (upd φ (N0+k) x a))<=j:=by
    have hb:∀M,M<=N->(sumTo M λa=>cU (upd φ (N0+k) x a))<=min (M - N0) j:=by
     intro M
     induction M with
     | zero=>intro _;simp [sumTo]
     | succ M ay=>
      intro a8;have:=ay (by omega);simp only [sumTo];have a9:cU (upd φ (N0+k) x M)<=1:=by
       generalize upd φ (N0+k) x M=y;cases y with
       | gone d=>simp [cU]
       | ph p=>cases p <;> simp [cU]
      have ac:(M<N0∨N0+j<=M)->cU (upd φ (N0+k) x M)=0:=by
       intro bb;rw [upd_ne _ _ (by omega)];rcases h.EZ (i:=M) (by omega) with rfl | ⟨a,b⟩ | ⟨k',a,rfl⟩ | ⟨a,rfl⟩
       ·obtain⟨p,az,hm⟩:=h.main;rw [az];cases p <;> simp [HY] at hm <;> rfl
       ·have:=h.old M a b;cases Z:φ M with
        | gone d=>rfl
        | ph p=>rw [Z] at this;exact this.elim
       ·omega
       ·have:=h.cls a;cases Z:φ (N0+F.n) with
        | gone d=>rfl
        | ph p=>rw [Z] at this;cases p <;> simp [Jx] at this <;> rfl
      rcases Nat.lt_or_ge M N0 with q | q
      ·rw [ac (.inl q)];omega
      ·rcases Nat.lt_or_ge M (N0+j) with q' | q'
       ·omega
       ·rw [ac (.inr q')];omega
    have:=hb N (Nat.le_refl _);omega
   omega
 ·rw [ap];exact hm _ _ s2 aq
 ·rw [K];by_cases e:k'=k
  ·subst e;rw [upd_same];have:=h.K2 k' U hh;constructor
   ·intro a0;exact absurd a0 (am k')
   ·intro hg;exact absurd (this.2 hg) (hs k')
  ·rw [upd_ne _ _ (by omega)];exact h.K2 k' U hh
theorem CX.H7(h:CX F N0 N j c φ v wt sm cl)(O:c=true){x:Nx}(Z:Jx x)
  (hm:En x v wt' sm' (sumTo N λi=>cL (φ i)) (sumTo N λi=>cS (φ i)) cl'):
  CX F N0 N j c (upd φ (N0+F.n) x) v wt' sm' cl':=by
 have ac:=h.size;have aq:=h.pos;have av:=h.cj O;have U:N0+F.n<N:=by rw [O] at ac;simp at ac;omega
 have K:upd φ (N0+F.n) x 0=φ 0:=upd_ne _ _ (by omega);have z:∀y,Jx y->cU y=0/\cL y=0/\cS y=0:=by
  intro y ag;cases y with
  | gone d=>exact⟨rfl,rfl,rfl⟩
  | ph p=>cases p <;> simp [Jx] at ag <;> exact⟨rfl,rfl,rfl⟩
 have z1:=z _ (h.cls O);have aw:=z x Z;have s1:=sumTo_upd φ x cU U;have s2:=sumTo_upd φ x cL U;have ay:=sumTo_upd φ x cS U;have az:=h.cnt;refine⟨h.pos,h.n1,h.Ig,h.size,h.jn,h.cj,by rw [K];exact h.main,λi al am=>by rw [upd_ne _ _ (by omega)];exact h.old i al am,λk' Y=>?_,λO=>?_,by rw [K];omega,by rw [K];exact h.Ko,?_,λk' Y hh=>?_,by rw [K];exact h.nd,by rw [K];exact h.sub⟩
 ·rw [upd_ne _ _ (by omega)];exact h.work k' Y
 ·rw [upd_same];exact Z
 ·rw [if_pos O,upd_same];have e2:(sumTo N λi=>cL (upd φ (N0+F.n) x i))=sumTo N λi=>cL (φ i):=by omega
  have ap:(sumTo N λi=>cS (upd φ (N0+F.n) x i))=sumTo N λi=>cS (φ i):=by omega
  rw [e2,ap];exact hm
 ·rw [K,upd_ne _ _ (by omega)];exact h.K2 k' Y hh
theorem RQ{n j:Nat}{c:Bool}{p:Ph}(h:HY n j c p):cU (.ph p)=0/\cL (.ph p)=0/\cS (.ph p)=0:=by
 cases p <;> simp [HY] at h <;> exact⟨rfl,rfl,rfl⟩
theorem CX.LX(h:CX F N0 N j c φ v wt sm cl){p:Ph}(U:HY F.n j c p)(hg:got (.ph p)=got (φ 0))(av:v'+pend (φ 0)=v+pend (.ph p))(Y:v'<=j+pend (.ph p))
  (hm:En (if c=true then φ (N0+F.n) else .ph .DW) v' wt' sm' (sumTo N λi=>cL (φ i)) (sumTo N λi=>cS (φ i)) cl'):
  CX F N0 N j c (upd φ 0 (.ph p)) v' wt' sm' cl':=by
 have aw:=h.size;have ay:=h.pos;have K:0<N:=by omega
 obtain⟨az,Z,ac⟩:=h.main;have z1:=RQ ac;have a0:=RQ U;rw [← Z] at z1;have s1:=sumTo_upd φ (.ph p) cU K;have s2:=sumTo_upd φ (.ph p) cL K;have a1:=sumTo_upd φ (.ph p) cS K;have a2:=h.cnt;have ag:(if c=true then upd φ 0 (.ph p) (N0+F.n) else .ph .DW)=(if c=true then φ (N0+F.n) else .ph .DW):=by rw [upd_ne _ _ (by omega)]
 refine⟨h.pos,h.n1,h.Ig,h.size,h.jn,h.cj,⟨p,upd_same _ _ _,U⟩,λi al am=>by rw [upd_ne _ _ (by omega)];exact h.old i al am,λk' O=>by rw [upd_ne _ _ (by omega)];exact h.work k' O,λap=>by rw [upd_ne _ _ (by omega)];exact h.cls ap,by rw [upd_same];omega,by rw [upd_same];exact Y,?_,λk' O hh=>?_,by rw [upd_same,hg];exact h.nd,by rw [upd_same,hg];exact h.sub⟩
 ·rw [ag];have e2:(sumTo N λi=>cL (upd φ 0 (.ph p) i))=sumTo N λi=>cL (φ i):=by omega
  have aq:(sumTo N λi=>cS (upd φ 0 (.ph p) i))=sumTo N λi=>cS (φ i):=by omega
  rw [e2,aq];exact hm
 ·rw [upd_same,hg,upd_ne _ _ (by omega)];exact h.K2 k' O hh
theorem CX.act(h:CX F N0 N j c φ v wt sm cl){i:Nat}(hi:i<N){p:Ph}(K:φ i= .ph p){es:Array Event}{a4:Nx}(O:F.act p v wt sm=some ((v',wt',sm'),es,a4)):
  CX F N0 N j c (upd φ i a4) v' wt' sm' cl:=by
 have U:=h.mode;have a6:=h.QZ;rcases h.EZ hi with rfl | ⟨a,b⟩ | ⟨k,av,rfl⟩ | ⟨ac,rfl⟩
 ·
  obtain⟨a0,a5,aw⟩:=h.main;have:a0=p:=by rw [a5] at K;exact Nx.ph.inj K
  subst this;have a8:∀q,HY F.n j c q->(∀a7 vs,q≠ .F8 a7 vs)->c=false:=by
   intro q a1 a2;cases q <;> simp [HY] at a1 <;> first | exact a1.2.2 | exact a1.2 | exact absurd rfl (a2 _ _)
  have ap:=h.Ko;cases a0 <;> simp only [HY] at aw <;> (try exact aw.elim) <;> simp only [Fam.act] at O <;> (try (cases O;done))
  ·cases O;obtain⟨rfl,aq,rfl⟩:=aw;exact h.LX (p:= .II _) ⟨V,aq,V⟩ (by rw [K];rfl) (by rw [K];rfl) (by rw [K] at ap;exact ap) (by simpa [En] using U)
  ·split at O
   ·rename_i ag;cases O;obtain⟨rfl,aq,rfl⟩:=aw;rw [K] at ap;simp only [pend,Nat.add_zero] at ap;simp only [Bool.false_eq_true,if_false,En] at U;split
    ·exact h.LX (p:= .IL _) ⟨V,aq,V⟩ (by rw [K];rfl) (by rw [K];simp [pend]) (by simp [pend];omega) ⟨U.1,U.2.1,U.2.2.1,V,U.2.2.2.2⟩
    ·exact h.LX (p:= .Hn _) ⟨V,aq,V⟩ (by rw [K];rfl) (by rw [K];simp [pend]) (by simp [pend];omega) ⟨U.1,U.2.1,U.2.2.1,V,U.2.2.2.2⟩
   ·cases O
  ·cases O;obtain⟨rfl,aq,rfl⟩:=aw;exact h.LX (p:= .Hn _) ⟨V,aq,V⟩ (by rw [K];rfl) (by rw [K];rfl) (by rw [K] at ap;exact ap) (by simpa [En] using U)
  ·cases O;obtain⟨rfl,aq,rfl⟩:=aw;exact h.LX (p:= .Ge _) ⟨V,aq,V⟩ (by rw [K];rfl) (by rw [K];rfl) (by rw [K] at ap;exact ap) (by simpa [En] using U)
  ·cases O;obtain⟨rfl,aq,rfl⟩:=aw;exact h.LX (p:= .H5 _) ⟨V,aq,V⟩ (by rw [K];rfl) (by rw [K];rfl) (by rw [K] at ap;exact ap) (by simpa [En] using U)
 ·have:=h.old i a b;rw [K] at this;exact this.elim
 ·
  have hw:=h.work k av;rw [K] at hw;have a9:∀q k',q=Nx.ph p->(∀k',p≠ .HB k')->q≠ .ph (.HB k'):=by
   rintro q k' rfl a2 e;exact a2 k' (Nx.ph.inj e)
  cases p <;> simp only [Hf] at hw <;> (try exact hw.elim) <;> simp only [Fam.act] at O <;> (try (cases O;done))
  ·cases O;refine h.IF av (x:= .ph .I9) trivial (λk'=>by rw [K];simp) (by simp) (by rw [K];rfl) λL S Y Z=>?_;rw [K] at Y Z;simp only [cL,cS,Nat.add_zero] at Y Z;subst Y Z;exact U
  ·cases O;refine h.IF av (x:= .ph .HI) trivial (λk'=>by rw [K];simp) (by simp) (by rw [K];rfl) λL S Y Z=>?_;rw [K] at Y Z;simp only [cL,cS,Nat.add_zero] at Y Z;subst Y Z;exact U
  ·split at O
   ·rename_i ag;cases O;have az:∀y al am L S,y=(if c=true then φ (N0+F.n) else .ph .DW)->En y v wt sm al am cl->(if v=1/\wt=1 then L=al+1 else L=al)->S=am->En y (v - 1) wt sm L S cl:=by
     intro y al am L S bb hm Y Z;cases y with
     | gone d=>simp only [En] at hm ⊢;split at Y <;> omega
     | ph q=>
      cases q <;> simp only [En] at hm ⊢ <;> (try exact hm) <;> (try (split at Y <;> omega))
      ·split at Y
       ·exfalso;omega
       ·exact⟨by omega,by omega,by omega,by omega,hm.2.2.2.2⟩
      ·split at Y
       ·exfalso;omega
       ·exact⟨by omega,by omega,by omega,by omega,hm.2.2.2.2.1,by omega⟩
      ·split at Y
       ·exfalso;omega
       ·exact⟨by omega,by omega,by omega,by omega,hm.2.2.2.2.1,by omega,by omega⟩
      ·split at Y
       ·exact⟨by omega,by omega,hm.2.2⟩
       ·exact⟨by omega,by omega,hm.2.2⟩
      ·split at Y
       ·exact⟨by omega,by omega,hm.2.2⟩
       ·exact⟨by omega,by omega,hm.2.2⟩
      ·split at Y
       ·exact⟨by omega,by omega,hm.2.2⟩
       ·exact⟨by omega,by omega,hm.2.2⟩
    split
    ·rename_i ay;refine h.IF av (x:= .ph .Hg) trivial (λk'=>by rw [K];simp) (by simp) (by rw [K];simp [cU];omega) λL S Y Z=>?_;rw [K] at Y Z;simp only [cL,cS,Nat.add_zero] at Y Z;exact az _ _ _ L S V U (by rw [if_pos ay];exact Y) Z
    ·rename_i ay;refine h.IF av (x:= .gone 1) trivial (λk'=>by rw [K];simp) (by simp) (by rw [K];simp [cU];omega) λL S Y Z=>?_;rw [K] at Y Z;simp only [cL,cS,Nat.add_zero] at Y Z;exact az _ _ _ L S V U (by rw [if_neg ay];exact Y) Z
   ·cases O
  ·split at O
   ·rename_i ag;cases O;refine h.IF av (x:= .ph .HA) trivial (λk'=>by rw [K];simp) (by simp) (by rw [K];simp [cU];omega) λL S Y Z=>?_;rw [K] at Y Z;simp only [cL,cS,Nat.add_zero] at Y Z;have e:L=sumTo N λi=>cL (φ i):=by
     have be:L+1=(sumTo N λi=>cL (φ i))+1:=Y;omega
    obtain⟨ay,a3⟩:=ag;subst e Z ay a3;exact U
   ·cases O
  ·split at O
   ·rename_i ag;cases O;obtain⟨ay,a3⟩:=ag;subst ay a3;refine h.IF av (x:= .ph .FL) trivial (λk'=>by rw [K];simp) (by simp) (by rw [K];simp [cU]) λL S Y Z=>?_;rw [K] at Y Z;simp only [cL,cS,Nat.add_zero] at Y Z;have az:∀y al am,En y 0 1 sm al am cl->L+1=al->S=am+1->En y 0 0 sm L S cl:=by
     intro y al am hm Y Z;cases y with
     | gone d=>simp only [En] at hm ⊢;omega
     | ph q=>
      cases q <;> simp only [En] at hm ⊢ <;> (try exact hm) <;> (try (exfalso;omega))
      ·exact⟨by omega,by omega,hm.2.2⟩
      ·exact⟨by omega,by omega,hm.2.2⟩
      ·exact⟨by omega,by omega,hm.2.2⟩
    exact az _ _ _ U Y Z
   ·cases O
  ·split at O
   ·rename_i ag;cases O;subst ag;refine h.IF av (x:= .gone 1) trivial (λk'=>by rw [K];simp) (by simp) (by rw [K];simp [cU]) λL S Y Z=>?_;rw [K] at Y Z;simp only [cL,cS,Nat.add_zero] at Y Z;have az:∀y al am,En y v wt 0 al am cl->L=al->S+1=am->En y v wt 1 L S cl:=by
     intro y al am hm Y Z;cases y with
     | gone d=>simp only [En] at hm ⊢;omega
     | ph q=>
      cases q <;> simp only [En] at hm ⊢ <;> (try exact hm) <;> (try (exfalso;omega))
      ·exact⟨by omega,by omega,hm.2.2⟩
      ·exact⟨by omega,by omega,hm.2.2⟩
      ·exact⟨by omega,by omega,hm.2.2⟩
    exact az _ _ _ U Y Z
   ·cases O
  ·cases O;refine h.IF av (x:= .ph .G2) trivial (λk'=>by rw [K];simp) (by simp) (by rw [K];rfl) λL S Y Z=>?_;rw [K] at Y Z;simp only [cL,cS,Nat.add_zero] at Y Z;subst Y Z;exact U
 ·
  have hw:=h.cls ac;rw [if_pos ac,K] at U;rw [K] at hw;obtain⟨a0,a5,aw⟩:=h.main;cases p <;> simp only [Jx] at hw <;> (try exact hw.elim) <;> simp only [Fam.act] at O <;> (try (cases O;done)) <;> simp only [En] at U
  ·cases O;exact h.H7 ac (x:= .ph (.Gt F.n)) trivial ⟨U.1,U.2.1,U.2.2.1,U.2.2.2.1,U.2.2.2.2,a6⟩
  ·split at O
   ·rename_i m ag;cases O;split
    ·exact h.H7 ac (x:= .ph .GA) trivial ⟨U.1,U.2.1,U.2.2.1,V,by assumption,U.2.2.2.2.1⟩
    ·exact h.H7 ac (x:= .ph (.HF _)) trivial ⟨U.1,U.2.1,U.2.2.1,V,U.2.2.2.2.1,Nat.le_refl _,by omega⟩
   ·cases O
  ·split at O
   ·rename_i m ag;split at O
    ·cases O;exact h.H7 ac (x:= .ph .IQ) trivial ⟨by omega,by omega,U.2.2.2.2.1⟩
    ·cases O;exact h.H7 ac (x:= .ph (.Gt _)) trivial ⟨U.1,U.2.1,U.2.2.1,V,U.2.2.2.2.1,by omega⟩
   ·cases O
  ·cases O;exact h.H7 ac (x:= .ph .FZ) trivial U
  ·split at O
   ·rename_i ag;cases O;exact h.H7 ac (x:= .ph .Hz) trivial ⟨by omega,by omega,V,by omega,by omega,U.2.2⟩
   ·cases O
  ·split at O
   ·rename_i ag;obtain⟨rfl,rfl⟩:=ag;cases O;exact h.H7 ac (x:= .ph .GA) trivial U
   ·cases O
  ·cases O;exact h.H7 ac (x:= .ph .IE) trivial U
  ·cases O;exact h.H7 ac (x:= .ph .Ic) trivial U
  ·cases O;exact h.H7 ac (x:= .ph .GH) trivial U
end
open Go.ConcN (fork_knows)
section
variable {F:Fam}{N0 N j:Nat}{c:Bool}{φ:Nat->Nx}{v wt sm:Nat}{cl:Bool}
theorem CX.spawn(h:CX F N0 N j c φ v wt sm cl)(U:φ 0= .ph (.Ge j)):
  CX F N0 (N+1) (j+1) c (upd (upd φ N (.ph (F.start j))) 0 (.ph (F.FU j))) v wt sm cl:=by
 obtain⟨av,aw,ay⟩:=h.main;obtain rfl:av= .Ge j:=by rw [aw] at U;exact Nx.ph.inj U
 obtain⟨_,a3,rfl⟩:=ay;have az:=h.size;have a4:=h.pos;simp only [Bool.toNat_false,Nat.add_zero] at az;have Y:cU (.ph (F.start j))=1/\cL (.ph (F.start j))=0/\cS (.ph (F.start j))=0:=by
  exact⟨V,V,V⟩
 have K:cU (.ph (F.FU j))=0/\cL (.ph (F.FU j))=0/\cS (.ph (F.FU j))=0/\pend (.ph (F.FU j))=0/\got (.ph (F.FU j))= []:=by
  unfold Fam.FU;split <;> exact⟨rfl,rfl,rfl,rfl,rfl⟩
 have Z:cU (φ 0)=0/\cL (φ 0)=0/\cS (φ 0)=0:=by rw [U];exact⟨V,V,V⟩
 let φ':Nat->Nx:=upd (upd φ N (.ph (F.start j))) 0 (.ph (F.FU j));have O:φ' 0= .ph (F.FU j):=upd_same _ _ _;have aq:φ' N= .ph (F.start j):=by show upd _ _ _ _=_;rw [upd_ne _ _ (by omega),upd_same]
 have ac:∀i,0<i->i≠N->φ' i=φ i:=λi ag al=>by show upd _ _ _ _=_;rw [upd_ne _ _ (by omega),upd_ne _ _ al]
 have sum:∀f:Nx->Nat,f (φ 0)=0->f (.ph (F.FU j))=0->(sumTo (N+1) λi=>f (φ' i))=(sumTo N λi=>f (φ i))+f (.ph (F.start j)):=by
  intro f f0 f1;simp only [sumTo,aq];congr 1;have a0:0<N:=by omega
  have:=sumTo_upd (upd φ N (.ph (F.start j))) (.ph (F.FU j)) f a0;have e2:upd φ N (.ph (F.start j)) 0=φ 0:=upd_ne _ _ (by omega);rw [e2,f0,f1] at this;have a5:=sumTo_upd_out φ (.ph (F.start j)) f (i:=N) (j:=N) (Nat.le_refl _);show sumTo N (λi=>f (upd (upd φ N (.ph (F.start j))) 0 (.ph (F.FU j)) i))=_;omega
 have am:=h.cnt;have ap:=h.Ko;rw [U] at am ap;simp only [pend] at am ap;show CX F N0 (N+1) (j+1) false φ' v wt sm cl;have a1:got (φ 0)= []:=by rw [U];rfl
 refine⟨h.pos,h.n1,h.Ig,by simp;omega,by omega,by simp,⟨F.FU j,O,?_⟩,λi ag al=>by rw [ac i ag (by omega)];exact h.old i ag al,λk a2=>?_,by simp,?_,?_,?_,λk a2 hh=>?_,by rw [O,K.2.2.2.2];exact .nil,by rw [O,K.2.2.2.2];simp⟩
 ·unfold Fam.FU;split
  ·exact⟨by assumption,V⟩
  ·exact⟨V,by omega,V⟩
 ·by_cases e:k=j
  ·subst e;rw [show N0+k=N by omega,aq];exact V
  ·rw [ac _ (by omega) (by omega)];exact h.work k (by omega)
 ·rw [O,K.2.2.2.1,sum cU Z.1 K.1,Y.1];exact am
 ·rw [O,K.2.2.2.1];exact ap
 ·have hm:=h.mode;simp only [Bool.false_eq_true,if_false] at hm ⊢;rw [sum cL Z.2.1 K.2.1,sum cS Z.2.2 K.2.2.1,Y.2.1,Y.2.2];exact hm
 ·rw [O,K.2.2.2.2];by_cases e:k=j
  ·exact absurd hh Bool.false_ne_true
  ·rw [ac _ (by omega) (by omega)];have:=h.K2 k (by omega) hh
   rwa [a1] at this
theorem CX.bl(h:CX F N0 N j c φ v wt sm cl)(O:φ 0= .ph .Hh):
  CX F N0 (N+1) j true (upd (upd φ N (.ph .DW)) 0 (.ph (.F8 [] []))) v wt sm cl:=by
 obtain⟨av,aw,ay⟩:=h.main;obtain rfl:av= .Hh:=by rw [aw] at O;exact Nx.ph.inj O
 obtain⟨aq,rfl⟩:=ay;have az:=h.size;have a2:=h.pos;simp only [Bool.toNat_false,Nat.add_zero] at az;have U:cU (φ 0)=0/\cL (φ 0)=0/\cS (φ 0)=0:=by rw [O];exact⟨V,V,V⟩
 let φ':Nat->Nx:=upd (upd φ N (.ph .DW)) 0 (.ph (.F8 [] []));have K:φ' 0= .ph (.F8 [] []):=upd_same _ _ _;have Y:φ' N= .ph .DW:=by show upd _ _ _ _=_;rw [upd_ne _ _ (by omega),upd_same]
 have Z:∀i,0<i->i≠N->φ' i=φ i:=λi ac ag=>by show upd _ _ _ _=_;rw [upd_ne _ _ (by omega),upd_ne _ _ ag]
 have sum:∀f:Nx->Nat,f (φ 0)=0->f (.ph (.F8 [] []))=0->f (.ph .DW)=0->(sumTo (N+1) λi=>f (φ' i))=(sumTo N λi=>f (φ i)):=by
  intro f f0 f1 f2;simp only [sumTo,Y,f2];have a0:0<N:=by omega
  have:=sumTo_upd (upd φ N (.ph .DW)) (.ph (.F8 [] [])) f a0;have e2:upd φ N (.ph .DW) 0=φ 0:=upd_ne _ _ (by omega);rw [e2,f0,f1] at this;have a3:=sumTo_upd_out φ (.ph .DW) f (i:=N) (j:=N) (Nat.le_refl _);show sumTo N (λi=>f (upd (upd φ N (.ph .DW)) 0 (.ph (.F8 [] [])) i))+0=_;omega
 have al:=h.cnt;have am:=h.Ko;rw [O] at al am;simp only [pend] at al am;show CX F N0 (N+1) j true φ' v wt sm cl;have a1:got (φ 0)= []:=by rw [O];rfl
 refine⟨h.pos,h.n1,h.Ig,by simp;omega,h.jn,λ_=>aq,⟨.F8 [] [],K,aq,V⟩,λi ac ag=>by rw [Z i ac (by omega)];exact h.old i ac ag,λk ap=>?_,λ_=>by rw [show N0+F.n=N by omega,Y];trivial,?_,?_,?_,λk ap hh=>?_,by rw [K];exact .nil,by rw [K];simp [got]⟩
 ·rw [Z _ (by omega) (by omega)];exact h.work k ap
 ·rw [K,sum cU U.1 rfl rfl];exact al
 ·rw [K];exact am
 ·have hm:=h.mode;simp only [Bool.false_eq_true,if_false,if_true] at hm ⊢;rw [show N0+F.n=N by omega,Y,sum cL U.2.1 rfl rfl,sum cS U.2.2 rfl rfl];exact hm
 ·rw [K];rw [Z _ (by omega) (by omega)];have:=h.K2 k ap hh
  rwa [a1] at this
theorem CX.leave(h:CX F N0 N j c φ v wt sm cl){i d d':Nat}(hi:i<N)(K:φ i= .gone d):CX F N0 N j c (upd φ i (.gone d')) v wt sm cl:=by
 rcases h.EZ hi with rfl | ⟨a,b⟩ | ⟨k,U,rfl⟩ | ⟨Y,rfl⟩
 ·obtain⟨p,Z,_⟩:=h.main;rw [K] at Z;cases Z
 ·have am:=hi;have z:∀f:Nx->Nat,f (.gone d)=0->f (.gone d')=0->(sumTo N λa=>f (upd φ i (.gone d') a))=sumTo N λa=>f (φ a):=by
   intro f f0 f1;have:=sumTo_upd φ (.gone d') f am;rw [K] at this;omega
  have aw:=h.size;have O:upd φ i (.gone d') 0=φ 0:=upd_ne _ _ (by omega);refine⟨h.pos,h.n1,h.Ig,h.size,h.jn,h.cj,by rw [O];exact h.main,λac ap aq=>?_,λk U=>by rw [upd_ne _ _ (by omega)];exact h.work k U,λY=>by rw [upd_ne _ _ (by omega)];exact h.cls Y,by rw [O,z cU rfl rfl];exact h.cnt,by rw [O];exact h.Ko,?_,λk U hh=>by rw [O,upd_ne _ _ (by omega)];exact h.K2 k U hh,by rw [O];exact h.nd,by rw [O];exact h.sub⟩
  ·by_cases e:ac=i
   ·subst e;rw [upd_same];trivial
   ·rw [upd_ne _ _ e];exact h.old ac ap aq
  ·rw [z cL rfl rfl,z cS rfl rfl,upd_ne _ _ (by omega)];exact h.mode
 ·refine h.IF U (x:= .gone d') trivial (by rw [K];simp) (by simp) (by rw [K];rfl) λL S ag al=>?_;rw [K] at ag al;have av:L=sumTo N λi=>cL (φ i):=ag;have e2:S=sumTo N λi=>cS (φ i):=al;subst av e2;exact h.mode
 ·have hm:=h.mode;rw [if_pos Y,K] at hm;exact h.H7 Y (x:= .gone d') trivial hm
theorem CX.Y5(h:CX F N0 N j c φ v wt sm cl)(O:c=true)(U:φ (N0+F.n)= .ph .Hz∨φ (N0+F.n)= .ph .GA∨φ (N0+F.n)= .ph .GH∨φ (N0+F.n)= .ph .H2∨Om (φ (N0+F.n))):∀k,k<j->Om (φ (N0+k)):=by
 intro k Y;have hm:=h.mode;rw [if_pos O] at hm;have Z:=h.size;have ac:=h.cnt;have ag:cU (φ (N0+k))<=sumTo N λi=>cU (φ i):=le_sumTo (f:=λi=>cU (φ i)) (show N0+k<N by omega);have al:cL (φ (N0+k))<=sumTo N λi=>cL (φ i):=le_sumTo (f:=λi=>cL (φ i)) (show N0+k<N by omega);have am:cS (φ (N0+k))<=sumTo N λi=>cS (φ i):=le_sumTo (f:=λi=>cS (φ i)) (show N0+k<N by omega);have ap:v=0/\(sumTo N λi=>cL (φ i))=0/\(sumTo N λi=>cS (φ i))=0:=by
  rcases U with e | e | e | e | e
  ·rw [e] at hm;exact⟨hm.2.2.2.2.1,hm.1,hm.2.1⟩
  ·rw [e] at hm;exact⟨hm.2.2.2.2.1,hm.1,hm.2.1⟩
  ·rw [e] at hm;exact⟨hm.2.2.2.2.1,hm.1,hm.2.1⟩
  ·rw [e] at hm;exact⟨hm.2.2.2.2.1,hm.1,hm.2.1⟩
  ·cases K:φ (N0+F.n) with
   | gone d=>rw [K] at hm;exact⟨hm.2.2.2.2.1,hm.1,hm.2.1⟩
   | ph p=>rw [K] at e;exact e.elim
 have hw:=h.work k Y;cases K:φ (N0+k) with
 | gone d=>trivial
 | ph p=>
  have aq:1<=cU (φ (N0+k))+cL (φ (N0+k))+cS (φ (N0+k)):=by
   rw [K] at hw ⊢;cases p <;> simp only [Hf] at hw <;> simp [cU,cL,cS]
  exfalso;omega
end
open Go.ConcN (RelBy)
def dl:LP->Nat
 | .HE | .EK _ _ _ | .CJ _ _ _ _ | .IB _ | .CQ _ | .Gu | .EX _ | .EI _ | .len=>1
 | .H8 | .Fh _ | .HG | .FA _ | .FB=>1
 | _=>0
def Gb:Nx->Nat
 | .gone d=>d
 | .ph .HI | .ph .Hg | .ph .HA | .ph .FL=>1
 | .ph (.Gt _) | .ph (.HF _) | .ph .IQ | .ph .Ic | .ph .FZ | .ph .Hz | .ph .GA=>1
 | .ph (.II _) | .ph (.IL _) | .ph (.H5 _) | .ph (.Hn _)=>1
 | .ph (.lk _ p)=>dl p
 | _=>0
def late:Nx->Prop
 | .ph (.HB _) | .ph .Ia | .ph .G2 | .ph (.lk _ _)=>False
 | _=>True
def KE(t:Trace)(E:LH)(ρ:Nat):Prop:=∀b,E b≠none->∀x a,touchAt t x=some a->Db a.loc=some b->a.write=true->Before t x ρ
structure Fz (F:Fam) (N0 t0 N j:Nat) (φ:Nat->Nx) (S:Nat->St) (t:Trace):Prop where
 deaf:∀i,i<N->Deaf t i=Gb (φ i)
 above:∀i,N<=i->Deaf t i=0
 plain:∀x a b,touchAt t x=some a->Db a.loc=some b->(b=F.wg∨b=F.mu)->a.kind= .plain->∀i,i<N->(i=0∨N0<=i)->Knows t i x
 said:∀x a b,touchAt t x=some a->Db a.loc=some b->(b=F.wg∨b=F.mu)->a.kind= .said->Knows t 0 x
 GN:∀x a,touchAt t x=some a->Db a.loc=some F.fd->(∀i,i<N->(i=0∨N0<=i)->Knows t i x)∨∃k,k<j/\t.g? x=some (N0+k)/\t.counts x/\a.loc= .cell ⟨F.fd,k,none⟩
 over:∀x g,t.g? x=some g->g≠0->t.counts x->(∃y,t.g? y=some 0/\HappensBefore t x y)∨(N0<=g/\g<N)
 norel:∀x,t0<=x->t.act? x≠some (.mark (.release F.sA))
 MN:t0<=t.size
 rel:∀k,k<j->late (φ (N0+k))->∃ρ,t0<=ρ/\RelBy F.sA t (N0+k) ρ/\KE t (S (N0+k)).E ρ
section
variable {F:Fam}{N0 t0 N j:Nat}{φ:Nat->Nx}{S:Nat->St}{t u:Trace}
def EvS(F:Fam)(N0 j i:Nat)(e:Event):Prop:=
 (∀a,(MemAct.ofEvent e).touch? =some a->∃b,Db a.loc=some b/\(((b=F.wg∨b=F.mu)/\a.kind≠ .plain/\(a.kind= .said->i=0))∨(b=F.fd/\∃k,k<j/\i=N0+k/\a.loc= .cell ⟨F.fd,k,none⟩/\a.kind= .plain)))/\e.loc≠ .mark (.release F.sA)
theorem Fz.noRace(h:Fz F N0 t0 N j φ S t)(am:∀said,¬Race said t){i:Nat}(hi:i<N)(Z:i=0∨N0<=i){fn:FuncId}{pos:String}{es:Array Event}
  (ap:∀e∈es,EvS F N0 j i e):∀said,¬Race said (t++MemOp.ofEvents i fn pos es):=by
 intro said;refine noRace_append (g:=i) (am said) (λop O=>by obtain⟨e,_,rfl⟩:=mem_ofEvents O;rfl) λx a U op O d hd aq=>?_;obtain⟨e,he,rfl⟩:=mem_ofEvents O;obtain⟨b,hb,K⟩:=(ap e he).1 d hd;obtain⟨ac,hm,a1,av⟩:=aq;have Y:Db a.loc=some b:=by rw [ac];exact hb
 rcases K with⟨K,ag,hs⟩ | ⟨rfl,k,ag,aw,ay,_⟩
 ·rcases av with q | q | ⟨_,q,q'⟩
  ·exact h.plain x a b U Y K q i hi Z
  ·exact absurd q ag
  ·have:=h.said x a b U Y K q
   rwa [← hs q'] at this
 ·rcases h.GN x a U Y with q | ⟨k',_,hg,_,al⟩
  ·exact q i hi Z
  ·rw [ac,ay] at al;have:k=k':=by simpa using al
   subst this;obtain⟨z,az,a0⟩:=Option.map_eq_some_iff.1 hg;have:=knows_own az;rw [a0,← aw] at this;exact this
theorem PV(h:∀x g,t.g? x=some g->g≠0->t.counts x->(∃y,t.g? y=some 0/\HappensBefore t x y)∨(N0<=g/\g<N))(hu:∀op∈u,op.g=0∨(N0<=op.g/\op.g<N)∨op.act.touch? =none):
  ∀x g,(t++u).g? x=some g->g≠0->(t++u).counts x->(∃y,(t++u).g? y=some 0/\HappensBefore (t++u) x y)∨(N0<=g/\g<N):=by
 intro x g hg O U;rcases Nat.lt_or_ge x t.size with q | q
 ·rcases h x g (by rw [← g?_old (u:=u) q];exact hg) O ((counts_old q).1 U) with⟨y,K,hb⟩ | hh
  ·have ag:y<t.size:=by
    unfold Trace.g? at K;obtain⟨z,al,_⟩:=Option.map_eq_some_iff.1 K;exact lt_size_of_getElem? al
   exact .inl ⟨y,by rw [g?_old ag];exact K,hb_app u hb⟩
  ·exact .inr hh
 ·obtain⟨a,am,_⟩:=U;obtain⟨op,Y,Z⟩:=touch_of am;have ac:op.g=g:=by simpa [Trace.g?,Y] using hg
  rcases getElem?_append_cases Y with⟨aq,_⟩ | ⟨_,ap⟩
  ·omega
  ·rcases hu op ap with z | z | z
   ·exact absurd (ac▸z) O
   ·exact .inr (ac▸z)
   ·rw [z] at Z;cases Z
theorem PE(h:∀x,t0<=x->t.act? x≠some (.mark (.release F.sA)))(hu:∀op∈u,op.act≠ .mark (.release F.sA)):∀x,t0<=x->(t++u).act? x≠some (.mark (.release F.sA)):=by
 intro x O e;obtain⟨op,U,K⟩:=Option.map_eq_some_iff.1 e;rcases getElem?_append_cases U with⟨_,Y⟩ | ⟨_,Z⟩
 ·exact h x O (by rw [act?_of Y,K])
 ·exact hu op Z K
theorem U7{g:Nat}(hu:∀op∈u,op.g=g->op.act.touch? =none):∀x,t.size<=x->(t++u).g? x=some g->¬(t++u).counts x:=by
 intro x ac hg U;obtain⟨a,Y,_⟩:=U;obtain⟨op,K,O⟩:=touch_of Y;rcases getElem?_append_cases K with⟨ag,_⟩ | ⟨_,Z⟩
 ·omega
 ·rw [hu op Z (by simpa [Trace.g?,K] using hg)] at O;cases O
theorem KE.app{E:LH}{ρ:Nat}(h:KE t E ρ)(hu:∀op∈u,∀a b,op.act.touch? =some a->Db a.loc=some b->a.write=true->E b=none):KE (t++u) E ρ:=by
 intro b hb x a U K hw;obtain⟨op,Y,O⟩:=touch_of U;rcases getElem?_append_cases Y with⟨ag,Z⟩ | ⟨_,ac⟩
 ·exact(h b hb x a (by rw [touchAt_of Z];exact O) K hw).app u
 ·exact absurd (hu op ac a b O K hw) hb
theorem Fz.app(h:Fz F N0 t0 N j φ S t){i:Nat}(hi:i<N){x:Nx}{s':St}{fn:FuncId}{pos:String}{es:Array Event}
  (hd:deafBehind (Gb (φ i)) es=Gb x)
  (aq:∀e∈es,(∀a b,(MemAct.ofEvent e).touch? =some a->Db a.loc=some b->(b=F.wg∨b=F.mu)->a.kind≠ .plain/\(a.kind= .said->i=0))/\
   (∀a,(MemAct.ofEvent e).touch? =some a->Db a.loc=some F.fd->∃k,k<j/\i=N0+k/\a.loc= .cell ⟨F.fd,k,none⟩/\a.kind= .plain)/\e.loc≠ .mark (.release F.sA))
  (a6:(i=0∨N0<=i)∨∀e∈es,(MemAct.ofEvent e).touch? =none)
  (a7:∀k,k<j->late (φ (N0+k))->∀e∈es,∀a b,(MemAct.ofEvent e).touch? =some a->Db a.loc=some b->a.write=true->(S (N0+k)).E b=none)
  (aw:∀k,k<j->i=N0+k->late x->(late (φ i)/\s'.E=(S i).E/\∀ρ,RelBy F.sA t i ρ->RelBy F.sA (t++MemOp.ofEvents i fn pos es) i ρ)∨∃ρ,t0<=ρ/\RelBy F.sA (t++MemOp.ofEvents i fn pos es) i ρ/\KE (t++MemOp.ofEvents i fn pos es) s'.E ρ):
  Fz F N0 t0 N j (upd φ i x) (upd S i s') (t++MemOp.ofEvents i fn pos es):=by
 generalize hu:MemOp.ofEvents i fn pos es=u at*;have ag:∀op∈u,op.g=i:=λop O=>by rw [← hu] at O;obtain⟨e,_,rfl⟩:=mem_ofEvents O;rfl
 have av:∀op∈u,∃e∈es,op.act=MemAct.ofEvent e:=λop O=>by rw [← hu] at O;obtain⟨e,he,rfl⟩:=mem_ofEvents O;exact⟨e,he,V⟩
 have hold:∀{y a},touchAt (t++u) y=some a->(touchAt t y=some a/\y<t.size)∨(Knows (t++u) i y/\(t++u).g? y=some i/\∃e∈es,(MemAct.ofEvent e).touch? =some a):=by
  intro y a a8;obtain⟨op,O,a0⟩:=touch_of a8;rcases getElem?_append_cases O with⟨aw,a9⟩ | ⟨_,ay⟩
  ·left;exact⟨by rw [touchAt_of a9];exact a0,aw⟩
  ·right;obtain⟨e,he,Z⟩:=av op ay;exact⟨by have:=knows_own O;rwa [ag op ay] at this,by simp [Trace.g?,O,ag op ay],e,he,by rw [← Z];exact a0⟩
 have a1:∀k,k<j->late (φ (N0+k))->∀ρ,KE t (S (N0+k)).E ρ->KE (t++u) (S (N0+k)).E ρ:=λk K U ρ bb=>bb.app λop be a b a2 hb hw=>by
  obtain⟨e,he,Z⟩:=av op be;rw [Z] at a2;exact a7 k K U e he a b a2 hb hw
 refine⟨λY ac=>?_,λY ac=>?_,λy a b al hb am K Y ac az=>?_,λy a b al hb am K=>?_,λy a al hb=>?_,PV h.over λop O=>?_,PE h.norel λop O e=>?_,by simp;have:=h.MN;omega,λk K U=>?_⟩
 ·by_cases e:Y=i
  ·subst e;rw [upd_same,← hu,Deaf_own,h.deaf Y hi,hd]
  ·rw [upd_ne _ _ e,Deaf_other t (Ne.symm e) u ag];exact h.deaf Y ac
 ·rw [Deaf_other t (by omega) u ag];exact h.above Y ac
 ·rcases hold al with⟨q,_⟩ | ⟨_,_,e,he,ap⟩
  ·exact(h.plain y a b q hb am K Y ac az).app _
  ·exact absurd K ((aq e he).1 a b ap hb am).1
 ·rcases hold al with⟨q,_⟩ | ⟨a3,_,e,he,ap⟩
  ·exact(h.said y a b q hb am K).app _
  ·rw [← ((aq e he).1 a b ap hb am).2 K];exact a3
 ·rcases hold al with⟨q,a4⟩ | ⟨a3,hg,e,he,ap⟩
  ·rcases h.GN y a q hb with z | ⟨k,K,hg,bi,U⟩
   ·exact .inl λY ac az=>(z Y ac az).app _
   ·exact .inr ⟨k,K,by rw [g?_old a4];exact hg,(counts_old a4).2 bi,U⟩
  ·obtain⟨k,K,bn,U,bo⟩:=(aq e he).2.1 a ap hb;exact .inr ⟨k,K,by rw [hg,bn],⟨a,al,by rw [U];rfl,.inl (by rw [bo];simp)⟩,U⟩
 ·rw [ag op O];rcases a6 with(q | q) | q
  ·exact .inl q
  ·exact .inr (.inl ⟨q,hi⟩)
  ·obtain⟨e,he,Z⟩:=av op O;rw [Z];exact .inr (.inr (q e he))
 ·obtain⟨ev,bv,Z⟩:=av op O;rw [Z] at e;exact(aq ev bv).2.2 (by
   obtain⟨loc,wr,bw⟩:=ev
   cases loc with
   | mark m=>simp only [MemAct.ofEvent,MemAct.mark.injEq] at e;rw [e]
   | obj r=>cases wr <;> cases bw <;> simp [MemAct.ofEvent] at e
   | _=>simp [MemAct.ofEvent] at e)
 ·by_cases e:i=N0+k
  ·subst e;rw [upd_same] at U;rw [upd_same];rcases aw k K rfl U with⟨a5,bx,bz⟩ | hh
   ·obtain⟨ρ,a,b,c⟩:=h.rel k K a5;exact⟨ρ,a,bz ρ b,by rw [bx];exact a1 k K a5 ρ c⟩
   ·exact hh
  ·rw [upd_ne _ _ (Ne.symm e)] at U;rw [upd_ne _ _ (Ne.symm e)];obtain⟨ρ,a,b,c⟩:=h.rel k K U;exact⟨ρ,a,b.appOther ag e,a1 k K U ρ c⟩
theorem Fz.DC(h:Fz F N0 t0 N j φ S t)(hu:∀op∈u,op.act.touch? =none/\∀m,op.act≠ .mark m):Fz F N0 t0 N j φ S (t++u):=by
 have am:∀g,Deaf (t++u) g=Deaf t g:=by
  intro g;obtain⟨l⟩:=u;rw [Deaf_append];have key:∀(l:List MemOp) (d:Nat),(∀op∈l,∀m,op.act≠ .mark m)->l.foldl (deafStep g) d=d:=by
   intro l
   induction l with
   | nil=>intro d _;rfl
   | cons z l av=>
    intro d U;have aw:=U z (by simp);have e2:deafStep g d z=d:=by
     unfold deafStep;split <;> first | (rename_i e;exact absurd e (aw _)) | rfl
    rw [List.foldl_cons,e2];exact av d λop K=>U op (by simp [K])
  exact key l _ λop K=>(hu op (by simpa using K)).2
 have hold:∀{y a},touchAt (t++u) y=some a->touchAt t y=some a/\y<t.size:=by
  intro y a Z;obtain⟨op,K,ac⟩:=touch_of Z;rcases getElem?_append_cases K with⟨ay,az⟩ | ⟨_,a0⟩
  ·exact⟨by rw [touchAt_of az];exact ac,ay⟩
  ·rw [(hu op a0).1] at ac;cases ac
 have a1:∀g x,t.size<=x->(t++u).g? x=some g->¬(t++u).counts x:=λg=>U7 λop K _=>(hu op K).1;refine⟨λi hi=>by rw [am];exact h.deaf i hi,λi hi=>by rw [am];exact h.above i hi,λy a b Y hb ag O i hi al=>(h.plain y a b (hold Y).1 hb ag O i hi al).app _,λy a b Y hb ag O=>(h.said y a b (hold Y).1 hb ag O).app _,λy a Y hb=>?_,
  PV h.over λop K=> .inr (.inr (hu op K).1),PE h.norel λop K=>(hu op K).2 _,by simp;have:=h.MN;omega,λk O U=>let ⟨ρ,a,b,c⟩:=h.rel k O U;⟨ρ,a,b.app λx Z hg=>a1 _ x Z hg,c.app λop K a b ap=>by rw [(hu op K).1] at ap;cases ap⟩⟩
 obtain⟨q,aq⟩:=hold Y;rcases h.GN y a q hb with z | ⟨k,O,hg,a2,U⟩
 ·exact .inl λa3 a4 al=>(z a3 a4 al).app _
 ·exact .inr ⟨k,O,by rw [g?_old aq];exact hg,(counts_old aq).2 a2,U⟩
theorem Fz.spawn(h:Fz F N0 t0 N j φ S t){φ':Nat->Nx}{S':Nat->St}(ac:0<N)(a9:N=N0+j)(hd:∀i,i<N->Gb (φ' i)=Gb (φ i))(a1:Gb (φ' N)=0)(a2:Gb (φ 0)=0)
  (a3:∀k,k<j+1->late (φ' (N0+k))->k<j/\late (φ (N0+k))/\(S' (N0+k)).E=(S (N0+k)).E)
  {x y:MemOp} (Z:x.g=0/\x.act= .go N) (ap:y.g=N/\y.act= .start):Fz F N0 t0 (N+1) (j+1) φ' S' (t++ #[x,y]):=by
 have hu:∀op∈(#[x,y]:Array MemOp),op.act.touch? =none/\∀m,op.act≠ .mark m:=by
  intro op aq;simp only [List.mem_toArray,List.mem_cons,List.not_mem_nil,or_false] at aq;rcases aq with rfl | rfl
  ·rw [Z.2];exact⟨V,by simp⟩
  ·rw [ap.2];exact⟨V,by simp⟩
 have K:=h.DC hu;have av:∀z,Knows t 0 z->Knows (t++ #[x,y]) N z:=λz O=>fork_knows Z ap (by rw [h.deaf 0 ac];exact a2) (h.above N (Nat.le_refl _)) O;have hold:∀{z a},touchAt (t++ #[x,y]) z=some a->touchAt t z=some a:=by
  intro z a O;obtain⟨op,ag,U⟩:=touch_of O;rcases getElem?_append_cases ag with⟨aw,a4⟩ | ⟨_,al⟩
  ·rw [touchAt_of a4];exact U
  ·rw [(hu op al).1] at U;cases U
 refine⟨λi hi=>?_,λi hi=>K.above i (by omega),λz a b O hb ay Y i hi am=>?_,K.said,λz a O hb=>?_,λz g hg a5 a6=>?_,K.norel,K.MN,λk Y Z=>?_⟩
 ·rcases Nat.lt_or_ge i N with q | q
  ·rw [hd i q];exact K.deaf i q
  ·obtain rfl:i=N:=by omega
   rw [a1];exact K.above i (Nat.le_refl _)
 ·rcases Nat.lt_or_ge i N with q | q
  ·exact K.plain z a b O hb ay Y i q am
  ·obtain rfl:i=N:=by omega
   exact av z (h.plain z a b (hold O) hb ay Y 0 ac (.inl V))
 ·have az:z<t.size:=by
   obtain⟨op,ag,U⟩:=touch_of O;rcases getElem?_append_cases ag with⟨aw,_⟩ | ⟨_,al⟩
   ·exact aw
   ·rw [(hu op al).1] at U;cases U
  rcases h.GN z a (hold O) hb with a0 | ⟨k,Y,hg,a7,a8⟩
  ·refine .inl λi hi am=>?_;rcases Nat.lt_or_ge i N with q | q
   ·exact(a0 i q am).app _
   ·obtain rfl:i=N:=by omega
    exact av z (a0 0 ac (.inl V))
  ·exact .inr ⟨k,by omega,by rw [g?_old az];exact hg,(counts_old az).2 a7,a8⟩
 ·rcases K.over z g hg a5 a6 with q | q
  ·exact .inl q
  ·exact .inr ⟨q.1,by omega⟩
 ·obtain⟨a,b,c⟩:=a3 k Y Z;rw [c];exact K.rel k a b
end
end Pal
namespace Pal
open Go Go.Conc
open Go.ConcN (upd upd_same upd_ne sumTo sumTo_upd sumTo_upd_out sumTo_congr le_sumTo sumTo_le)
def pH:LP->Nat
 | .len | .K3 | .Kh | .F1 | .G4 | .Kp | .Kj | .Kd | .H8=>1
 | _=>0
def pN:LP->Nat
 | .FA false=>1
 | _=>0
def pZ:LP->Nat
 | .FA true=>1
 | _=>0
def pV:LP->Nat
 | .Gu | .EX _=>1
 | _=>0
def pT:LP->Nat
 | .EK _ true _ | .CJ _ true _ _=>1
 | _=>0
def pQ:LP->Nat
 | .IB _ | .CQ _=>1
 | _=>0
def pD:LP->Nat
 | .EI _=>1
 | _=>0
def pX:LP->Nat
 | .Fh _ | .HG=>1
 | _=>0
def oC(f:LP->Nat):Option LP->Nat
 | some p=>f p
 | none=>0
def LN(m:M4)(q h rn rs v t s d x:Nat):Prop:=
 h=m.l.toNat/\
 (m.s=false->rs=0/\d=0/\m.k.toNat=rn+q+v+t/\s=m.w+rn+q/\(m.l=false->m.k=false->1<=m.w->1<=x))/\
 (m.s=true->m.k=false/\rn=0/\t=0/\m.l.toNat+rs+q+v+d=1/\m.w=s+v+d/\1<=m.w)
def LU:LP->M4->Prop
 | .CJ sv aw it old,_=>(aw=true->old.k=true)/\(sv=true->aw=true)/\it<=4/\Dt old
 | .EK sv aw it,_=>(sv=true->aw=true)/\it<=4
 | .EI ex,m=>ex=false->2<=m.w
 | .Fh old,_=>old.l=false/\old.k=false/\old.s=false/\old.w≠0/\Dt old
 | _,_=>True
section
variable {F:Fam}{p:LP}{m m':M4}{q q' h rn rs v t s d x:Nat}{es:Array Event}{o:Option LP}
theorem bB(am:LN m q (pH p+h) (pN p+rn) (pZ p+rs) (pV p+v) (pT p+t) (pQ p+s) (pD p+d) (pX p+x))(K:LU p m)(hs:Dt m)(ap:∀sv,p= .CQ sv->q≠0):Ep p m q:=by
 obtain⟨l,k,st,w⟩:=m;obtain⟨Y,O,U⟩:=am;cases p <;> simp only [Ep,LU] at K ⊢ <;> (try exact hs)
 ·exact⟨K.1,K.2,hs,λe=>by
   subst e
   simp only [pH,pN,pZ,pV,pT,pQ,pD,pX] at Y O U
   cases st
   ·have:=(O V).2.2.1
    cases k
    ·simp at this;omega
    ·rfl
   ·have:=(U V).2.2.1;omega⟩
 ·exact⟨K.1,K.2.1,K.2.2.1,K.2.2.2,hs,λe=>by
   subst e
   simp only [pH,pN,pZ,pV,pT,pQ,pD,pX] at Y O U
   cases st
   ·have:=(O V).2.2.1
    cases k
    ·simp at this;omega
    ·rfl
   ·have:=(U V).2.2.1;omega⟩
 ·exact ap _ V
 ·simp only [pH,pN,pZ,pV,pT,pQ,pD,pX] at Y O U;refine⟨λe=>?_,λe=>?_,hs⟩
  ·subst e;obtain⟨a1,ag,ac,Z,aq,al⟩:=U V;cases l
   ·exact⟨V,a1,by omega⟩
   ·simp at Z;omega
  ·subst e;obtain⟨a1,ag,ac,Z⟩:=O V;cases k
   ·simp at ac;omega
   ·rfl
 ·simp only [pH,pN,pZ,pV,pT,pQ,pD,pX] at Y O U;cases st
  ·have:=(O V).2.1;omega
  ·obtain⟨a1,ag,ac,Z,aq,al⟩:=U V;cases l
   ·exact⟨V,V,a1,al,K,hs⟩
   ·simp at Z;omega
 ·simp only [pH,pN,pZ,pV,pT,pQ,pD,pX] at Y;cases l
  ·simp at Y
  ·exact⟨V,hs⟩
 ·exact⟨K.1,K.2.1,K.2.2.1,K.2.2.2.1,K.2.2.2.2,hs⟩
 ·refine⟨?_,hs⟩;have av:k.toNat<=1:=Bool.toNat_le k;cases st
  ·have:=(O V).2.2.1;simp only at this;omega
  ·have:=(U V).2.2.2.1;simp only at this;omega
set_option maxHeartbeats 1000000 in
theorem LN.step(K:(m',q',es,o)∈F.Cg p m q)(U:Ep p m q)(O:LN m q (pH p+h) (pN p+rn) (pZ p+rs) (pV p+v) (pT p+t) (pQ p+s) (pD p+d) (pX p+x)):
  LN m' q' (oC pH o+h) (oC pN o+rn) (oC pZ o+rs) (oC pV o+v) (oC pT o+t) (oC pQ o+s) (oC pD o+d) (oC pX o+x):=by
 obtain⟨l,k,st,w⟩:=m;cases p <;> simp only [Fam.Cg,List.mem_singleton,Prod.mk.injEq,List.not_mem_nil] at K
 case Gw=>obtain⟨rfl,rfl,-,rfl⟩:=K;exact O
 case HE=>
  split at K
  ·rename_i e;simp only [M4.zero,M4.mk.injEq] at e;obtain⟨rfl,rfl,rfl,rfl⟩:=e;simp only [List.mem_singleton,Prod.mk.injEq] at K;obtain⟨rfl,rfl,-,rfl⟩:=K;simp [LN,pH,pN,pZ,pV,pT,pQ,pD,pX,oC] at O ⊢;omega
  ·simp only [List.mem_singleton,Prod.mk.injEq] at K;obtain⟨rfl,rfl,-,rfl⟩:=K;exact O
 case EK sv aw it=>obtain⟨rfl,rfl,-,rfl⟩:=K;cases aw <;> exact O
 case CJ sv aw it old=>
  simp only [Fam.FY,List.mem_append] at K;simp only [Ep] at U;obtain⟨k1,Y,Z,ac,am,-⟩:=U;rcases K with K | K
  ·split at K
   ·rename_i c;split at K
    ·rename_i c2;simp only [List.mem_singleton] at K;obtain⟨rfl,c3,c4⟩:=c2;split at K
     ·rename_i e;subst e;simp only [Prod.mk.injEq] at K;obtain⟨rfl,rfl,-,rfl⟩:=K;simp only at c c3 c4;obtain⟨rfl,rfl,-⟩:=c;subst c3;simp [LN,pH,pN,pZ,pV,pT,pQ,pD,pX,oC] at O ⊢;omega
     ·simp only [Prod.mk.injEq] at K;obtain⟨rfl,rfl,-,rfl⟩:=K;exact O
    ·simp only [List.mem_singleton,Prod.mk.injEq] at K;obtain⟨rfl,rfl,-,rfl⟩:=K;cases aw <;> exact O
   ·simp at K
  ·split at K
   ·rename_i e;subst e;split at K
    ·rename_i c;simp only [List.mem_singleton,Prod.mk.injEq] at K;obtain⟨rfl,rfl,-,rfl⟩:=K;simp only at c;obtain⟨rfl,rfl⟩:=c;cases aw <;> cases k <;> simp [LN,pH,pN,pZ,pV,pT,pQ,pD,pX,oC] at O k1 ⊢ <;> omega
    ·rename_i c;have key:∀o',(o'=some (LP.IB sv)∨o'=some (LP.CQ sv))->LN ⟨l,!aw&&k,st || (sv&&l),w+1⟩ q (oC pH o'+h) (oC pN o'+rn) (oC pZ o'+rs) (oC pV o'+v) (oC pT o'+t) (oC pQ o'+s) (oC pD o'+d) (oC pX o'+x):=by
      intro o' ap;have ag:oC pH o'=0/\oC pN o'=0/\oC pZ o'=0/\oC pV o'=0/\oC pT o'=0/\oC pQ o'=1/\oC pD o'=0/\oC pX o'=0:=by
       rcases ap with rfl | rfl <;> exact⟨rfl,rfl,rfl,rfl,rfl,rfl,rfl,rfl⟩
      obtain⟨ag,e2,aq,av,ay,az,a0,a1⟩:=ag;rw [ag,e2,aq,av,ay,az,a0,a1];cases l <;> cases st <;> cases k <;> cases aw <;> cases sv <;> simp [LN,pH,pN,pZ,pV,pT,pQ,pD,pX] at O k1 Y c ⊢ <;> omega
     simp only [List.mem_cons,List.not_mem_nil,or_false,Prod.mk.injEq] at K;rcases K with⟨rfl,rfl,-,rfl⟩ | ⟨rfl,rfl,-,rfl⟩
     ·exact key _ (.inl V)
     ·exact key _ (.inr V)
   ·simp only [List.mem_singleton,Prod.mk.injEq] at K;obtain⟨rfl,rfl,-,rfl⟩:=K;cases aw <;> exact O
 case IB sv=>obtain⟨rfl,rfl,-,rfl⟩:=K;exact O
 case CQ sv=>
  obtain⟨rfl,rfl,-,rfl⟩:=K;simp only [Ep] at U;cases st <;> cases k <;> cases l <;> cases sv <;> simp [LN,pH,pN,pZ,pV,pT,pQ,pD,pX,oC] at O ⊢ <;> omega
 case Gu=>
  simp only [List.mem_cons,List.not_mem_nil,or_false,Prod.mk.injEq] at K;rcases K with⟨rfl,rfl,-,rfl⟩ | ⟨rfl,rfl,-,rfl⟩ <;> exact O
 case EX sv=>
  simp only [Ep] at U;split at K
  ·rename_i c;simp only [List.mem_singleton,Prod.mk.injEq] at K;obtain⟨rfl,rfl,-,rfl⟩:=K;have c:st=true:=c;subst c;cases k <;> cases l <;> simp [LN,pH,pN,pZ,pV,pT,pQ,pD,pX,oC] at O ⊢ <;> omega
  ·rename_i c;simp only [List.mem_singleton,Prod.mk.injEq] at K;obtain⟨rfl,rfl,-,rfl⟩:=K;cases st
   ·cases k <;> cases l <;> simp [LN,pH,pN,pZ,pV,pT,pQ,pD,pX,oC] at O ⊢ <;> omega
   ·exact absurd V c
 case EI ex=>
  obtain⟨rfl,rfl,-,rfl⟩:=K;simp only [Ep] at U;obtain⟨rfl,rfl,rfl,ac,am,-⟩:=U;cases ex <;> simp [LN,pH,pN,pZ,pV,pT,pQ,pD,pX,oC] at O am ⊢ <;> omega
 case len=>obtain⟨rfl,rfl,-,rfl⟩:=K;exact O
 case K3=>obtain⟨rfl,rfl,-,rfl⟩:=K;exact O
 case Kh=>obtain⟨rfl,rfl,-,rfl⟩:=K;exact O
 case G4=>obtain⟨rfl,rfl,-,rfl⟩:=K;exact O
 case Kp=>obtain⟨rfl,rfl,-,rfl⟩:=K;exact O
 case Kj=>obtain⟨rfl,rfl,-,rfl⟩:=K;exact O
 case Kd=>obtain⟨rfl,rfl,-,rfl⟩:=K;exact O
 case H8=>
  obtain⟨rfl,rfl,-,rfl⟩:=K;simp only [Ep] at U;obtain⟨rfl,-⟩:=U;rcases Nat.eq_zero_or_pos w with rfl | hw
  ·cases st <;> cases k <;> simp [LN,pH,pN,pZ,pV,pT,pQ,pD,pX,oC] at O ⊢ <;> omega
  ·have al:¬w=0:=by omega
   cases st <;> cases k <;> simp [LN,pH,pN,pZ,pV,pT,pQ,pD,pX,oC,al] at O ⊢ <;> omega
 case Fh old=>
  simp only [Ep] at U;obtain⟨k1,Y,Z,ac,-⟩:=U;split at K
  ·rename_i e;subst e;simp only at k1 Y Z ac;subst k1 Y Z;simp only [List.mem_singleton,Prod.mk.injEq] at K;obtain⟨rfl,rfl,-,rfl⟩:=K;simp [LN,pH,pN,pZ,pV,pT,pQ,pD,pX,oC] at O ⊢;omega
  ·simp only [List.mem_singleton,Prod.mk.injEq] at K;obtain⟨rfl,rfl,-,rfl⟩:=K;exact O
 case HG=>
  obtain⟨rfl,rfl,-,rfl⟩:=K;rcases Nat.eq_zero_or_pos w with rfl | hw
  ·cases st <;> cases k <;> cases l <;> simp [LN,pH,pN,pZ,pV,pT,pQ,pD,pX,oC] at O ⊢ <;> omega
  ·have al:¬w=0:=by omega
   cases st <;> cases k <;> cases l <;> simp [LN,pH,pN,pZ,pV,pT,pQ,pD,pX,oC,al] at O ⊢ <;> omega
 case FA b=>
  obtain⟨rfl,rfl,-,rfl⟩:=K;cases b <;> cases st <;> cases k <;> cases l <;> simp [LN,pH,pN,pZ,pV,pT,pQ,pD,pX,oC] at O ⊢ <;> omega
 case FB=>obtain⟨rfl,rfl,-,rfl⟩:=K;exact O
theorem LN.awake(O:LN m q (pH p+h) (pN p+rn) (pZ p+rs) (pV p+v) (pT p+t) (pQ p+s) (pD p+d) (pX p+x))(ag:pT p=1):m.k=true:=by
 obtain⟨l,k,st,w⟩:=m;obtain⟨al,U,Y⟩:=O;cases st
 ·obtain⟨a1,Z,K,ac⟩:=U V;cases k
  ·simp at K;omega
  ·rfl
 ·obtain⟨a1,Z,K,ac⟩:=Y V;omega
theorem LN.dx(K:(m',q',es,o)∈F.Cg p m q)(O:Ep p m q)(Y:LU p m)(hs:Dt m)(ag:LN m q (pH p+h) (pN p+rn) (pZ p+rs) (pV p+v) (pT p+t) (pQ p+s) (pD p+d) (pX p+x)):∀Z,o=some Z->LU Z m':=by
 have ac:=λal=>ag.awake al;cases p <;> simp only [Fam.Cg,List.mem_singleton,Prod.mk.injEq,List.not_mem_nil] at K
 case HE=>
  split at K <;> simp only [List.mem_singleton,Prod.mk.injEq] at K <;> obtain⟨rfl,rfl,-,rfl⟩:=K <;> rintro _ ⟨⟩ <;> simp [LU]
 case EK sv aw it=>
  obtain⟨rfl,rfl,-,rfl⟩:=K;rintro _ ⟨⟩;exact⟨λe=>by subst e;exact ac rfl,Y.1,Y.2,hs⟩
 case CJ sv aw it old=>
  simp only [Fam.FY,List.mem_append] at K;simp only [Ep] at O;obtain⟨k1,U,am,ap,aq,-⟩:=O;rcases K with K | K
  ·split at K
   ·rename_i c;split at K
    ·simp only [List.mem_singleton] at K;split at K <;> simp only [Prod.mk.injEq] at K <;> obtain⟨rfl,rfl,-,rfl⟩:=K <;> rintro _ ⟨⟩
     ·exact⟨λ_=>V,by omega⟩
     ·exact⟨U,by omega⟩
    ·simp only [List.mem_singleton,Prod.mk.injEq] at K;obtain⟨rfl,rfl,-,rfl⟩:=K;rintro _ ⟨⟩;exact⟨λe=>by subst e;exact ac rfl,U,by omega,hs⟩
   ·simp at K
  ·split at K
   ·split at K
    ·simp only [List.mem_singleton,Prod.mk.injEq] at K;obtain⟨rfl,rfl,-,rfl⟩:=K;rintro _ ⟨⟩;trivial
    ·simp only [List.mem_cons,List.not_mem_nil,or_false,Prod.mk.injEq] at K;rcases K with⟨rfl,rfl,-,rfl⟩ | ⟨rfl,rfl,-,rfl⟩ <;> rintro _ ⟨⟩ <;> trivial
   ·simp only [List.mem_singleton,Prod.mk.injEq] at K;obtain⟨rfl,rfl,-,rfl⟩:=K;rintro _ ⟨⟩;exact⟨U,am⟩
 case CQ sv=>
  obtain⟨rfl,rfl,-,rfl⟩:=K;rintro _ h;cases sv <;> cases h <;> trivial
 case Gu=>
  simp only [List.mem_cons,List.not_mem_nil,or_false,Prod.mk.injEq] at K;rcases K with⟨rfl,rfl,-,rfl⟩ | ⟨rfl,rfl,-,rfl⟩ <;> rintro _ ⟨⟩ <;> trivial
 case EX sv=>
  simp only [Ep] at O;split at K
  ·rename_i c;simp only [List.mem_singleton,Prod.mk.injEq] at K;obtain⟨rfl,rfl,-,rfl⟩:=K;rintro _ ⟨⟩;intro e;have:=(O.1 c).2.2;simp at e;omega
  ·rename_i c;simp only [List.mem_singleton,Prod.mk.injEq] at K;obtain⟨rfl,rfl,-,rfl⟩:=K;rintro _ ⟨⟩;exact⟨λ_=>O.2.1 (by simpa using c),λ_=>V,by omega,hs⟩
 case H8=>
  obtain⟨rfl,rfl,-,rfl⟩:=K;rintro _ h;split at h
  ·cases h;trivial
  ·rename_i c;split at h
   ·rename_i c2;cases h;exact⟨V,c2.1,by simpa using c,c2.2,hs⟩
   ·cases h;trivial
 case Fh old=>
  split at K <;> simp only [List.mem_singleton,Prod.mk.injEq] at K <;> obtain⟨rfl,rfl,-,rfl⟩:=K <;> rintro _ ⟨⟩ <;> trivial
 case HG=>
  obtain⟨rfl,rfl,-,rfl⟩:=K;rintro _ h;split at h
  ·rename_i c;cases h;exact⟨c.1,c.2.1,c.2.2.1,c.2.2.2,hs⟩
  ·cases h;trivial
 all_goals
  obtain⟨rfl,rfl,-,rfl⟩:=K;rintro _ ⟨⟩
 all_goals trivial
theorem LN.keepW(K:(m',q',es,o)∈F.Cg p m q)(O:Ep p m q)(U:LN m q (pH p+h) (pN p+rn) (pZ p+rs) (pV p+v) (pT p+t) (pQ p+s) (pD p+d) (pX p+x))(hd:1<=d):m.w<=m'.w:=by
 obtain⟨l,k,st,w⟩:=m;obtain⟨al,Y,Z⟩:=U;have ac:st=true:=by
  cases st
  ·have:=(Y V).2.1;omega
  ·rfl
 subst ac;obtain⟨a1,am,ap,ag,aq,av⟩:=Z V;cases p <;> simp only [Fam.Cg,List.mem_singleton,Prod.mk.injEq,List.not_mem_nil] at K
 case HE=>split at K <;> simp only [List.mem_singleton,Prod.mk.injEq] at K <;> obtain⟨rfl,rfl,-,rfl⟩:=K <;> simp_all [M4.zero]
 case CJ sv aw it old=>
  simp only [Fam.FY,List.mem_append] at K;rcases K with K | K
  ·split at K
   ·split at K
    ·simp only [List.mem_singleton] at K;split at K <;> simp only [Prod.mk.injEq] at K <;> obtain⟨rfl,rfl,-,rfl⟩:=K <;> exact Nat.le_refl _
    ·simp only [List.mem_singleton,Prod.mk.injEq] at K;obtain⟨rfl,rfl,-,rfl⟩:=K;exact Nat.le_refl _
   ·simp at K
  ·split at K
   ·split at K
    ·simp only [List.mem_singleton,Prod.mk.injEq] at K;obtain⟨rfl,rfl,-,rfl⟩:=K;exact Nat.le_refl _
    ·simp only [List.mem_cons,List.not_mem_nil,or_false,Prod.mk.injEq] at K;rcases K with⟨rfl,rfl,-,rfl⟩ | ⟨rfl,rfl,-,rfl⟩ <;> simp
   ·simp only [List.mem_singleton,Prod.mk.injEq] at K;obtain⟨rfl,rfl,-,rfl⟩:=K;exact Nat.le_refl _
 case Gu=>
  simp only [List.mem_cons,List.not_mem_nil,or_false,Prod.mk.injEq] at K;rcases K with⟨rfl,rfl,-,rfl⟩ | ⟨rfl,rfl,-,rfl⟩ <;> exact Nat.le_refl _
 case EX sv=>split at K <;> simp only [List.mem_singleton,Prod.mk.injEq] at K <;> obtain⟨rfl,rfl,-,rfl⟩:=K <;> exact Nat.le_refl _
 case EI ex=>simp only [pD] at ag;omega
 case Fh old=>
  simp only [Ep] at O;split at K
  ·rename_i e;subst e;exact absurd O.2.2.1 (by simp)
  ·simp only [List.mem_singleton,Prod.mk.injEq] at K;obtain⟨rfl,rfl,-,rfl⟩:=K;exact Nat.le_refl _
 all_goals
  obtain⟨rfl,rfl,-,rfl⟩:=K;exact Nat.le_refl _
end
def Dx(f:LP->Nat):Nx->Nat
 | .ph (.lk _ p)=>f p
 | _=>0
def OY:Nx->M4->Prop
 | .ph (.lk _ p),m=>LU p m
 | _,_=>True
def Sg(f:LP->Nat)(N:Nat)(φ:Nat->Nx):Nat:=sumTo N λi=>Dx f (φ i)
structure LI (N:Nat) (φ:Nat->Nx) (m:M4) (q:Nat):Prop where
 ln:LN m q (Sg pH N φ) (Sg pN N φ) (Sg pZ N φ) (Sg pV N φ) (Sg pT N φ) (Sg pQ N φ) (Sg pD N φ) (Sg pX N φ)
 loc:∀i,i<N->OY (φ i) m
section
variable {F:Fam}{N i k:Nat}{φ:Nat->Nx}{p:LP}{m m':M4}{q q':Nat}{es:Array Event}{o:Option LP}{y:Nx}
theorem Qq(f:LP->Nat)(hi:i<N):Sg f N (upd φ i y)+Dx f (φ i)=Sg f N φ+Dx f y:=sumTo_upd φ y (Dx f) hi
theorem F7(f:LP->Nat)(hi:i<N)(K:φ i= .ph (.lk k p)):∃r,Sg f N φ=f p+r/\∀o,Sg f N (upd φ i (.ph (Fam.Dw k o)))=oC f o+r:=by
 have O:Dx f (φ i)<=Sg f N φ:=le_sumTo (f:=λi=>Dx f (φ i)) hi;have e:Dx f (φ i)=f p:=by rw [K];rfl
 refine⟨Sg f N φ - f p,by omega,λo=>?_⟩;have U:=Qq (φ:=φ) (y:= .ph (Fam.Dw k o)) f hi;have Y:Dx f (.ph (Fam.Dw k o))=oC f o:=by cases o <;> rfl
 omega
theorem NN(f:LP->Nat)(hi:i<N)(K:Dx f (φ i)=Dx f y):Sg f N (upd φ i y)=Sg f N φ:=by
 have:=Qq (φ:=φ) (y:=y) f hi;omega
theorem LI.other(h:LI N φ m q)(hi:i<N)(U:∀k p,φ i≠ .ph (.lk k p))(K:∀k p,y≠ .ph (.lk k p)):LI N (upd φ i y) m q:=by
 have z:∀(f:LP->Nat) x,(∀k p,x≠Nx.ph (.lk k p))->Dx f x=0:=by
  intro f x Y;cases x with
  | gone d=>rfl
  | ph p=>cases p <;> first | rfl | exact absurd rfl (Y _ _)
 have e:∀f,Sg f N (upd φ i y)=Sg f N φ:=λf=>NN f hi (by rw [z f _ U,z f _ K]);refine⟨by simp only [e];exact h.ln,λa Z=>?_⟩;by_cases O:a=i
 ·subst O;rw [upd_same];cases y with
  | gone d=>trivial
  | ph p=>cases p <;> first | trivial | exact absurd rfl (K _ _)
 ·rw [upd_ne _ _ O];exact h.loc a Z
theorem LI.ok(h:LI N φ m q)(hi:i<N)(K:φ i= .ph (.lk k p))(hs:Dt m)(Y:∀sv,p= .CQ sv->q≠0):Ep p m q:=by
 obtain⟨a,Z,-⟩:=F7 pH hi K;obtain⟨b,ac,-⟩:=F7 pN hi K;obtain⟨c,ag,-⟩:=F7 pZ hi K;obtain⟨d,al,-⟩:=F7 pV hi K;obtain⟨e,am,-⟩:=F7 pT hi K;obtain⟨f,ap,-⟩:=F7 pQ hi K;obtain⟨g,aq,-⟩:=F7 pD hi K;obtain⟨j,av,-⟩:=F7 pX hi K;have O:=h.ln;rw [Z,ac,ag,al,am,ap,aq,av] at O;have U:=h.loc i hi;rw [K] at U;exact bB O U hs Y
theorem LI.step(h:LI N φ m q)(hi:i<N)(K:φ i= .ph (.lk k p))(hs:Dt m)(U:Ep p m q)(Y:(m',q',es,o)∈F.Cg p m q):LI N (upd φ i (.ph (Fam.Dw k o))) m' q':=by
 obtain⟨a,aq,av⟩:=F7 pH hi K;obtain⟨b,aw,ay⟩:=F7 pN hi K;obtain⟨c,az,a0⟩:=F7 pZ hi K;obtain⟨d,a1,a2⟩:=F7 pV hi K;obtain⟨e,a3,a4⟩:=F7 pT hi K;obtain⟨f,a5,a6⟩:=F7 pQ hi K;obtain⟨g,a7,a8⟩:=F7 pD hi K;obtain⟨j,a9,bb⟩:=F7 pX hi K;have O:=h.ln;rw [aq,aw,az,a1,a3,a5,a7,a9] at O;have ag:=h.loc i hi;rw [K] at ag;refine⟨by rw [av,ay,a0,a2,a4,a6,a8,bb];exact O.step Y U,λy al=>?_⟩;by_cases Z:y=i
 ·subst Z;rw [upd_same];cases o with
  | none=>trivial
  | some be=>exact O.dx Y U ag hs be rfl
 ·rw [upd_ne _ _ Z];have ac:=h.loc y al;cases am:φ y with
  | gone d=>trivial
  | ph p0=>
   cases p0 with
   | lk bi p0=>
    rw [am] at ac;cases p0 <;> try exact ac
    rename_i ex;intro bn;have hd:1<=g:=by
     have bo:=Qq (N:=N) (φ:=φ) (i:=i) (y:= .gone 0) pD hi;have ap:Dx pD (upd φ i (.gone 0) y)<=Sg pD N (upd φ i (.gone 0)):=le_sumTo (f:=λa=>Dx pD (upd φ i (.gone 0) a)) al;rw [upd_ne _ _ Z,am] at ap;have bv:Dx pD (φ i)=pD p:=by rw [K];rfl
     have e2:Dx pD (.gone 0)=0:=V;have bw:Dx pD (.ph (.lk bi (.EI ex)))=1:=V;omega
    have:=O.keepW Y U hd;have ap:2<=m.w:=ac bn;omega
   | _=>trivial
end
def HL:LP->Nat
 | .len=>22 | .K3=>21 | .Kh=>20 | .F1=>19 | .G4=>18 | .Kp=>17 | .Kj=>16 | .Kd=>15 | .H8=>14
 | .Fh _=>13 | .HG=>13 | .FA _=>12 | .FB=>11
 | _=>23
def kw:LP->Nat
 | .Gw | .HE=>2
 | .EK _ aw _=>if aw then 1 else 2
 | .CJ _ aw _ _=>if aw then 1 else 2
 | .Gu | .EX _ | .EI _=>1
 | _=>0
def lc(m:M4):LP->Nat
 | .Gw=>27 | .HE=>26 | .EK _ _ it=>2*(5 - it)+1
 | .CJ _ _ it old=>2*(5 - it)+if m=old then 0 else 2
 | .IB _=>24 | .CQ _=>23 | .Gu=>22 | .EX _=>21
 | .Fh old=>if m=old then 1 else 3
 | .HG=>2
 | _=>0
def wO:Option LP->Nat
 | some p=>HL p
 | none=>9
def wt(n:Nat):Nx->Nat
 | .gone _=>0
 | .ph p=>match p with
  | .HB _=>10 | .Ia=>9 | .G2=>8 | .I9=>7 | .HI=>6 | .Hg=>5 | .HA=>4 | .FL=>3
  | .DW=>3*n+25 | .Gt m=>3*m+20 | .HF m=>3*m+19 | .IQ=>14 | .Ic=>13 | .FZ=>12 | .Hz=>11 | .GA=>10 | .IE=>9 | .GH=>8 | .H2=>7
  | .GK j=>5*n+90+50*(n - j) | .II j=>5*n+89+50*(n - j) | .IL j=>5*n+88+50*(n - j) | .H5 j=>5*n+87+50*(n - j) | .Hn j=>5*n+86+50*(n - j) | .Ge j=>5*n+85+50*(n - j)
  | .Hh=>5*n+60 | .F8 _ _=>2
  | .lk _ p=>HL p
theorem Z0{F:Fam}{p:Ph}{v w sm v' w' sm':Nat}{es:Array Event}{K:Nx}(h:F.act p v w sm=some ((v',w',sm'),es,K)):wt F.n K<wt F.n (.ph p):=by
  cases p <;> simp only [Fam.act] at h <;> (try (cases h;done))
  case HI=>
    split at h
    ·cases h;split <;> simp [wt]
    ·cases h
  case Gt=>
    split at h
    ·cases h;split <;> simp [wt] <;> omega
    ·cases h
  case HF=>
    split at h
    ·split at h <;> cases h <;> simp [wt] <;> omega
    ·cases h
  case II=>
    split at h
    ·cases h;split <;> simp [wt]
    ·cases h
  all_goals first
    | (cases h;simp [wt];done)
    | (split at h
       ·cases h;simp [wt]
       ·cases h)
section
variable {F:Fam}{p:LP}{m m':M4}{q q':Nat}{es:Array Event}{o:Option LP}
theorem YC(K:(m',q',es,o)∈F.Cg p m q)(O:Ep p m q):wO o<HL p∨(wO o=HL p/\(oC kw o+q'<kw p+q∨(oC kw o+q'=kw p+q/\m'=m/\oC (lc m) o<lc m p))):=by
 cases p <;> simp only [Fam.Cg,List.mem_singleton,Prod.mk.injEq,List.not_mem_nil] at K
 case HE=>
  split at K <;> simp only [List.mem_singleton,Prod.mk.injEq] at K <;> obtain⟨rfl,rfl,-,rfl⟩:=K
  ·exact .inl (by simp [wO,HL])
  ·exact .inr ⟨V,.inr ⟨V,V,by simp [oC,lc]⟩⟩
 case EK sv aw it=>
  obtain⟨rfl,rfl,-,rfl⟩:=K;exact .inr ⟨V,.inr ⟨V,V,by simp [oC,lc]⟩⟩
 case CJ sv aw it old=>
  simp only [Fam.FY,List.mem_append] at K;simp only [Ep] at O;obtain⟨k1,U,Y,Z,ac,-⟩:=O;rcases K with K | K
  ·split at K
   ·rename_i c;split at K
    ·rename_i c2;simp only [List.mem_singleton] at K;obtain⟨rfl,c3,c4⟩:=c2;split at K <;> simp only [Prod.mk.injEq] at K <;> obtain⟨rfl,rfl,-,rfl⟩:=K
     ·exact .inr ⟨V,.inl (by simp [oC,kw])⟩
     ·rename_i e;refine .inr ⟨V,.inr ⟨V,V,?_⟩⟩;simp only [oC,lc,if_neg e];omega
    ·simp only [List.mem_singleton,Prod.mk.injEq] at K;obtain⟨rfl,rfl,-,rfl⟩:=K;refine .inr ⟨V,.inr ⟨V,V,?_⟩⟩;simp only [oC,lc,if_true];omega
   ·simp at K
  ·split at K
   ·rename_i e;split at K
    ·simp only [List.mem_singleton,Prod.mk.injEq] at K;obtain⟨rfl,rfl,-,rfl⟩:=K;exact .inl (by simp [wO,HL])
    ·simp only [List.mem_cons,List.not_mem_nil,or_false,Prod.mk.injEq] at K;rcases K with⟨rfl,rfl,-,rfl⟩ | ⟨rfl,rfl,-,rfl⟩ <;> exact .inr ⟨rfl,.inl (by cases aw <;> simp [oC,kw])⟩
   ·rename_i e;simp only [List.mem_singleton,Prod.mk.injEq] at K;obtain⟨rfl,rfl,-,rfl⟩:=K;refine .inr ⟨V,.inr ⟨V,V,?_⟩⟩;simp only [oC,lc,if_neg e];omega
 case CQ sv=>
  obtain⟨rfl,rfl,-,rfl⟩:=K;simp only [Ep] at O;cases sv
  ·refine .inr ⟨V,.inr ⟨?_,V,by simp [oC,lc]⟩⟩;simp only [oC,kw,Bool.false_eq_true,if_false];omega
  ·refine .inr ⟨V,.inr ⟨?_,V,by simp [oC,lc]⟩⟩;simp only [oC,kw,if_true];omega
 case Gu=>
  simp only [List.mem_cons,List.not_mem_nil,or_false,Prod.mk.injEq] at K;rcases K with⟨rfl,rfl,-,rfl⟩ | ⟨rfl,rfl,-,rfl⟩ <;> exact .inr ⟨rfl,.inr ⟨rfl,rfl,by simp [oC,lc]⟩⟩
 case EX sv=>
  split at K <;> simp only [List.mem_singleton,Prod.mk.injEq] at K <;> obtain⟨rfl,rfl,-,rfl⟩:=K <;> exact .inr ⟨rfl,.inr ⟨rfl,rfl,by simp [oC,lc]⟩⟩
 case H8=>
  obtain⟨rfl,rfl,-,rfl⟩:=K;refine .inl ?_;split
  ·simp [wO,HL]
  ·split <;> simp [wO,HL]
 case Fh old=>
  split at K <;> simp only [List.mem_singleton,Prod.mk.injEq] at K <;> obtain⟨rfl,rfl,-,rfl⟩:=K
  ·exact .inl (by simp [wO,HL])
  ·rename_i e;refine .inr ⟨V,.inr ⟨V,V,?_⟩⟩;simp only [oC,lc,if_neg e];omega
 case HG=>
  obtain⟨rfl,rfl,-,rfl⟩:=K;split
  ·exact .inr ⟨V,.inr ⟨V,V,by simp [oC,lc]⟩⟩
  ·exact .inl (by simp [wO,HL])
 case IB sv=>obtain⟨rfl,rfl,-,rfl⟩:=K;exact .inr ⟨V,.inr ⟨V,V,by simp [oC,lc]⟩⟩
 case Gw=>obtain⟨rfl,rfl,-,rfl⟩:=K;exact .inr ⟨V,.inr ⟨V,V,by simp [oC,lc]⟩⟩
 all_goals
  obtain⟨rfl,rfl,-,rfl⟩:=K;exact .inl (by simp [wO,HL])
end
def Dn(N:Nat)(r' r:Nat->Rk):Prop:=∃i,i<N/\Rk.sub (r' i) (r i)/\∀j,j≠i->r' j=r j
theorem Dn.wf:∀N,WellFounded (Dn N)
 | 0=>⟨λ_=>⟨_,λ_ ⟨_,h,_⟩=>by omega⟩⟩
 | N+1=>⟨by
  have key:∀x:Rk,∀r:Nat->Rk,r N=x->Acc (Dn (N+1)) r:=by
   intro x
   induction x using Rk.wf.induction with
   | _ x U=>
    intro r
    induction r using (Dn.wf N).induction with
    | _ r Y=>
     intro e
     refine⟨_,λr' ⟨i,hi,hs,K⟩=>?_⟩
     by_cases O:i=N
     ·subst O;exact U (r' i) (by rw [← e];exact hs) r' V
     ·exact Y r' ⟨i,by omega,hs,K⟩ (by rw [K N (Ne.symm O),e])
  exact λr=>key _ r V⟩
def chain:Nat->Rk
 | 0=> .leaf
 | n+1=> .node λ_=>chain n
theorem Wg(n:Nat)(w:World):Rk.sub (chain n) (chain (n+1)):=⟨_,w,V,V⟩
structure Mu where
 a:Nat
 k:Nat
 l:Nat
 N:Nat
 r:Nat->Rk
 b:Nat
def Mu.lt(x y:Mu):Prop:=x.a<y.a∨(x.a=y.a/\(x.k<y.k∨(x.k=y.k/\(x.l<y.l∨(x.l=y.l/\x.N=y.N/\(Dn y.N x.r y.r∨(x.r=y.r/\x.b<y.b)))))))
theorem Mu.wf:WellFounded Mu.lt:=⟨by
 have key:∀(a k l N:Nat) (r:Nat->Rk) (b:Nat),Acc Mu.lt ⟨a,k,l,N,r,b⟩:=by
  intro a
  induction a using Nat.strongRecOn with
  | _ a ag=>
   intro k
   induction k using Nat.strongRecOn with
   | _ k al=>
    intro l
    induction l using Nat.strongRecOn with
    | _ l am=>
     intro N r
     induction r using (Dn.wf N).induction with
     | _ r ap=>
      intro b
      induction b using Nat.strongRecOn with
      | _ b aq=>
       refine⟨_,λ⟨av,k',l',N',r',b'⟩ h=>?_⟩
       rcases h with h | ⟨K,h | ⟨O,h | ⟨U,Y,h | ⟨Z,ac⟩⟩⟩⟩
       ·exact ag av h k' l' N' r' b'
       ·simp only at K h;subst K;exact al k' h l' N' r' b'
       ·simp only at K O h;subst K O;exact am l' h N' r' b'
       ·simp only at K O U Y h;subst K O U Y;exact ap r' h b'
       ·simp only at K O U Y Z ac;subst K O U Y Z;exact aq b' ac
 exact λ⟨a,k,l,N,r,b⟩=>key a k l N r b⟩
def bit(b:Bool):Nat:=if b then 1 else 0
def mu(F:Fam)(N:Nat)(φ:Nat->Nx)(m:M4)(q:Nat)(r:Nat->Rk)(bt:Nat->Bool):Mu:=⟨sumTo N λi=>wt F.n (φ i),Sg kw N φ+q,Sg (lc m) N φ,N,r,sumTo N λi=>bit (bt i)⟩
section
variable {F:Fam}{N N' i k:Nat}{φ φ':Nat->Nx}{p:LP}{m m':M4}{q q':Nat}{es:Array Event}{o:Option LP}{r r':Nat->Rk}{b b':Nat->Bool}{x:Nx}{ρ:Rk}
theorem bV(h:(sumTo N' λi=>wt F.n (φ' i))<sumTo N λi=>wt F.n (φ i)):Mu.lt (mu F N' φ' m' q' r' b') (mu F N φ m q r b):= .inl h
theorem UA(hi:i<N)(h:wt F.n x<wt F.n (φ i)):Mu.lt (mu F N (upd φ i x) m' q' r' b') (mu F N φ m q r b):=by
 have:=sumTo_upd φ x (wt F.n) hi;exact .inl (by show(sumTo N λa=>wt F.n (upd φ i x a))<sumTo N λa=>wt F.n (φ a);omega)
theorem UE(hi:i<N)(K:∀f,Dx f x=Dx f (φ i))(hw:wt F.n x=wt F.n (φ i))(h:Rk.sub ρ (r i)):Mu.lt (mu F N (upd φ i x) m q (upd r i ρ) b') (mu F N φ m q r b):=by
 have:=sumTo_upd φ x (wt F.n) hi;refine .inr ⟨by show(sumTo N λa=>wt F.n (upd φ i x a))=sumTo N λa=>wt F.n (φ a);omega,.inr ⟨by show Sg kw N (upd φ i x)+q=_;rw [NN kw hi (K kw).symm];rfl,.inr ⟨NN (lc m) hi (K _).symm,V,.inl ⟨i,hi,?_,λa O=>upd_ne _ _ O⟩⟩⟩⟩;show Rk.sub (upd r i ρ i) _;rw [upd_same];exact h
theorem bM(hi:i<N)(K:φ i= .ph (.lk k p))(Y:(m',q',es,o)∈F.Cg p m q)(Z:Ep p m q):Mu.lt (mu F N (upd φ i (.ph (Fam.Dw k o))) m' q' r' b') (mu F N φ m q r b):=by
 have hw:=sumTo_upd φ (.ph (Fam.Dw k o)) (wt F.n) hi;have ac:wt F.n (φ i)=HL p:=by rw [K];rfl
 have e2:wt F.n (.ph (Fam.Dw k o))=wO o:=by cases o <;> rfl
 rw [ac,e2] at hw;obtain⟨a,O,U⟩:=F7 (k:=k) kw hi K;obtain⟨c,ag,al⟩:=F7 (k:=k) (lc m) hi K;rcases YC Y Z with h | ⟨ap,h | ⟨aq,am,av⟩⟩
 ·exact .inl (by show(sumTo N λa=>wt F.n (upd φ i _ a))<sumTo N λa=>wt F.n (φ a);omega)
 ·exact .inr ⟨by show(sumTo N λa=>wt F.n (upd φ i _ a))=sumTo N λa=>wt F.n (φ a);omega,.inl (by show Sg kw N (upd φ i _)+q'<Sg kw N φ+q;rw [O,U];omega)⟩
 ·subst am;exact .inr ⟨by show(sumTo N λa=>wt F.n (upd φ i _ a))=sumTo N λa=>wt F.n (φ a);omega,.inr ⟨by show Sg kw N (upd φ i _)+q'=Sg kw N φ+q;rw [O,U];omega,.inl (by show Sg (lc m') N (upd φ i _)<Sg (lc m') N φ;rw [ag,al];omega)⟩⟩
end
open Go.ConcN (RelBy fork_knows)
section
variable {F:Fam}{N0 t0 N j:Nat}{φ:Nat->Nx}{S:Nat->St}{t u:Trace}{v wt sm v' wt' sm':Nat}
theorem Np{α:Type}(f:Nat->α)(i:Nat):upd f i (f i)=f:=by
 funext a;unfold upd;split
 ·rename_i e;rw [e]
 ·rfl
def F2(F:Fam)(K:Prop)(e:Event):Prop:=
 (∀a,(MemAct.ofEvent e).touch? =some a->(∃b,Db a.loc=some b/\(b=F.wg∨b=F.mu))/\a.kind≠ .plain/\(a.kind= .said->K))/\e.loc≠ .mark (.release F.sA)
theorem F2.toS{K:Prop}{e:Event}{i:Nat}(h:F2 F K e)(ht:K->i=0):EvS F N0 j i e:=
 ⟨λa O=>let ⟨⟨b,U,Y⟩,Z,ac⟩:=h.1 a O;⟨b,U,.inl ⟨Y,Z,λq=>ht (ac q)⟩⟩,h.2⟩
theorem F2.keep{O:Prop}{e:Event}{i:Nat}(h:F2 F O e)(ht:O->i=0)(Y:F.fd≠F.wg)(Z:F.fd≠F.mu):(∀a b,(MemAct.ofEvent e).touch? =some a->Db a.loc=some b->(b=F.wg∨b=F.mu)->a.kind≠ .plain/\(a.kind= .said->i=0))/\
   (∀a,(MemAct.ofEvent e).touch? =some a->Db a.loc=some F.fd->∃k,k<j/\i=N0+k/\a.loc= .cell ⟨F.fd,k,none⟩/\a.kind= .plain)/\e.loc≠ .mark (.release F.sA):=
 ⟨λa b K _ _=>⟨(h.1 a K).2.1,λq=>ht ((h.1 a K).2.2 q)⟩,λa K hb=>by
  obtain⟨⟨b,U,ac⟩,-⟩:=h.1 a K
  rw [hb] at U
  obtain rfl:=Option.some.inj U
  rcases ac with e | e
  ·exact absurd e Y
  ·exact absurd e Z,h.2⟩
theorem Sj{m:Mark}(K:∀a,m≠ .read a)(O:∀a,m≠ .write a):(MemAct.ofEvent (Fam.CZ m)).touch? =none:=by
 cases m <;> first | rfl | exact absurd rfl (K _) | exact absurd rfl (O _)
theorem ar(p:Ph){es:Array Event}{aq:Nx}(K:F.act p v wt sm=some ((v',wt',sm'),es,aq)):
  (∀e∈es,F2 F (p= .Ic∨∃j,p= .H5 j) e)/\deafBehind (Gb (.ph p)) es=Gb aq/\(∀e∈es,∀B,F.wg<B->(MemAct.ofEvent e).low B):=by
 have a0:∀b w,(MemAct.ofEvent ⟨.cell F.sA,w,b⟩).touch? =some ⟨.cell F.sA,w,if b then .atomic else .plain⟩:=by intro b w;cases b <;> cases w <;> rfl
 have ac:∀(a:Addr) w (T:Prop),a.block=F.wg->F2 F T ⟨.cell a,w,true⟩:=by
  intro a w T hb;refine⟨λx U=>?_,by simp⟩;have:x=⟨.cell a,w,.atomic⟩:=by cases w <;> (simp [MemAct.ofEvent,MemAct.touch?] at U;exact U.symm)
  subst this;exact⟨⟨F.wg,by simp [Db,hb],.inl V⟩,by simp,by simp⟩
 have ag:∀(a:Addr) w B,a.block=F.wg->F.wg<B->(MemAct.ofEvent ⟨.cell a,w,true⟩).low B:=by
  intro a w B hb O;cases w <;> simp [MemAct.ofEvent,MemAct.low,Loc.low,hb,O]
 have Hq:∀(m:Mark) (T:Prop),(∀a,m≠ .read a)->(∀a,m≠ .write a)->(∀a,m≠ .release a)->F2 F T (Fam.CZ m):=by
  intro m T aw ay az;exact⟨λx U=>(by rw [Sj aw ay] at U;cases U),λe=>az _ (Loc.mark.inj e)⟩
 have al:F.mA.block=F.wg:=V;have Z:F.sA.block=F.wg:=V;have FC:∀(T:Prop),∀e∈semEvents F.mA,F2 F T e:=by
  intro T e he;simp only [semEvents,List.mem_toArray,List.mem_cons,List.not_mem_nil,or_false] at he;rcases he with rfl | rfl | rfl | rfl
  ·exact Hq .disable T (by simp) (by simp) (by simp)
  ·exact ac _ _ _ al
  ·exact ac _ _ _ al
  ·exact Hq .enable T (by simp) (by simp) (by simp)
 have av:∀e∈semEvents F.mA,∀B,F.wg<B->(MemAct.ofEvent e).low B:=by
  intro e he B O;simp only [semEvents,List.mem_toArray,List.mem_cons,List.not_mem_nil,or_false] at he;rcases he with rfl | rfl | rfl | rfl
  ·trivial
  ·exact ag _ _ _ al O
  ·exact ag _ _ _ al O
  ·trivial
 have am:∀(T:Prop),∀e∈(#[Fam.Cw F.sA,Fam.EN F.sA]:Array Event),F2 F T e:=by
  intro T e he;simp only [List.mem_toArray,List.mem_cons,List.not_mem_nil,or_false] at he;rcases he with rfl | rfl <;> exact ac _ _ _ Z
 have ap:∀e∈(#[Fam.Cw F.sA,Fam.EN F.sA]:Array Event),∀B,F.wg<B->(MemAct.ofEvent e).low B:=by
  intro e he B O;simp only [List.mem_toArray,List.mem_cons,List.not_mem_nil,or_false] at he;rcases he with rfl | rfl <;> exact ag _ _ _ Z O
 have one:∀{e:Event} {T:Prop},F2 F T e->∀x∈(#[e]:Array Event),F2 F T x:=by
  intro e T h x U;simp at U;subst U;exact h
 have Y:∀{e:Event},(∀B,F.wg<B->(MemAct.ofEvent e).low B)->∀x∈(#[e]:Array Event),∀B,F.wg<B->(MemAct.ofEvent x).low B:=by
  intro e h x U;simp at U;subst U;exact h
 cases p <;> simp only [Fam.act] at K <;> (try (cases K;done))
 ·cases K;exact⟨one (Hq _ _ (by simp) (by simp) (by simp)),V,Y λB O=>O⟩
 ·cases K;exact⟨one (Hq _ _ (by simp) (by simp) (by simp)),V,Y λB O=>trivial⟩
 ·split at K
  ·cases K;exact⟨am _,by split <;> rfl,ap⟩
  ·cases K
 ·split at K
  ·cases K;exact⟨one (ac _ _ _ Z),V,Y λB O=>ag _ _ _ Z O⟩
  ·cases K
 ·split at K
  ·cases K;exact⟨one (ac _ _ _ Z),V,Y λB O=>ag _ _ _ Z O⟩
  ·cases K
 ·split at K
  ·cases K;exact⟨FC _,V,av⟩
  ·cases K
 ·cases K;exact⟨one (Hq _ _ (by simp) (by simp) (by simp)),V,Y λB O=>trivial⟩
 ·split at K
  ·cases K;exact⟨one (ac _ _ _ Z),by split <;> rfl,Y λB O=>ag _ _ _ Z O⟩
  ·cases K
 ·split at K
  ·split at K
   ·cases K;exact⟨am _,V,ap⟩
   ·cases K;exact⟨one (ac _ _ _ Z),V,Y λB O=>ag _ _ _ Z O⟩
  ·cases K
 ·cases K;refine⟨one ⟨λx U=>?_,by simp [Fam.CZ]⟩,V,Y λB O=>O⟩;simp [Fam.CZ,MemAct.ofEvent,MemAct.touch?] at U;subst U;exact⟨⟨F.wg,V,.inl V⟩,by simp,λ_=> .inl V⟩
 ·split at K
  ·cases K;exact⟨FC _,V,av⟩
  ·cases K
 ·split at K
  ·cases K;exact⟨one (ac _ _ _ Z),V,Y λB O=>ag _ _ _ Z O⟩
  ·cases K
 ·cases K;exact⟨one (Hq _ _ (by simp) (by simp) (by simp)),V,Y λB O=>trivial⟩
 ·cases K;exact⟨one (Hq _ _ (by simp) (by simp) (by simp)),V,Y λB O=>trivial⟩
 ·split at K
  ·cases K;exact⟨am _,by split <;> rfl,ap⟩
  ·cases K
 ·cases K;refine⟨one ⟨λx U=>?_,by simp [Fam.CZ]⟩,V,Y λB O=>O⟩;simp [Fam.CZ,MemAct.ofEvent,MemAct.touch?] at U;subst U;exact⟨⟨F.wg,V,.inl V⟩,by simp,λ_=> .inr ⟨_,V⟩⟩
 ·cases K;exact⟨one (Hq _ _ (by simp) (by simp) (by simp)),V,Y λB O=>trivial⟩
 all_goals
  cases K;exact⟨by simp,V,by simp⟩
theorem X7(p:Ph){es:Array Event}{U:Nx}(K:F.act p v wt sm=some ((v',wt',sm'),es,U)){k:Nat}(hw:Hf F k (.ph p))(O:late (.ph p)):
  ∀m e,es[m]? =some e->(MemAct.ofEvent e).touch? =none∨((∃ad wr,e=⟨.cell ad,wr,true⟩)/\0<deafBehind (Gb (.ph p)) (es.extract 0 m)):=by
 have two:∀m e,(#[Fam.Cw F.sA,Fam.EN F.sA]:Array Event)[m]? =some e->(∃ad wr,e=⟨.cell ad,wr,true⟩)/\0<deafBehind 1 ((#[Fam.Cw F.sA,Fam.EN F.sA]:Array Event).extract 0 m):=by
  intro m e h
  match m with
  | 0=>simp at h;subst h;exact⟨⟨_,_,rfl⟩,by simp [deafBehind]⟩
  | 1=>simp at h;subst h;exact⟨⟨_,_,rfl⟩,by simp [deafBehind,Fam.Cw]⟩
  | m+2=>simp at h
 cases p <;> simp only [Hf] at hw <;> (try exact hw.elim) <;> simp only [late] at O <;> (try exact O.elim) <;> simp only [Fam.act] at K <;> (try (cases K;done))
 ·cases K;intro m e h
  match m with
  | 0=>simp at h;subst h;exact .inl rfl
  | m+1=>simp at h
 ·split at K
  ·cases K;exact λm e h=> .inr (two m e h)
  ·cases K
 ·split at K
  ·cases K;intro m e h
   match m with
   | 0=>simp at h;subst h;exact .inr ⟨⟨_,_,rfl⟩,by simp [deafBehind,Gb]⟩
   | m+1=>simp at h
  ·cases K
 ·split at K
  ·cases K;intro m e h
   match m with
   | 0=>simp at h;subst h;exact .inr ⟨⟨_,_,rfl⟩,by simp [deafBehind,Gb]⟩
   | m+1=>simp at h
  ·cases K
 ·split at K
  ·cases K;intro m e h
   match m with
   | 0=>simp [semEvents] at h;subst h;exact .inl rfl
   | 1=>simp [semEvents] at h;subst h;exact .inr ⟨⟨_,_,rfl⟩,by simp [deafBehind,Gb,semEvents]⟩
   | 2=>simp [semEvents] at h;subst h;exact .inr ⟨⟨_,_,rfl⟩,by simp [deafBehind,Gb,semEvents]⟩
   | 3=>simp [semEvents] at h;subst h;exact .inl rfl
   | m+4=>simp [semEvents] at h
  ·cases K
theorem YP{p:LP}{m m':M4}{q q':Nat}{es:Array Event}{o:Option LP}(K:(m',q',es,o)∈F.Cg p m q):
  (∀e∈es,F2 F False e)/\deafBehind (dl p) es=oC dl o/\(∀e∈es,∀B,F.mu<B->(MemAct.ofEvent e).low B):=by
 have ac:∀(a:Addr) w,a.block=F.mu->F2 F False ⟨.cell a,w,true⟩:=by
  intro a w hb;refine⟨λx Z=>?_,by simp⟩;have:x=⟨.cell a,w,.atomic⟩:=by cases w <;> (simp [MemAct.ofEvent,MemAct.touch?] at Z;exact Z.symm)
  subst this;exact⟨⟨F.mu,by simp [Db,hb],.inr V⟩,by simp,by simp⟩
 have ag:∀(a:Addr) w B,a.block=F.mu->F.mu<B->(MemAct.ofEvent ⟨.cell a,w,true⟩).low B:=by
  intro a w B hb O;cases w <;> simp [MemAct.ofEvent,MemAct.low,Loc.low,hb,O]
 have Hq:∀(m:Mark),(∀a,m≠ .read a)->(∀a,m≠ .write a)->(∀a,m≠ .release a)->F2 F False (Fam.CZ m):=by
  intro m al am ap;exact⟨λx Z=>(by rw [Sj al am] at Z;cases Z),λe=>ap _ (Loc.mark.inj e)⟩
 have nil:∀d,(∀e∈(#[]:Array Event),F2 F False e)/\deafBehind d #[]=d/\(∀e∈(#[]:Array Event),∀B,F.mu<B->(MemAct.ofEvent e).low B):=λd=>⟨by simp,rfl,by simp⟩;have rd:∀d,(∀e∈(#[Fam.Cw F.uA]:Array Event),F2 F False e)/\deafBehind d #[Fam.Cw F.uA]=d/\(∀e∈(#[Fam.Cw F.uA]:Array Event),∀B,F.mu<B->(MemAct.ofEvent e).low B):=λd=>
  ⟨λe he=>by simp at he;subst he;exact ac _ _ rfl,rfl,λe he B O=>by simp at he;subst he;exact ag _ _ _ rfl O⟩
 have U:∀d,(∀e∈(#[Fam.Cw F.uA,Fam.EN F.uA]:Array Event),F2 F False e)/\deafBehind d #[Fam.Cw F.uA,Fam.EN F.uA]=d/\(∀e∈(#[Fam.Cw F.uA,Fam.EN F.uA]:Array Event),∀B,F.mu<B->(MemAct.ofEvent e).low B):=λd=>
  ⟨λe he=>by
   simp only [List.mem_toArray,List.mem_cons,List.not_mem_nil,or_false] at he
   rcases he with rfl | rfl <;> exact ac _ _ rfl,rfl,λe he B O=>by
   simp only [List.mem_toArray,List.mem_cons,List.not_mem_nil,or_false] at he
   rcases he with rfl | rfl <;> exact ag _ _ _ rfl O⟩
 have FC:(∀e∈semEvents F.qA,F2 F False e)/\deafBehind 1 (semEvents F.qA)=1/\(∀e∈semEvents F.qA,∀B,F.mu<B->(MemAct.ofEvent e).low B):=by
  refine⟨λe he=>?_,V,λe he B O=>?_⟩
  ·simp only [semEvents,List.mem_toArray,List.mem_cons,List.not_mem_nil,or_false] at he;rcases he with rfl | rfl | rfl | rfl
   ·exact Hq .disable (by simp) (by simp) (by simp)
   ·exact ac _ _ V
   ·exact ac _ _ V
   ·exact Hq .enable (by simp) (by simp) (by simp)
  ·simp only [semEvents,List.mem_toArray,List.mem_cons,List.not_mem_nil,or_false] at he;rcases he with rfl | rfl | rfl | rfl
   ·trivial
   ·exact ag _ _ _ V O
   ·exact ag _ _ _ V O
   ·trivial
 have Y:∀(m:Mark) (d d':Nat),(∀a,m≠ .read a)->(∀a,m≠ .write a)->(∀a,m≠ .release a)->deafBehind d #[Fam.CZ m]=d'->(∀B,F.mu<B->(MemAct.ofEvent (Fam.CZ m)).low B)->
   (∀e∈(#[Fam.CZ m]:Array Event),F2 F False e)/\deafBehind d #[Fam.CZ m]=d'/\(∀e∈(#[Fam.CZ m]:Array Event),∀B,F.mu<B->(MemAct.ofEvent e).low B):=λm d d' al am ap aq av=>
  ⟨λe he=>by simp at he;subst he;exact Hq m al am ap,aq,λe he B O=>by simp at he;subst he;exact av B O⟩
 cases p <;> simp only [Fam.Cg,List.mem_singleton,Prod.mk.injEq,List.not_mem_nil] at K
 case Gw=>obtain⟨rfl,rfl,rfl,rfl⟩:=K;exact Y .disable 0 1 (by simp) (by simp) (by simp) V λB O=>trivial
 case HE=>
  split at K <;> simp only [List.mem_singleton,Prod.mk.injEq] at K <;> obtain⟨rfl,rfl,rfl,rfl⟩:=K
  ·exact U 1
  ·exact rd 1
 case CJ sv aw it old=>
  simp only [Fam.FY,List.mem_append] at K;rcases K with K | K
  ·split at K
   ·split at K
    ·simp only [List.mem_singleton] at K;split at K <;> simp only [Prod.mk.injEq] at K <;> obtain⟨rfl,rfl,rfl,rfl⟩:=K
     ·exact U 1
     ·exact rd 1
    ·simp only [List.mem_singleton,Prod.mk.injEq] at K;obtain⟨rfl,rfl,rfl,rfl⟩:=K;exact nil 1
   ·simp at K
  ·split at K
   ·split at K
    ·simp only [List.mem_singleton,Prod.mk.injEq] at K;obtain⟨rfl,rfl,rfl,rfl⟩:=K;exact U 1
    ·simp only [List.mem_cons,List.not_mem_nil,or_false,Prod.mk.injEq] at K;rcases K with⟨rfl,rfl,rfl,rfl⟩ | ⟨rfl,rfl,rfl,rfl⟩ <;> exact U 1
   ·simp only [List.mem_singleton,Prod.mk.injEq] at K;obtain⟨rfl,rfl,rfl,rfl⟩:=K;exact rd 1
 case CQ sv=>obtain⟨rfl,rfl,rfl,rfl⟩:=K;cases sv <;> exact FC
 case Gu=>
  simp only [List.mem_cons,List.not_mem_nil,or_false,Prod.mk.injEq] at K;rcases K with⟨rfl,rfl,rfl,rfl⟩ | ⟨rfl,rfl,rfl,rfl⟩ <;> exact nil 1
 case EX sv=>split at K <;> simp only [List.mem_singleton,Prod.mk.injEq] at K <;> obtain⟨rfl,rfl,rfl,rfl⟩:=K <;> exact nil 1
 case H8=>
  obtain⟨rfl,rfl,rfl,rfl⟩:=K;split
  ·exact U 1
  ·split <;> exact U 1
 case Fh old=>
  split at K <;> simp only [List.mem_singleton,Prod.mk.injEq] at K <;> obtain⟨rfl,rfl,rfl,rfl⟩:=K
  ·exact U 1
  ·exact rd 1
 case HG=>obtain⟨rfl,rfl,rfl,rfl⟩:=K;split <;> exact nil 1
 case FA b=>obtain⟨rfl,rfl,rfl,rfl⟩:=K;exact FC
 case len=>obtain⟨rfl,rfl,rfl,rfl⟩:=K;exact Y .enable 1 0 (by simp) (by simp) (by simp) V λB O=>trivial
 case FB=>obtain⟨rfl,rfl,rfl,rfl⟩:=K;exact Y .enable 1 0 (by simp) (by simp) (by simp) V λB O=>trivial
 case Kd=>obtain⟨rfl,rfl,rfl,rfl⟩:=K;exact Y .disable 0 1 (by simp) (by simp) (by simp) V λB O=>trivial
 case Kh=>obtain⟨rfl,rfl,rfl,rfl⟩:=K;exact Y (.acquire F.uA) 0 0 (by simp) (by simp) (by simp) V λB O=>O
 case Kj=>obtain⟨rfl,rfl,rfl,rfl⟩:=K;exact Y (.releaseMerge F.uA) 0 0 (by simp) (by simp) (by simp) V λB O=>O
 all_goals
  obtain⟨rfl,rfl,rfl,rfl⟩:=K
 all_goals first | exact nil 0 | exact nil 1 | exact U 1
end
def CR(c:Bool)(N:Nat)(φ:Nat->Nx):Nat->Nx:=λi=>if c=true/\i=N then φ 0 else if c=true/\i=0 then .ph (.F8 [] []) else φ i
theorem Jw{N:Nat}{φ:Nat->Nx}:CR false N φ=φ:=by funext i;simp [CR]
theorem I1{c:Bool}{N:Nat}{φ:Nat->Nx}{i:Nat}(K:i≠0)(O:i≠N):CR c N φ i=φ i:=by simp [CR,K,O]
theorem J9{N:Nat}{φ:Nat->Nx}:CR true N φ N=φ 0:=by simp [CR]
theorem NP{c:Bool}{N:Nat}{φ:Nat->Nx}{i:Nat}{x:Nx}(K:i≠0)(O:i≠N):upd (CR c N φ) i x=CR c N (upd φ i x):=by
 funext a;unfold CR;by_cases e:a=i
 ·subst e;rw [upd_same,if_neg (by simp [O]),if_neg (by simp [K]),upd_same]
 ·rw [upd_ne _ _ e];rw [upd_ne φ x (Ne.symm K),upd_ne _ _ e]
theorem Xw{N:Nat}{φ:Nat->Nx}{x:Nx}(O:N≠0):upd (CR true N φ) N x=CR true N (upd φ 0 x):=by
 funext a;unfold CR;by_cases e:a=N
 ·subst e;simp [upd_same]
 ·rw [upd_ne _ _ e];by_cases K:a=0
  ·subst K;simp [e]
  ·rw [upd_ne φ x K];simp [e,K]
def H0:Nx->Bool
 | .gone _=>true
 | .ph p=>Fam.Da p
def loc(x:Nx)(s:St):St:=if H0 x=true then .quiet else s
def G1:LP->Prop
 | .G4 | .Kp | .Kj | .Kd | .H8 | .Fh _ | .HG | .FA _ | .FB=>True
 | _=>False
def stored:Nx->Prop
 | .gone _=>True
 | .ph (.lk _ p)=>G1 p
 | .ph .Ia | .ph .G2 | .ph .I9 | .ph .HI | .ph .Hg | .ph .HA | .ph .FL=>True
 | _=>False
def Qt(p:Ph):Prop:=p= .FZ∨∃k sv,p= .lk k (.CQ sv)
inductive G5 (P:Program) (F:Fam) (main:Bool):Nx->Rk->Bool->Gs_
 | walk {p:Ph} {r:Rk} {g:Goroutine} {s:St}:main=Fam.CW p->(Fam.Da p=true->s= .quiet)->Jr P main (JQ (Stop P F p)) r g s->G5 P F main (.ph p) r true g s
 | blk {p:Ph} {r:Rk} {g:Goroutine} {s:St}:Qt p->main=Fam.CW p->Stop P F p g s->G5 P F main (.ph p) r false {g with status:= .blocked} s
 | gone {q d:Nat} {g:Goroutine}:main=false->QuitsD P q d g->G5 P F main (.gone d) (chain q) true g .quiet
section
variable {P:Program}{F:Fam}{main:Bool}
theorem Jr.running{p:Ph}{r:Rk}{g:Goroutine}{s:St}(h:Jr P main (JQ (Stop P F p)) r g s):g.status= .running:=by
 cases r with
 | leaf=>obtain⟨s₀,_,hs⟩:=h;exact hs.law.run
 | node f=>
  rcases h with⟨s₀,_,hs⟩ | ⟨K,_⟩
  ·exact hs.law.run
  ·exact K
theorem Jr.at_{Q:GP}{r:Rk}{g:Goroutine}{s:St}(h:Q g s):Jr P main Q r g s:=by
 cases r with
 | leaf=>exact h
 | node f=>exact .inl h
theorem G5.awake{x:Nx}{r:Rk}{b:Bool}{g:Goroutine}{s:St}(h:G5 P F main x r b g s):Go.Conc.awake g:=by
 cases h with
 | walk _ _ K=>exact awake_of (.inl K.running)
 | blk _ _ _=>exact awake_of (.inr (.inl rfl))
 | gone _ O=>exact awake_of (O.status.elim .inl λx=> .inr (.inr x))
theorem Vh{g:Goroutine}(h:g.status= .running):{({g with status:= .blocked}:Goroutine) with status:= .running}=g:=by
 obtain⟨a,b,c,d,e⟩:=g;simp only at h;subst h;rfl
theorem Rg{p:Ph}(h:Qt p):Fam.Da p=false:=by
 rcases h with rfl | ⟨k,sv,rfl⟩ <;> rfl
theorem G5.woken{x:Nx}{r:Rk}{b:Bool}{o:Goroutine}{s:St}(h:G5 P F main x r b o s){g g':Goroutine}{w':World}:
  ∃b',G5 P F main x r b' (Go.Conc.woken P g g' w' o) s/\(b=true->b'=true)/\(mayWake P g=true->g'.status= .running->b'=true):=by
 have al:∀(o:Goroutine),Go.Conc.woken P g g' w' o=o.again w'∨Go.Conc.woken P g g' w' o=o:=by
  intro o;unfold Go.Conc.woken;split
  ·exact .inl V
  ·exact .inr V
 cases h with
 | walk K am U=>exact⟨true,by rw [woken_run U.running];exact .walk K am U,λ_=>rfl,λ_ _=>rfl⟩
 | @blk p _ go _ Y K hs=>
  have Z:({go with status:= .blocked}:Goroutine).again w'=go:=by
   have:=hs.law.offers;have ap:({go with status:= .blocked}:Goroutine).again w'={({go with status:= .blocked}:Goroutine) with status:= .running}:=by simp [Goroutine.again,this]
   rw [ap];exact Vh hs.law.run
  have ac:G5 P F main (.ph p) r true go s:= .walk K (λq=>by rw [Rg Y] at q;cases q) (Jr.at_ ⟨s,.refl _,hs⟩);by_cases O:mayWake P g=true/\g'.status= .running
  ·have e:Go.Conc.woken P g g' w' ({go with status:= .blocked}:Goroutine)=({go with status:= .blocked}:Goroutine).again w':=by
    unfold Go.Conc.woken;rw [if_pos (by simp [O.1,O.2])]
   exact⟨true,by rw [e,Z];exact ac,λ_=>V,λ_ _=>V⟩
  ·rcases al ({go with status:= .blocked}:Goroutine) with e | e
   ·exact⟨true,by rw [e,Z];exact ac,λ_=>V,λa b=>absurd ⟨a,b⟩ O⟩
   ·exact⟨false,by rw [e];exact .blk Y K hs,λe=>e,λa b=>absurd ⟨a,b⟩ O⟩
 | gone K ag=>exact⟨true,by rw [woken_quitsD ag];exact .gone K ag,λ_=>rfl,λ_ _=>rfl⟩
end
structure Base where
 N0:Nat
 t0:Nat
 E0:LH
 w0:World
structure Inv (P:Program) (F:Fam) (B:Base) (gs:Array Goroutine) (w:World) (t:Trace) (φ:Nat->Nx) (r:Nat->Rk) (bt:Nat->Bool) (S:Nat->St) (Sh:Nat->Prop) (j:Nat) (c:Bool) (v wt sm:Nat) (m:M4) (q:Nat) (f:Nat->Value):Prop where
 CY:CX F B.N0 (gs.size+c.toNat) j c (CR c gs.size φ) v wt sm false
 lock:LI gs.size φ m q
 Fg:Fz F B.N0 B.t0 gs.size j φ S t
 K4:∀i g,gs[i]? =some g->G5 P F (i==0) (φ i) (r i) (bt i) g (loc (φ i) (S i))
 Cu:Cd t w gs.size S Sh
 H9:Sh F.wg
 IP:Sh F.mu
 Ja:Sh F.fd
 MS:F.mu≠F.wg
 Km:F.fd≠F.wg
 Kl:F.fd≠F.mu
 Ig:F.n<134217728
 mn:φ 0≠ .ph .Hh/\φ 0≠ .ph .H2
 wg:F.WG w v wt sm
 JE:F.MU w m q
 GN:F.FD w f
 blk:∀i,i<gs.size->bt i=false->(i=0/\φ 0= .ph .FZ/\sm=0)∨((∃k sv,φ i= .ph (.lk k (.CQ sv)))/\q=0)
 IS:∀k,k<j->stored (φ (B.N0+k))->F.msg k (f k) (S (B.N0+k)).E
 le:Le B.E0 (S 0).E
 tape:w.tape=B.w0.tape
 os:GM B.w0.os w.os
 output:w.output=B.w0.output
section
variable {P:Program}{F:Fam}{B:Base}{gs:Array Goroutine}{w w':World}{t:Trace}{φ:Nat->Nx}{r:Nat->Rk}{bt:Nat->Bool}{S:Nat->St}{Sh:Nat->Prop}{j:Nat}{c:Bool}{v wt' sm v₁ wt₁ sm₁:Nat}{m m₁:M4}{q q₁:Nat}{f f₁:Nat->Value}
theorem Inv.at_(h:Inv P F B gs w t φ r bt S Sh j c v wt' sm m q f)(d:Nat):Inv P F B gs (w.at d) t φ r bt S Sh j c v wt' sm m q f:=
 have K:Cd t (w.at d) gs.size S Sh:=by
  have:=h.Cu.mute (u:= #[]) (w':=w.at d) (g:=0) (by simp) (by simp) (by simp) rfl;simpa using this
 {h with Cu:=K}
theorem Inv.size(h:Inv P F B gs w t φ r bt S Sh j c v wt' sm m q f):gs.size=B.N0+j:=by have:=h.CY.size;omega
theorem Inv.EZ(h:Inv P F B gs w t φ r bt S Sh j c v wt' sm m q f){i:Nat}(hi:i<gs.size):i=0∨(i≠0/\∃d,φ i= .gone d/\i<B.N0)∨∃k,k<j/\i=B.N0+k/\i≠0/\Hf F k (φ i):=by
 have hs:=h.size;have Y:=h.CY.pos;rcases Nat.eq_zero_or_pos i with K | K
 ·exact .inl K
 rcases Nat.lt_or_ge i B.N0 with O | O
 ·have:=h.CY.old i K O;rw [I1 (by omega) (by omega)] at this;cases U:φ i with
  | gone d=>exact .inr (.inl ⟨by omega,d,rfl,O⟩)
  | ph p=>rw [U] at this;exact this.elim
 ·have:=h.CY.work (i - B.N0) (by omega);rw [show B.N0+(i - B.N0)=i by omega,I1 (by omega) (by omega)] at this;exact .inr (.inr ⟨i - B.N0,by omega,by omega,by omega,this⟩)
theorem Inv.main(h:Inv P F B gs w t φ r bt S Sh j c v wt' sm m q f):∃p,φ 0= .ph p/\Fam.CW p=true/\((c=false/\HY F.n j c p)∨(c=true/\Jx (.ph p))):=by
 have hs:=h.size;cases K:c with
 | false=>
  have:=h.CY.main;rw [K,Jw] at this;obtain⟨p,Y,O⟩:=this;exact⟨p,Y,by cases p <;> simp [HY] at O <;> rfl,.inl ⟨V,O⟩⟩
 | true=>
  have:=h.CY.cls K;have Z:=h.CY.cj K;rw [K,show B.N0+F.n=gs.size by omega,J9] at this;cases U:φ 0 with
  | gone d=>
   have:=h.CY.mode;rw [if_pos K,K,show B.N0+F.n=gs.size by omega,J9,U] at this;simp [En] at this
  | ph p=>rw [U] at this;exact⟨p,rfl,by cases p <;> simp [Jx] at this <;> rfl,.inr ⟨rfl,this⟩⟩
theorem J6(a b:LP->Nat)(N:Nat)(φ:Nat->Nx):Sg (λp=>a p+b p) N φ=Sg a N φ+Sg b N φ:=by
 unfold Sg
 induction N with
 | zero=>rfl
 | succ N K=>
  simp only [sumTo,K];have:Dx (λp=>a p+b p) (φ N)=Dx a (φ N)+Dx b (φ N):=by
   cases φ N with
   | gone d=>rfl
   | ph p=>cases p <;> rfl
  omega
theorem Pt{a b:Nat->Nat}:∀{N M:Nat},N<=M->(∀i,i<N->a i<=b i)->sumTo N a<=sumTo M b
 | 0,_,_,_=>by simp [sumTo]
 | N+1,0,h,_=>by omega
 | N+1,M+1,h,K=>by
  rcases Nat.lt_or_ge N M with q | q
  ·have O:sumTo (N+1) a<=sumTo M b:=Pt (by omega) K
   simp only [sumTo] at O ⊢;omega
  ·obtain rfl:N=M:=by omega
   have O:sumTo N a<=sumTo N b:=Pt (Nat.le_refl _) λi hi=>K i (by omega);have U:=K N (by omega);simp only [sumTo];omega
theorem Inv.small(h:Inv P F B gs w t φ r bt S Sh j c v wt' sm m q f):Dt m:=by
 have hs:=h.size;have hb:Sg (λp=>(pQ p+pV p)+pD p) gs.size φ<=sumTo (gs.size+c.toNat) λi=>cU (CR c gs.size φ i):=by
  refine Pt (by omega) λi hi=>?_;rcases Nat.eq_zero_or_pos i with rfl | Y
  ·obtain⟨p,O,hm,_⟩:=h.main;rw [O];cases p <;> first | (simp [Dx];done) | (simp [Fam.CW] at hm)
  ·rw [I1 (by omega) (by omega)];cases φ i with
   | gone d=>simp [Dx]
   | ph p=>
    cases p <;> simp only [Dx] <;> (try omega)
    rename_i k l;cases l <;> simp [pQ,pV,pD,cU]
 rw [J6,J6] at hb;have Z:=h.CY.cnt;have ac:=h.CY.QZ;obtain⟨l1,l2,U⟩:=h.lock.ln;have ag:=h.Ig;show m.w<134217728;cases K:m.s with
 | false=>have:=(l2 K).2.2.2.1;omega
 | true=>have:=(U K).2.2.2.2.1;omega
theorem Inv.go(h:Inv P F B gs w t φ r bt S Sh j c v wt' sm m q f){i:Nat}{g g':Goroutine}{es:Array Event}{x:Nx}{ρ:Rk}{s':St}(hi:gs[i]? =some g)
  (aq:CX F B.N0 (gs.size+c.toNat) j c (CR c gs.size (upd φ i x)) v₁ wt₁ sm₁ false) (av:LI gs.size (upd φ i x) m₁ q₁)
  (aw:Fz F B.N0 B.t0 gs.size j (upd φ i x) (upd S i s') (t++MemOp.ofEvents i g.frame.fn g.frame.place es))
  (ay:G5 P F (i==0) x ρ true g' (loc x s'))
  (hC:Cd (t++MemOp.ofEvents i g.frame.fn g.frame.place es) w' gs.size (upd S i s') Sh)
  (az:F.WG w' v₁ wt₁ sm₁) (a0:F.MU w' m₁ q₁) (a1:F.FD w' f₁)
  (a2:sm₁≠0->sm=0->mayWake P g=true/\g'.status= .running) (a3:q₁≠0->q=0->mayWake P g=true/\g'.status= .running)
  (a4:∀k,k<j->stored (upd φ i x (B.N0+k))->F.msg k (f₁ k) (upd S i s' (B.N0+k)).E)
  (a5:i=0->x≠ .ph .Hh/\x≠ .ph .H2) (a6:i=0->Le (S 0).E s'.E) (a7:w'.tape=w.tape) (a8:GM w.os w'.os) (a9:w'.output=w.output):
  ∃O,Inv P F B ((gs.map (woken P g g' w')).setIfInBounds i g') w' (t++MemOp.ofEvents i g.frame.fn g.frame.place es) (upd φ i x) (upd r i ρ) O (upd S i s') Sh j c v₁ wt₁ sm₁ m₁ q₁ f₁:=by
 have bb:i<gs.size:=(Array.getElem?_eq_some_iff.1 hi).1;have U:((gs.map (woken P g g' w')).setIfInBounds i g').size=gs.size:=by simp
 have am:∀a,∃b',(a=i->b'=true)/\(a≠i->∀o,gs[a]? =some o->G5 P F (a==0) (φ a) (r a) b' (woken P g g' w' o) (loc (φ a) (S a))/\(bt a=true->b'=true)/\(mayWake P g=true->g'.status= .running->b'=true)):=by
  intro a;by_cases e:a=i
  ·exact⟨true,λ_=>V,λq=>absurd e q⟩
  ·cases K:gs[a]? with
   | none=>exact⟨true,λ_=>rfl,λ_ o q=>by cases q⟩
   | some o=>
    obtain⟨b',be,Y,Z⟩:=(h.K4 a o K).woken (g:=g) (g':=g') (w':=w');exact⟨b',λq=>absurd q e,λ_ o' q=>by cases q;exact⟨be,Y,Z⟩⟩
 let O:Nat->Bool:=λa=>Classical.choose (am a);have hb:∀a,(a=i->O a=true)/\(a≠i->∀o,gs[a]? =some o->G5 P F (a==0) (φ a) (r a) (O a) (woken P g g' w' o) (loc (φ a) (S a))/\(bt a=true->O a=true)/\(mayWake P g=true->g'.status= .running->O a=true)):=λa=>Classical.choose_spec (am a);refine⟨O,by rw [U];exact aq,by rw [U];exact av,by rw [U];exact aw,λa o K=>?_,by rw [U];exact hC,h.H9,h.IP,h.Ja,h.MS,h.Km,h.Kl,h.Ig,(by
  by_cases e:i=0
  ·subst e;rw [upd_same];exact a5 V
  ·rw [upd_ne _ _ (Ne.symm e)];exact h.mn),az,a0,a1,λa ag al=>?_,a4,λb o K=>?_,a7.trans h.tape,h.os.trans a8,a9.trans h.output⟩
 ·by_cases e:a=i
  ·subst e;rw [Array.getElem?_setIfInBounds_self_of_lt (by simpa using bb)] at K;obtain rfl:=Option.some.inj K;rw [upd_same,upd_same,upd_same,(hb a).1 rfl];exact ay
  ·rw [Array.getElem?_setIfInBounds_ne (Ne.symm e),Array.getElem?_map] at K;obtain⟨o',bi,rfl⟩:=Option.map_eq_some_iff.1 K;rw [upd_ne _ _ e,upd_ne _ _ e,upd_ne _ _ e];exact((hb a).2 e o' bi).1
 ·rw [U] at ag;have e:a≠i:=λe=>by have:=(hb a).1 e;rw [al] at this;cases this
  obtain⟨_,k1,bn⟩:=(hb a).2 e _ (Array.getElem?_eq_getElem ag);have ap:¬(mayWake P g=true/\g'.status= .running):=λ⟨x,y⟩=>by have:=bn x y;rw [al] at this;cases this
  have bo:bt a=false:=by
   cases ac:bt a with
   | false=>rfl
   | true=>have:=k1 ac;rw [al] at this;cases this
  rcases h.blk a ag bo with⟨rfl,Y,Z⟩ | ⟨⟨k,sv,Y⟩,Z⟩
  ·refine .inl ⟨V,by rw [upd_ne _ _ e];exact Y,?_⟩;exact Classical.not_not.1 λac=>ap (a2 ac Z)
  ·refine .inr ⟨⟨k,sv,by rw [upd_ne _ _ e];exact Y⟩,?_⟩;exact Classical.not_not.1 λac=>ap (a3 ac Z)
 ·by_cases e:i=0
  ·subst e;rw [upd_same];exact a6 V b o (h.le b o K)
  ·rw [upd_ne _ _ (Ne.symm e)];exact h.le b o K
end
def Q3(P:Program)(F:Fam)(B:Base)(gs:Array Goroutine)(w:World)(t:Trace):Prop:=
 ∃q Sh g s,HK P gs w t q Sh g s/\F.fin g s/\Le B.E0 s.E/\w.tape=B.w0.tape/\GM B.w0.os w.os/\w.output=B.w0.output
def Iz(P:Program)(F:Fam)(B:Base)(gs:Array Goroutine)(w:World)(sl:Option (Nat×Nat))(t:Trace)(i:Nat)(K:Mu):Prop:=
 ∃gs' w' O u,runT P (crowd gs w sl) i=(.next (crowd gs' w' O),u)/\
  ((∃φ r bt S Sh j c v wt' sm m q f,Inv P F B gs' w' (t++u) φ r bt S Sh j c v wt' sm m q f/\Mu.lt (mu F gs'.size φ m q r bt) K)∨Q3 P F B gs' w' (t++u))
theorem LI.same{N:Nat}{φ:Nat->Nx}{m:M4}{q i:Nat}{y:Nx}(h:LI N φ m q)(hi:i<N)(O:∀f,Dx f (φ i)=Dx f y∨(f≠pH/\f≠pN/\f≠pZ/\f≠pV/\f≠pT/\f≠pQ/\f≠pD/\f≠pX))(U:OY y m):LI N (upd φ i y) m q:=by
 have e:∀f,(f=pH∨f=pN∨f=pZ∨f=pV∨f=pT∨f=pQ∨f=pD∨f=pX)->Sg f N (upd φ i y)=Sg f N φ:=λf Y=>NN f hi (by
  rcases O f with q | ⟨a,b,c,d,e,f,g,h⟩
  ·exact q
  ·rcases Y with q | q | q | q | q | q | q | q <;> contradiction)
 refine⟨by rw [e pH (by simp),e pN (by simp),e pZ (by simp),e pV (by simp),e pT (by simp),e pQ (by simp),e pD (by simp),e pX (by simp)];exact h.ln,λa Z=>?_⟩;by_cases K:a=i
 ·subst K;rw [upd_same];exact U
 ·rw [upd_ne _ _ K];exact h.loc a Z
section
variable {P:Program}{F:Fam}{B:Base}{gs:Array Goroutine}{w w':World}{sl:Option (Nat×Nat)}{t:Trace}{φ:Nat->Nx}{r:Nat->Rk}{bt:Nat->Bool}{S:Nat->St}{Sh:Nat->Prop}{j:Nat}{c:Bool}{v wt' sm v₁ wt₁ sm₁:Nat}{m m₁:M4}{q q₁:Nat}{f f₁:Nat->Value}
theorem Inv.go'(h:Inv P F B gs w t φ r bt S Sh j c v wt' sm m q f){i:Nat}{g g':Goroutine}{es:Array Event}{x:Nx}{ρ:Rk}{s':St}(hi:gs[i]? =some g)(O:stepG P (i==0) g w= .go g' w' es)
  (U:CX F B.N0 (gs.size+c.toNat) j c (CR c gs.size (upd φ i x)) v₁ wt₁ sm₁ false) (Y:LI gs.size (upd φ i x) m₁ q₁)
  (Z:Fz F B.N0 B.t0 gs.size j (upd φ i x) (upd S i s') (t++MemOp.ofEvents i g.frame.fn g.frame.place es))
  (ac:G5 P F (i==0) x ρ true g' (loc x s'))
  (hC:Cd (t++MemOp.ofEvents i g.frame.fn g.frame.place es) w' gs.size (upd S i s') Sh)
  (ag:F.WG w' v₁ wt₁ sm₁) (al:F.MU w' m₁ q₁) (am:F.FD w' f₁)
  (ap:sm₁≠0->sm=0->mayWake P g=true/\g'.status= .running) (aq:q₁≠0->q=0->mayWake P g=true/\g'.status= .running)
  (av:∀k,k<j->stored (upd φ i x (B.N0+k))->F.msg k (f₁ k) (upd S i s' (B.N0+k)).E)
  (aw:i=0->x≠ .ph .Hh/\x≠ .ph .H2) (ay:i=0->Le (S 0).E s'.E) (az:w'.tape=w.tape) (a0:GM w.os w'.os) (a1:w'.output=w.output)
  (hm:∀K,Mu.lt (mu F gs.size (upd φ i x) m₁ q₁ (upd r i ρ) K) (mu F gs.size φ m q r bt)):Iz P F B gs w sl t i (mu F gs.size φ m q r bt):=by
 obtain⟨K,a2⟩:=h.go hi U Y Z ac hC ag al am ap aq av aw ay az a0 a1;refine⟨_,_,_,_,runT_crowd_go hi O,.inl ⟨_,_,_,_,_,_,_,_,_,_,_,_,_,a2,?_⟩⟩;have a3:((gs.map (woken P g g' w')).setIfInBounds i g').size=gs.size:=by simp
 rw [a3];exact hm K
theorem RG{k:Nat}{p:Ph}(hw:Hf F k (.ph p))(K:late (.ph p)):Fam.Da p=true:=by
 cases p <;> simp only [Hf] at hw <;> (try exact hw.elim) <;> first | rfl | exact K.elim
theorem Nc(a:Nat)(fn:FuncId)(pos:String):MemOp.ofEvents a fn pos #[]= #[]:=by rw [ofEvents_eq];simp
theorem Inv.own(h:Inv P F B gs w t φ r bt S Sh j c v wt' sm m q f)(a9:∀k v E E',Le E E'->F.msg k v E->F.msg k v E'){i:Nat}{g g':Goroutine}{es:Array Event}{p:Ph}{ρ:Rk}{s':St}(hi:gs[i]? =some g)(K:φ i= .ph p)(a0:(i==0)=Fam.CW p)
  (a1:stepG P (i==0) g w= .go g' w' es) (a2:Jr P (i==0) (JQ (Stop P F p)) ρ g' s') (bb:Fits s' w') (O:Fr (loc (.ph p) (S i)) w s' w') (Y:∀e∈es,Ev (loc (.ph p) (S i)) w w' e) (be:loc (.ph p) (S i)= .quiet->s'= .quiet/\w'=w/\es= #[]) (bi:Rk.sub ρ (r i)):
  Iz P F B gs w sl t i (mu F gs.size φ m q r bt):=by
 have U:i<gs.size:=(Array.getElem?_eq_some_iff.1 hi).1;have Z:upd φ i (.ph p)=φ:=by rw [← K];exact Np _ _
 have a3:∀a4,Mu.lt (mu F gs.size (upd φ i (.ph p)) m q (upd r i ρ) a4) (mu F gs.size φ m q r bt):=λa4=>UE U (λ_=>by rw [K]) (by rw [K]) bi;cases ac:Fam.Da p with
 | true=>
  have ag:loc (.ph p) (S i)= .quiet:=by simp [loc,H0,ac]
  obtain⟨rfl,rfl,rfl⟩:=be ag;have av:upd S i (S i)=S:=Np _ _;refine h.go' hi a1 (x:= .ph p) (ρ:=ρ) (s':=S i) (by rw [Z];exact h.CY) (by rw [Z];exact h.lock) ?_ (by rw [ag];exact .walk a0 (λ_=>rfl) a2) ?_ h.wg h.JE h.GN (λa b=>absurd b a) (λa b=>absurd b a) (by rw [Z,av];exact h.IS) (λe=>by subst e;rw [← K];exact h.mn) (λe=>by subst e;exact .refl _) V (.refl _) V a3
  ·rw [Z,av,Nc];simpa using h.Fg
  ·rw [av,Nc];simpa using h.Cu
 | false=>
  have ag:loc (.ph p) (S i)=S i:=by simp [loc,H0,ac]
  rw [ag] at O Y;have bn:loc (.ph p) s'=s':=by simp [loc,H0,ac]
  have aw:∀b₀,Sh b₀->∀b wr,Hb (S i) w w' b wr->b≠b₀:=by
   intro b₀ am b wr ht;have a5:=h.Cu.sh i U b₀ am;have b1:=h.Cu.GI b₀ am;rintro rfl;rcases ht.2 with q | q | ⟨q,_⟩
   ·exact q a5.1
   ·omega
   ·exact q a5.2
  have ay:∀b₀,Sh b₀->w'.heap[b₀]? =w.heap[b₀]? :=λb₀ am=>O.keep b₀ (h.Cu.GI b₀ am) (h.Cu.sh i U b₀ am).1;have a6:∀k,k<j->i=B.N0+k->¬late (φ i):=by
   intro k al e a7;rcases h.EZ U with b2 | ⟨_,d,hd,_⟩ | ⟨k',_,_,_,hw⟩
   ·have:=h.CY.pos;omega
   ·rw [K] at hd;cases hd
   ·rw [K] at hw a7;rw [RG hw a7] at ac;cases ac
  have bo:∀e∈es,e.loc≠ .mark .disable/\e.loc≠ .mark .enable:=by
   intro e he;have:=Y e he;refine⟨λaq=>?_,λaq=>?_⟩ <;> unfold Ev at this <;> rw [aq] at this <;> exact this
  refine h.go' (f₁:=f) hi a1 (x:= .ph p) (ρ:=ρ) (s':=s') (by rw [Z];exact h.CY) (by rw [Z];exact h.lock) ?_ (by rw [bn];exact .walk a0 (λe=>by rw [ac] at e;cases e) a2) (h.Cu.own U bb O Y) ?_ ?_ ?_ (λa b=>absurd b a) (λa b=>absurd b a) ?_ (λe=>by subst e;rw [← K];exact h.mn) (λe=>by subst e;exact λb o az=>O.ext b o az) O.tape (.of O.os) O.output a3
  ·refine h.Fg.app U (by rw [K];exact deafBehind_still bo _) (λe he=>⟨λa b ap hb bv=>absurd bv ?_,λa ap hb=>absurd V (aw F.fd h.Ja F.fd a.write (Li (Y e he) ap hb)),?_⟩) ?_ (λk al bw e he a b ap hb hw=>?_) (λk al e ag=>absurd (K▸ag) (a6 k al e))
   ·have:=Li (Y e he) ap hb;rintro(q | q)
    ·exact aw F.wg h.H9 b _ this q
    ·exact aw F.mu h.IP b _ this q
   ·intro aq;have:=Y e he;unfold Ev at this;rw [aq] at this;exact this
   ·rcases h.EZ U with e | ⟨_,d,hd,_⟩ | ⟨k,_,e,_,_⟩
    ·exact .inl (.inl e)
    ·rw [K] at hd;cases hd
    ·exact .inl (.inr (by omega))
   ·have bx:=Li (Y e he) ap hb;have bz:B.N0+k≠i:=λe=>a6 k al e.symm (e▸bw);have a8:B.N0+k<gs.size:=by have:=h.size;omega
    rcases bx.2 with y | y | ⟨_,y⟩
    ·exact(h.Cu.hh i (B.N0+k) U a8 (Ne.symm bz) b y).2
    ·cases b0:(S (B.N0+k)).E b with
     | none=>rfl
     | some o=>have:=(h.Cu.fits _ a8).e b o b0;simp [Array.getElem?_eq_none y] at this
    ·rw [y] at hw;cases hw
  ·show w'.heap[F.wg]? =_;rw [ay _ h.H9];exact h.wg
  ·show w'.heap[F.mu]? =_;rw [ay _ h.IP];exact h.JE
  ·show w'.heap[F.fd]? =_;rw [ay _ h.Ja];exact h.GN
  ·intro k al hs;rw [Z] at hs;have:=h.IS k al hs;by_cases e:B.N0+k=i
   ·rw [e,upd_same];rw [e] at this;exact a9 _ _ _ _ (λb o az=>O.ext b o az) this
   ·rw [upd_ne _ _ e];exact this
theorem Inv.slip(h:Inv P F B gs w t φ r bt S Sh j c v wt' sm m q f){i:Nat}{g:Goroutine}(hi:gs[i]? =some g)(Z:g.status= .running){d U:Nat}(O:φ i= .gone d)(ay:r i=chain U)(ag:(i==0)=false)(ap:QuitsD P U d g):
  Iz P F B gs w sl t i (mu F gs.size φ m q r bt):=by
 have al:i<gs.size:=(Array.getElem?_eq_some_iff.1 hi).1;have ac:i≠0:=by simpa using ag
 cases U with
 | zero=>rw [ap.1] at Z;cases Z
 | succ U=>
  rcases ap with⟨az,_⟩ | ⟨_,g',es,hm,a0,a1⟩
  ·rw [az] at Z;cases Z
  have a2:∀op∈MemOp.ofEvents i g.frame.fn g.frame.place es,op.act.touch? =none:=λop Y=>by obtain⟨e,he,rfl⟩:=mem_ofEvents Y;exact touch_mute (hm e he)
  have a3:∀e∈es,e.loc≠ .mark (.release F.sA):=by
   intro e he aq;have:=hm e he;obtain⟨loc,wr,a6⟩:=e;simp only at aq;subst aq;simp [Event.mute] at this
  have av:upd S i (S i)=S:=Np _ _;have aw:=h.CY.leave (i:=i) (d:=d) (d':=deafBehind d es) (by omega) (by rw [I1 ac (by omega)];exact O);rw [NP ac (by omega)] at aw;refine h.go' hi (by rw [ag];exact a0 w) (x:= .gone (deafBehind d es)) (ρ:=chain U) (s':=S i) aw (h.lock.other al (λk p e=>by rw [O] at e;cases e) (λk p e=>by cases e)) ?_ (.gone ag a1) ?_ h.wg h.JE h.GN (λa b=>absurd b a) (λa b=>absurd b a) ?_ (λe=>absurd e ac) (λe=>absurd e ac) V (.refl _) V λa7=>UE al (λ_=>by rw [O];rfl) (by rw [O];rfl) (by rw [ay];exact Wg U w)
  ·refine h.Fg.app al (by rw [O];rfl) (λe he=>⟨λa b K=>(by rw [touch_mute (hm e he)] at K;cases K),λa K=>(by rw [touch_mute (hm e he)] at K;cases K),a3 e he⟩) (.inr λe he=>touch_mute (hm e he)) (λk am a4 e he a b K=>(by rw [touch_mute (hm e he)] at K;cases K)) (λk am e a4=> .inl ⟨by rw [O];trivial,V,λρ a5=>?_⟩);exact a5.appOwn _ _ es λm e he=> .inl (touch_mute (hm e (Array.mem_of_getElem? he)))
  ·rw [av];exact h.Cu.mute (g:=i) (λop Y=>by obtain⟨e,_,rfl⟩:=mem_ofEvents Y;rfl) a2 (λop Y=>by obtain⟨e,he,rfl⟩:=mem_ofEvents Y;exact low_mute (hm e he) _) V
  ·rw [av];intro k am hs;refine h.IS k am ?_;by_cases e:B.N0+k=i
   ·rw [e,O];trivial
   ·rw [upd_ne _ _ e] at hs;exact hs
theorem ZC{p:Ph}{es:Array Event}{K:Nx}(O:F.act p v wt' sm=some ((v₁,wt₁,sm₁),es,K)):
  (∀q,K= .ph q->Fam.CW q=Fam.CW p/\(Fam.Da q=true->p= .G2∨Fam.Da p=true)/\(Fam.Da q=false->Fam.Da p=false/\p≠ .G2)/\∀k l,q≠ .lk k l)/\(sm₁≠0->sm=0->p= .FL)/\(∀d,K= .gone d->Fam.CW p=false/\Fam.Da p=true)/\
  (∀k l,p≠ .lk k l)/\(Fam.CW p=false->stored K)/\(Fam.CW p=false->late K->late (.ph p)∨p= .G2)/\(Fam.CW p=false->stored (.ph p))/\K≠ .ph .Hh/\K≠ .ph .H2:=by
 cases p <;> simp only [Fam.act] at O <;> (try (cases O;done))
 all_goals (try (split at O)) <;> (try (cases O;done)) <;> (try (split at O))
 all_goals cases O
 all_goals first
  | (simp [Fam.CW,Fam.Da,stored,late];done)
  | (split <;> simp [Fam.CW,Fam.Da,stored,late];done)
  | (simp [Fam.CW,Fam.Da,stored,late];omega)
theorem CX.enabled{N0 N:Nat}{cl:Bool}(h:CX F N0 N j c φ v wt' sm cl){i:Nat}(hi:i<N){p:Ph}(K:φ i= .ph p)(az:∀k,p≠ .HB k)(a0:∀k,p≠ .Ge k)(a1:p≠ .Hh)(a2:∀a3 vs,p≠ .F8 a3 vs)(a4:p≠ .H2)(a5:p= .FZ->sm=1)(a6:p≠ .GH)(a7:∀k l,p≠ .lk k l):
  ∃v' w' sm' es a8,F.act p v wt' sm=some ((v',w',sm'),es,a8):=by
 have hm:=h.mode;have bi:=h.QZ;have bn:=h.Ig;have O:=h.cnt;have ac:cU (φ i)<=sumTo N λa=>cU (φ a):=le_sumTo (f:=λa=>cU (φ a)) hi;have ag:cL (φ i)<=sumTo N λa=>cL (φ a):=le_sumTo (f:=λa=>cL (φ a)) hi;have aq:cS (φ i)<=sumTo N λa=>cS (φ a):=le_sumTo (f:=λa=>cS (φ a)) hi;rw [K] at ac ag aq;have a9:wt'<=1:=by
  generalize (if c=true then φ (N0+F.n) else Nx.ph .DW)=y at hm
  cases y with
  | gone d=>simp only [En] at hm;omega
  | ph q=>cases q <;> simp only [En] at hm <;> (try exact hm.elim) <;> omega
 have al:1<=(sumTo N λa=>cL (φ a))+(sumTo N λa=>cS (φ a))->v=0/\sm=0/\wt'=sumTo N λa=>cL (φ a):=by
  intro hh;generalize (if c=true then φ (N0+F.n) else Nx.ph .DW)=y at hm
  cases y with
  | gone d=>simp only [En] at hm;omega
  | ph q=>cases q <;> simp only [En] at hm <;> (try exact hm.elim) <;> omega
 have am:∀x,φ i= .ph x->Jx (.ph x)->c=true/\(if c=true then φ (N0+F.n) else Nx.ph .DW)= .ph x:=by
  intro x Y av;rcases h.EZ hi with rfl | ⟨a,b⟩ | ⟨k,ap,rfl⟩ | ⟨O,rfl⟩
  ·obtain⟨q,U,Z⟩:=h.main;rw [Y] at U;cases U;cases x <;> simp [HY] at Z <;> exact av.elim
  ·have:=h.old i a b;rw [Y] at this;exact this.elim
  ·have:=h.work k ap;rw [Y] at this;cases x <;> simp [Hf] at this <;> exact av.elim
  ·exact⟨O,by rw [if_pos O];exact Y⟩
 cases p <;> simp only [Fam.act]
 ·exact absurd V (az _)
 ·exact⟨_,_,_,_,_,V⟩
 ·exact⟨_,_,_,_,_,V⟩
 ·simp only [cU] at ac;have:1<=v:=by
   have bo:1<=sumTo N λa=>cU (φ a):=ac;omega
  rw [if_pos ⟨this,by omega,a9⟩];exact⟨_,_,_,_,_,V⟩
 ·have bb:1<=sumTo N λa=>cL (φ a):=ag;have:=al (by omega);rw [if_pos ⟨this.1,by omega⟩];exact⟨_,_,_,_,_,V⟩
 ·have bb:1<=sumTo N λa=>cL (φ a):=ag;have:=al (by omega);rw [if_pos ⟨this.1,by omega⟩];exact⟨_,_,_,_,_,V⟩
 ·have bv:1<=sumTo N λa=>cS (φ a):=aq;have:=al (by omega);rw [if_pos this.2.1];exact⟨_,_,_,_,_,V⟩
 ·exact⟨_,_,_,_,_,V⟩
 ·obtain⟨aw,e⟩:=am _ K trivial;rw [e] at hm;rw [if_pos ⟨hm.2.2.2.2.2,hm.2.2.2.1⟩];exact⟨_,_,_,_,_,V⟩
 ·obtain⟨aw,e⟩:=am _ K trivial;rw [e] at hm;rw [if_pos ⟨hm.2.2.2.2.2.1,hm.2.2.2.2.2.2,hm.2.2.2.1⟩];split <;> exact⟨_,_,_,_,_,rfl⟩
 ·exact⟨_,_,_,_,_,V⟩
 ·rw [if_pos (a5 rfl)];exact⟨_,_,_,_,_,V⟩
 ·obtain⟨aw,e⟩:=am _ K trivial;rw [e] at hm;rw [if_pos ⟨hm.2.2.2.2.1,hm.2.2.2.1⟩];exact⟨_,_,_,_,_,V⟩
 ·exact⟨_,_,_,_,_,V⟩
 ·exact absurd V a6
 ·exact absurd V a4
 ·exact⟨_,_,_,_,_,V⟩
 ·have be:c=false/\v<=j/\j<F.n:=by
   rcases h.EZ hi with rfl | ⟨a,b⟩ | ⟨k,ap,rfl⟩ | ⟨O,rfl⟩
   ·obtain⟨q,U,Z⟩:=h.main;rw [K] at U;cases U;have ay:=h.Ko;rw [K] at ay;exact⟨Z.2.2,by simpa [pend] using ay,Z.2.1⟩
   ·have:=h.old i a b;rw [K] at this;exact this.elim
   ·have:=h.work k ap;rw [K] at this;exact this.elim
   ·have:=h.cls O;rw [K] at this;exact this.elim
  rw [be.1] at hm;simp only [Bool.false_eq_true,if_false,En] at hm;rw [if_pos ⟨by omega,hm.2.2.2.1⟩];exact⟨_,_,_,_,_,V⟩
 ·exact⟨_,_,_,_,_,V⟩
 ·exact⟨_,_,_,_,_,V⟩
 ·exact absurd V (a0 _)
 ·exact absurd V a1
 ·exact absurd V (a2 _ _)
 all_goals first | exact⟨_,_,_,_,_,rfl⟩ | exact absurd rfl (a7 _ _)
end
section
variable {P:Program}{F:Fam}{B:Base}{gs:Array Goroutine}{w w':World}{sl:Option (Nat×Nat)}{t:Trace}{φ:Nat->Nx}{r:Nat->Rk}{bt:Nat->Bool}{S:Nat->St}{Sh:Nat->Prop}{j:Nat}{c:Bool}{v wt' sm v₁ wt₁ sm₁:Nat}{m m₁:M4}{q q₁:Nat}{f f₁:Nat->Value}
theorem X4(w:World)(v wt sm:Nat):(F.put w v wt sm).heap.size=w.heap.size:=by simp [Fam.put]
theorem Qk(w:World)(v wt sm:Nat){b:Nat}(h:b≠F.wg):(F.put w v wt sm).heap[b]? =w.heap[b]? :=by simp [Fam.put,Array.getElem?_setIfInBounds_ne (Ne.symm h)]
theorem bL(w:World)(v wt sm:Nat)(h:F.wg<w.heap.size):F.WG (F.put w v wt sm) v wt sm:=by simp [Fam.WG,Fam.put,h]
theorem Wd(w:World)(m:M4)(q:Nat):(F.Ga w m q).heap.size=w.heap.size:=by simp [Fam.Ga]
theorem Qa(w:World)(m:M4)(q:Nat){b:Nat}(h:b≠F.mu):(F.Ga w m q).heap[b]? =w.heap[b]? :=by simp [Fam.Ga,Array.getElem?_setIfInBounds_ne (Ne.symm h)]
theorem Zc(w:World)(m:M4)(q:Nat)(h:F.mu<w.heap.size):F.MU (F.Ga w m q) m q:=by simp [Fam.MU,Fam.Ga,h]
theorem WW(w:World)(f:Nat->Value):(F.HH w f).heap.size=w.heap.size:=by simp [Fam.HH]
theorem P7(w:World)(f:Nat->Value){b:Nat}(h:b≠F.fd):(F.HH w f).heap[b]? =w.heap[b]? :=by simp [Fam.HH,Array.getElem?_setIfInBounds_ne (Ne.symm h)]
theorem YQ(w:World)(f:Nat->Value)(h:F.fd<w.heap.size):F.FD (F.HH w f) f:=by simp [Fam.FD,Fam.HH,h]
theorem Z7{p:Ph}{s:St}(h:p≠ .G2):Fam.JF p s=s:=by cases p <;> first | rfl | exact absurd rfl h
theorem Cd.heap{t:Trace}{w w':World}{N:Nat}{S:Nat->St}{Sh:Nat->Prop}(h:Cd t w N S Sh)(hw:w'.heap=w.heap):Cd t w' N S Sh:=by
 have:=h.mute (u:= #[]) (w':=w') (g:=0) (by simp) (by simp) (by simp) hw;simpa using this
theorem Inv.act(h:Inv P F B gs w t φ r bt S Sh j c v wt' sm m q f)(b0:∀k v E E',Le E E'->F.msg k v E->F.msg k v E'){i:Nat}{g:Goroutine}(hi:gs[i]? =some g){p:Ph}(K:φ i= .ph p)(ac:(i==0)=Fam.CW p){s₀:St}(hg:CF (loc (.ph p) (S i)) s₀)(hs:Stop P F p g s₀)
  {es:Array Event} {Z:Nx} (O:F.act p v wt' sm=some ((v₁,wt₁,sm₁),es,Z)):Iz P F B gs w sl t i (mu F gs.size φ m q r bt):=by
 have U:i<gs.size:=(Array.getElem?_eq_some_iff.1 hi).1;obtain⟨g',b1,b2,a3⟩:=hs.law.act _ _ _ _ _ _ _ _ O;obtain⟨n1,n2,b3,b4,n5,b5,b6,ca⟩:=ZC O;obtain⟨am,e2,cc⟩:=ar p O;have a4:=h.Cu.GI F.wg h.H9;have dn:=h.size;have dJ:=h.CY.pos;have a5:i≠0->Fam.CW p=false:=λe=>by rw [← ac];simp [e]
 have a6:(p= .Ic∨∃j,p= .H5 j)->i=0:=by
  intro Y;have:Fam.CW p=true:=by rcases Y with rfl | ⟨j,rfl⟩ <;> rfl
  rw [this] at ac;simpa using ac
 have a7:i=0∨B.N0<=i:=by
  rcases h.EZ U with e | ⟨_,d,hd,_⟩ | ⟨k,_,e,_,_⟩
  ·exact .inl e
  ·rw [K] at hd;cases hd
  ·exact .inr (by omega)
 let s':St:=if Fam.Da p=true then S i else s₀
 have aq:Fam.Da p=true->s'=S i:=λe=>by simp [s',e]
 have ag:Fam.Da p=false->s'=s₀:=λe=>by simp [s',e]
 have a8:Fam.Da p=false->CF (S i) s₀:=λe=>by simpa [loc,H0,e] using hg
 have hle:Le (S i).E s'.E:=by
  cases e:Fam.Da p with
  | true=>rw [aq e];exact .refl _
  | false=>rw [ag e];exact λb o av=>(a8 e).ext b o av
 have a9:Cd t w gs.size (upd S i s') Sh:=by
  cases e:Fam.Da p with
  | true=>rw [aq e,Np];exact h.Cu
  | false=>rw [ag e];exact h.Cu.ghost U (a8 e)
 have ce:Cd (t++MemOp.ofEvents i g.frame.fn g.frame.place es) (F.put w v₁ wt₁ sm₁) gs.size (upd S i s') Sh:=by
  refine a9.ext (h.Fg.noRace h.Cu.clean U a7 λe he=>(am e he).toS a6) (λop aw a ay b hb=>?_) (λop aw=>?_) (X4 ..) (λb hb=>Qk _ _ _ _ λe=>hb (e▸h.H9))
  ·obtain⟨e,he,rfl⟩:=mem_ofEvents aw;obtain⟨⟨b',al,az⟩,_⟩:=(am e he).1 a ay;rw [hb] at al;cases al;rcases az with rfl | rfl
   ·exact h.H9
   ·exact h.IP
  ·obtain⟨e,he,rfl⟩:=mem_ofEvents aw;exact cc e he _ a4
 have ci:stepG P (i==0) g w= .go g' (F.put w v₁ wt₁ sm₁) es:=by rw [ac];exact b1 w h.wg
 have co:CX F B.N0 (gs.size+c.toNat) j c (CR c gs.size (upd φ i Z)) v₁ wt₁ sm₁ false:=by
  by_cases e:i=0
  ·subst e;cases c with
   | false=>
    have:=h.CY.act (i:=0) (by omega) (by rw [Jw];exact K) O;rw [Jw] at this;rw [Jw];exact this
   | true=>
    have:=h.CY.act (i:=gs.size) (by simp) (by rw [J9];exact K) O
    rwa [Xw (by omega)] at this
  ·have:=h.CY.act (i:=i) (by omega) (by rw [I1 e (by omega)];exact K) O
   rwa [NP e (by omega)] at this
 have cp:Fz F B.N0 B.t0 gs.size j (upd φ i Z) (upd S i s') (t++MemOp.ofEvents i g.frame.fn g.frame.place es):=by
  refine h.Fg.app U (by rw [K];exact e2) (λe he=>(am e he).keep a6 h.Km h.Kl) (.inl a7) (λk ap bb e he a b ay hb hw=>?_) (λk ap e bb=>?_)
  ·obtain⟨⟨b',al,az⟩,_⟩:=(am e he).1 a ay;rw [hb] at al;cases al;have be:B.N0+k<gs.size:=by omega
   rcases az with rfl | rfl
   ·exact(h.Cu.sh _ be _ h.H9).2
   ·exact(h.Cu.sh _ be _ h.IP).2
  ·have bi:i≠0:=by omega
   have bn:Hf F k (.ph p):=by
    rcases h.EZ U with ct | ⟨_,d,hd,_⟩ | ⟨k',_,dK,_,hw⟩
    ·exact absurd ct bi
    ·rw [K] at hd;cases hd
    ·obtain rfl:k'=k:=by omega
     rwa [K] at hw
   rcases b5 (a5 bi) bb with a0 | rfl
   ·refine .inl ⟨by rw [K];exact a0,by rw [aq (RG bn a0)],λρ a2=>?_⟩;refine a2.appOwn _ _ es λm e he=>?_;rw [h.Fg.deaf _ U,K];exact X7 p O bn a0 m e he
   ·refine .inr ⟨t.size,h.Fg.MN,?_,?_⟩
    ·simp only [Fam.act] at O;cases O;exact .new (by rw [h.Fg.deaf _ U,K];rfl) _ _
    ·simp only [Fam.act] at O;cases O;rw [ag rfl];intro b hb x a bo cw hw;have cy:MemOp.ofEvents i g.frame.fn g.frame.place #[Fam.CZ (.releaseMerge F.sA)]= #[{g:=i,fn:=g.frame.fn,pos:=g.frame.place,act:= .mark (.releaseMerge F.sA)}]:=by rw [ofEvents_eq];simp [Fam.CZ,MemAct.ofEvent]
     rw [cy] at bo ⊢;obtain⟨op,av,bv⟩:=touch_of bo;rcases getElem?_append_cases av with⟨_,c0⟩ | ⟨_,bw⟩
     ·have c1:=a9.kE i U b (by rw [upd_same,ag rfl];exact hb) x a (by rw [touchAt_of c0];exact bv) cw hw;have c2:(t++ #[({g:=i,fn:=g.frame.fn,pos:=g.frame.place,act:= .mark (.releaseMerge F.sA)}:MemOp)])[t.size]? =some {g:=i,fn:=g.frame.fn,pos:=g.frame.place,act:= .mark (.releaseMerge F.sA)}:=by simp
      exact .inr (c1.hb_new (Nat.le_refl _) c2 V)
     ·simp at bw;subst bw;cases bv
 have c3:∀k,k<j->stored (upd φ i Z (B.N0+k))->F.msg k (f k) (upd S i s' (B.N0+k)).E:=by
  intro k ap bx;by_cases e:B.N0+k=i
  ·rw [e,upd_same];have:=h.IS k ap (by rw [e,K];exact b6 (a5 (by omega)));rw [e] at this;exact b0 _ _ _ _ hle this
  ·rw [upd_ne _ _ e] at bx ⊢;exact h.IS k ap bx
 have c4:LI gs.size (upd φ i Z) m q:=h.lock.other U (λk l e=>b4 k l (by rw [K] at e;exact Nx.ph.inj e)) (λk l e=>by subst e;exact(n1 _ rfl).2.2.2 k l rfl);have c5:∀q,Z= .ph q->loc (.ph q) s'=Fam.JF p s₀:=by
  intro q e;obtain⟨_,bz,c6,_⟩:=n1 q e;cases Y:Fam.Da q with
  | true=>
   have:loc (.ph q) s'= .quiet:=by simp [loc,H0,Y]
   rw [this];rcases bz Y with rfl | e
   ·rfl
   ·rw [hs.law.quiet e];cases p <;> rfl
  | false=>
   obtain⟨a1,c7⟩:=c6 Y;rw [Z7 c7,ag a1];simp [loc,H0,Y]
 have fin:∀(ρ:Rk),G5 P F (i==0) Z ρ true g' (loc Z s')->Iz P F B gs w sl t i (mu F gs.size φ m q r bt):=λρ c8=>
  h.go' (f₁:=f) hi ci co c4 cp c8 ce (bL _ _ _ _ a4) (by show(F.put w v₁ wt₁ sm₁).heap[F.mu]? =_;rw [Qk _ _ _ _ h.MS];exact h.JE) (by show(F.put w v₁ wt₁ sm₁).heap[F.fd]? =_;rw [Qk _ _ _ _ h.Km];exact h.GN)
   (λa b=>⟨hs.law.I7 (.inl (n2 a b)),b2⟩) (λa b=>absurd b a) c3 (λ_=>ca) (λe=>by subst e;exact hle) rfl (.refl _) rfl λdL=>UA U (by rw [K];exact Z0 O)
 cases Z with
 | ph q=>
  obtain⟨ρ,a2⟩:=a3;refine fin ρ ?_;obtain⟨c9,bz,_,_⟩:=n1 q V;refine .walk (by rw [ac,c9]) (λY=>by simp [loc,H0,Y]) ?_;rw [c5 q rfl,ac];exact a2
 | gone d=>
  obtain⟨dd,Y⟩:=a3;exact fin (chain dd) (.gone (by rw [ac];exact(b3 d rfl).1) Y)
theorem aT{l:LP}{m m':M4}{q q':Nat}{es:Array Event}{o:Option LP}(K:(m',q',es,o)∈F.Cg l m q):q'<=q∨∃b,l= .FA b:=by
 cases l <;> simp only [Fam.Cg,List.mem_singleton,Prod.mk.injEq,List.not_mem_nil] at K
 case FA b=>exact .inr ⟨b,rfl⟩
 case HE=>split at K <;> simp only [List.mem_singleton,Prod.mk.injEq] at K <;> exact .inl (by omega)
 case CJ sv aw it old=>
  simp only [Fam.FY,List.mem_append] at K;left;rcases K with K | K
  ·split at K
   ·split at K
    ·simp only [List.mem_singleton] at K;split at K <;> simp only [Prod.mk.injEq] at K <;> omega
    ·simp only [List.mem_singleton,Prod.mk.injEq] at K;omega
   ·simp at K
  ·split at K
   ·split at K
    ·simp only [List.mem_singleton,Prod.mk.injEq] at K;omega
    ·simp only [List.mem_cons,List.not_mem_nil,or_false,Prod.mk.injEq] at K;rcases K with K | K <;> omega
   ·simp only [List.mem_singleton,Prod.mk.injEq] at K;omega
 case Gu=>
  simp only [List.mem_cons,List.not_mem_nil,or_false,Prod.mk.injEq] at K;left;rcases K with K | K <;> omega
 case EX sv=>split at K <;> simp only [List.mem_singleton,Prod.mk.injEq] at K <;> exact .inl (by omega)
 case Fh old=>split at K <;> simp only [List.mem_singleton,Prod.mk.injEq] at K <;> exact .inl (by omega)
 all_goals exact .inl (by omega)
theorem XW{l:LP}{m m':M4}{q q':Nat}{es:Array Event}{o:Option LP}(K:(m',q',es,o)∈F.Cg l m q):(∀p,o=some p->G1 p->G1 l)/\(o=none->G1 l):=by
 cases l <;> simp only [Fam.Cg,List.mem_singleton,Prod.mk.injEq,List.not_mem_nil] at K
 case HE=>split at K <;> simp only [List.mem_singleton,Prod.mk.injEq] at K <;> obtain⟨-,-,-,rfl⟩:=K <;> simp [G1]
 case CJ sv aw it old=>
  simp only [Fam.FY,List.mem_append] at K;rcases K with K | K
  ·split at K
   ·split at K
    ·simp only [List.mem_singleton] at K;split at K <;> simp only [Prod.mk.injEq] at K <;> obtain⟨-,-,-,rfl⟩:=K <;> simp [G1]
    ·simp only [List.mem_singleton,Prod.mk.injEq] at K;obtain⟨-,-,-,rfl⟩:=K;simp [G1]
   ·simp at K
  ·split at K
   ·split at K
    ·simp only [List.mem_singleton,Prod.mk.injEq] at K;obtain⟨-,-,-,rfl⟩:=K;simp [G1]
    ·simp only [List.mem_cons,List.not_mem_nil,or_false,Prod.mk.injEq] at K;rcases K with⟨-,-,-,rfl⟩ | ⟨-,-,-,rfl⟩ <;> simp [G1]
   ·simp only [List.mem_singleton,Prod.mk.injEq] at K;obtain⟨-,-,-,rfl⟩:=K;simp [G1]
 case Gu=>
  simp only [List.mem_cons,List.not_mem_nil,or_false,Prod.mk.injEq] at K;rcases K with⟨-,-,-,rfl⟩ | ⟨-,-,-,rfl⟩ <;> simp [G1]
 case CQ sv=>obtain⟨-,-,-,rfl⟩:=K;cases sv <;> simp [G1]
 case EX sv=>split at K <;> simp only [List.mem_singleton,Prod.mk.injEq] at K <;> obtain⟨-,-,-,rfl⟩:=K <;> simp [G1]
 all_goals first
  | (obtain⟨-,-,-,rfl⟩:=K;simp [G1];done)
  | (exact⟨λ_ _ _=>trivial,λ_=>trivial⟩)
theorem Inv.Cg(h:Inv P F B gs w t φ r bt S Sh j c v wt' sm m q f)(a9:∀k v E E',Le E E'->F.msg k v E->F.msg k v E'){i:Nat}{g:Goroutine}(hi:gs[i]? =some g){k:Nat}{l:LP}(K:φ i= .ph (.lk k l))(bb:l≠ .F1)(ag:(i==0)=false){s₀:St}(hg:CF (S i) s₀)(hs:Stop P F (.lk k l) g s₀)
  (be:∀sv,l= .CQ sv->q≠0):Iz P F B gs w sl t i (mu F gs.size φ m q r bt):=by
 have O:i<gs.size:=(Array.getElem?_eq_some_iff.1 hi).1;have aw:=h.lock.ok O K h.small be;obtain⟨m',q',es,o,g',al,U,bi,Y,bn,bo⟩:=hs.law.lk k l V bb w m q h.JE aw;obtain⟨am,e2,bv⟩:=YP U;have a1:=h.Cu.GI F.mu h.IP;have cy:=h.size;have c0:=h.CY.pos;have Z:i≠0:=by simpa using ag
 obtain⟨k',bw,a2,_,a3⟩:∃k',k'<j/\i=B.N0+k'/\i≠0/\Hf F k' (φ i):=by
  rcases h.EZ O with e | ⟨_,d,hd,_⟩ | e
  ·exact absurd e Z
  ·rw [K] at hd;cases hd
  ·exact e
 rw [K] at a3;obtain rfl:k=k':=a3;have bx:Cd t w gs.size (upd S i s₀) Sh:=h.Cu.ghost O hg;have bz:Cd (t++MemOp.ofEvents i g.frame.fn g.frame.place es) al gs.size (upd S i s₀) Sh:=by
  have:Cd (t++MemOp.ofEvents i g.frame.fn g.frame.place es) (F.Ga w m' q') gs.size (upd S i s₀) Sh:=by
   refine bx.ext (h.Fg.noRace h.Cu.clean O (.inr (by omega)) λe he=>(am e he).toS (λx=>x.elim)) (λop ay a az b hb=>?_) (λop ay=>?_) (Wd ..) (λb hb=>Qa _ _ _ λe=>hb (e▸h.IP))
   ·obtain⟨e,he,rfl⟩:=mem_ofEvents ay;obtain⟨⟨b',ac,a0⟩,_⟩:=(am e he).1 a az;rw [hb] at ac;cases ac;rcases a0 with rfl | rfl
    ·exact h.H9
    ·exact h.IP
   ·obtain⟨e,he,rfl⟩:=mem_ofEvents ay;exact bv e he _ a1
  exact this.heap Y.1
 have b0:cU (.ph (Fam.Dw k o))=1/\cL (.ph (Fam.Dw k o))=0/\cS (.ph (Fam.Dw k o))=0/\Hf F k (.ph (Fam.Dw k o))/\(∀a,Nx.ph (Fam.Dw k o)≠ .ph (.HB a))/\Fam.CW (Fam.Dw k o)=false/\Fam.Da (Fam.Dw k o)=false/\¬late (.ph (Fam.Dw k o)):=by
  cases o with
  | none=>exact⟨rfl,rfl,rfl,trivial,by simp [Fam.Dw],rfl,rfl,λx=>x⟩
  | some p=>exact⟨rfl,rfl,rfl,rfl,by simp [Fam.Dw],rfl,rfl,λx=>x⟩
 obtain⟨b1,x2,b2,b3,b4,b5,a4,b6⟩:=b0;have ca:CX F B.N0 (gs.size+c.toNat) j c (CR c gs.size (upd φ i (.ph (Fam.Dw k o)))) v wt' sm false:=by
  have ap:CR c gs.size φ (B.N0+k)= .ph (.lk k l):=by rw [← a2,I1 Z (by omega)];exact K
  have:=h.CY.IF (v':=v) (wt':=wt') (sm':=sm) (cl':=false) bw (x:= .ph (Fam.Dw k o)) b3 (λa=>by rw [ap];simp) b4 (by rw [ap,b1];rfl) λL S' a5 a6=>by
   rw [ap,x2] at a5;rw [ap,b2] at a6;have cc:L=_:=a5;have ce:S'=_:=a6;rw [cc,ce];exact h.CY.mode
  rwa [← a2,NP Z (by omega)] at this
 have ci:Fz F B.N0 B.t0 gs.size j (upd φ i (.ph (Fam.Dw k o))) (upd S i s₀) (t++MemOp.ofEvents i g.frame.fn g.frame.place es):=by
  refine h.Fg.app O (by rw [K];rw [show Gb (.ph (.lk k l))=dl l from rfl,e2];cases o <;> rfl) (λe he=>(am e he).keep (λx=>x.elim) h.Km h.Kl) (.inl (.inr (by omega))) (λk' aq a7 e he a b az hb hw=>?_) (λk' aq e a7=>absurd a7 b6);obtain⟨⟨b',ac,a0⟩,_⟩:=(am e he).1 a az;rw [hb] at ac;cases ac;have a8:B.N0+k'<gs.size:=by omega
  rcases a0 with rfl | rfl
  ·exact(h.Cu.sh _ a8 _ h.H9).2
  ·exact(h.Cu.sh _ a8 _ h.IP).2
 obtain⟨ρ,co⟩:=bo;have cp:loc (.ph (Fam.Dw k o)) s₀=s₀:=by simp [loc,H0,a4]
 refine h.go' (f₁:=f) hi (by rw [ag];exact bi) ca (h.lock.step O K h.small aw U) ci (ρ:=ρ) (by rw [cp];exact .walk (by rw [ag,b5]) (λe=>by rw [a4] at e;cases e) (by rw [ag];exact co)) bz ?_ ?_ ?_ (λa b=>absurd b a) (λa b=>?_) (λk' aq av=>?_) (λe=>absurd e Z) (λe=>absurd e Z) (Y.2.1) Y.2.2.1 Y.2.2.2 λc1=>bM O K U aw
 ·show al.heap[F.wg]? =_;rw [Y.1,Qa _ _ _ (Ne.symm h.MS)];exact h.wg
 ·show al.heap[F.mu]? =_;rw [Y.1];exact Zc _ _ _ a1
 ·show al.heap[F.fd]? =_;rw [Y.1,Qa _ _ _ h.Kl];exact h.GN
 ·rcases aT U with e | ⟨ct,rfl⟩
  ·omega
  ·exact⟨hs.law.I7 (.inr ⟨k,ct,V⟩),bn⟩
 ·by_cases e:B.N0+k'=i
  ·rw [e,upd_same] at av ⊢;obtain rfl:k'=k:=by omega
   have cw:G1 l:=by
    obtain⟨a,b⟩:=XW U;cases o with
    | none=>exact b rfl
    | some p=>exact a p rfl av
   have:=h.IS k' aq (by rw [e,K];exact cw);rw [e] at this;exact a9 _ _ _ _ (λb o U=>hg.ext b o U) this
  ·rw [upd_ne _ _ e] at av ⊢;exact h.IS k' aq av
end
section
variable {P:Program}{F:Fam}{B:Base}{gs gs':Array Goroutine}{w w':World}{sl:Option (Nat×Nat)}{t:Trace}{φ:Nat->Nx}{r:Nat->Rk}{bt:Nat->Bool}{S:Nat->St}{Sh:Nat->Prop}{j:Nat}{c:Bool}{v wt' sm v₁ wt₁ sm₁:Nat}{m m₁:M4}{q q₁:Nat}{f f₁:Nat->Value}
theorem Inv.store(h:Inv P F B gs w t φ r bt S Sh j c v wt' sm m q f){i:Nat}{g:Goroutine}(hi:gs[i]? =some g){k:Nat}(O:φ i= .ph (.lk k .F1))(ag:(i==0)=false){s₀:St}(hg:CF (S i) s₀)(hs:Stop P F (.lk k .F1) g s₀):
  Iz P F B gs w sl t i (mu F gs.size φ m q r bt):=by
 have U:i<gs.size:=(Array.getElem?_eq_some_iff.1 hi).1;obtain⟨v0,a4,g',bz,a5,a6⟩:=hs.law.store k V;have aw:=h.Cu.GI F.fd h.Ja;have b0:=h.size;have b1:=h.CY.pos;have Y:i≠0:=by simpa using ag
 obtain⟨k',al,Z,_,ay⟩:∃k',k'<j/\i=B.N0+k'/\i≠0/\Hf F k' (φ i):=by
  rcases h.EZ U with e | ⟨_,d,hd,_⟩ | e
  ·exact absurd e Y
  ·rw [O] at hd;cases hd
  ·exact e
 rw [O] at ay;obtain rfl:k=k':=ay;have ac:∀e∈(#[⟨.cell ⟨F.fd,k,none⟩,true,false⟩]:Array Event),∀a,(MemAct.ofEvent e).touch? =some a->a=⟨.cell ⟨F.fd,k,none⟩,true,.plain⟩:=by
  intro e he a K;simp at he;subst he;simp [MemAct.ofEvent,MemAct.touch?] at K;exact K.symm
 have az:∀e∈(#[⟨.cell ⟨F.fd,k,none⟩,true,false⟩]:Array Event),e.loc≠ .mark (.release F.sA):=by
  intro e he;simp at he;subst he;simp
 have a7:∀e∈(#[⟨.cell ⟨F.fd,k,none⟩,true,false⟩]:Array Event),EvS F B.N0 j i e:=λe he=>
  ⟨λa K=>by have:=ac e he a K;subst this;exact⟨F.fd,rfl,.inr ⟨rfl,k,al,Z,rfl,rfl⟩⟩,az e he⟩
 have a8:Cd t w gs.size (upd S i s₀) Sh:=h.Cu.ghost U hg;have a9:Cd (t++MemOp.ofEvents i g.frame.fn g.frame.place #[⟨.cell ⟨F.fd,k,none⟩,true,false⟩]) (F.HH w (upd f k v0)) gs.size (upd S i s₀) Sh:=by
  refine a8.ext (h.Fg.noRace h.Cu.clean U (.inr (by omega)) a7) (λop am a bb b hb=>?_) (λop am=>?_) (WW ..) (λb hb=>P7 _ _ λe=>hb (e▸h.Ja))
  ·obtain⟨e,he,rfl⟩:=mem_ofEvents am;have:=ac e he a bb;subst this;have:b=F.fd:=by simpa [Db] using hb.symm
   subst this;exact h.Ja
  ·obtain⟨e,he,rfl⟩:=mem_ofEvents am;simp at he;subst he;simp [MemAct.ofEvent,MemAct.low,Loc.low,aw]
 have be:CX F B.N0 (gs.size+c.toNat) j c (CR c gs.size (upd φ i (.ph (.lk k .G4)))) v wt' sm false:=by
  have ap:CR c gs.size φ (B.N0+k)= .ph (.lk k .F1):=by rw [← Z,I1 Y (by omega)];exact O
  have:=h.CY.IF (v':=v) (wt':=wt') (sm':=sm) (cl':=false) al (x:= .ph (.lk k .G4)) rfl (λa=>by rw [ap];simp) (by simp) (by rw [ap];rfl) λL S' a0 a1=>by
   rw [ap] at a0 a1;have bi:L=_:=a0;have bn:S'=_:=a1;rw [bi,bn];exact h.CY.mode
  rwa [← Z,NP Y (by omega)] at this
 have bo:Fz F B.N0 B.t0 gs.size j (upd φ i (.ph (.lk k .G4))) (upd S i s₀) (t++MemOp.ofEvents i g.frame.fn g.frame.place #[⟨.cell ⟨F.fd,k,none⟩,true,false⟩]):=by
  refine h.Fg.app U (by rw [O];rfl) (λe he=>⟨λa b K hb bv=>?_,λa K hb=>?_,az e he⟩) (.inl (.inr (by omega))) (λk' aq a2 e he a b K hb hw=>?_) (λk' aq e a2=>a2.elim)
  ·have:=ac e he a K;subst this;have av:b=F.fd:=by simpa [Db] using hb.symm
   subst av;rcases bv with e | e
   ·exact absurd e h.Km
   ·exact absurd e h.Kl
  ·have:=ac e he a K;subst this;exact⟨k,al,Z,V,V⟩
  ·have:=ac e he a K;subst this;have av:b=F.fd:=by simpa [Db] using hb.symm
   subst av;exact(h.Cu.sh (B.N0+k') (by omega) _ h.Ja).2
 obtain⟨ρ,bw⟩:=a6;have bx:LI gs.size (upd φ i (.ph (.lk k .G4))) m q:=by
  refine h.lock.same U (λf=>?_) trivial;rw [O];by_cases e:f .F1=f .G4
  ·exact .inl e
  ·right;refine⟨?_,?_,?_,?_,?_,?_,?_,?_⟩ <;> rintro rfl <;> exact e rfl
 refine h.go' (f₁:=upd f k v0) hi (by rw [ag];exact a5 w f h.GN) be bx bo (ρ:=ρ) (.walk (by rw [ag];rfl) (λe=>by cases e) (by rw [ag];exact bw)) a9 ?_ ?_ (YQ _ _ aw) (λa b=>absurd b a) (λa b=>absurd b a) (λk' aq a3=>?_) (λe=>absurd e Y) (λe=>absurd e Y) V (.refl _) V λb2=>UA U (by rw [O];simp [wt,HL])
 ·show(F.HH w (upd f k v0)).heap[F.wg]? =_;rw [P7 _ _ (Ne.symm h.Km)];exact h.wg
 ·show(F.HH w (upd f k v0)).heap[F.mu]? =_;rw [P7 _ _ (Ne.symm h.Kl)];exact h.JE
 ·by_cases e:k'=k
  ·subst e;rw [← Z,upd_same,upd_same];exact a4
  ·rw [upd_ne _ _ e];rw [upd_ne _ _ (by omega)] at a3 ⊢;exact h.IS k' aq a3
theorem Vg{g g' o:Goroutine}(h:g'.status= .blocked):woken P g g' w o=o:=by
 unfold woken;rw [if_neg (by simp [h])]
theorem Fz.aC{N0 t0 N:Nat}(h:Fz F N0 t0 N j φ S t){i:Nat}{s':St}(U:∀k,k<j->late (φ (N0+k))->N0+k≠i):Fz F N0 t0 N j φ (upd S i s') t:=
 ⟨h.deaf,h.above,h.plain,h.said,h.GN,h.over,h.norel,h.MN,λk K O=>by rw [upd_ne _ _ (U k K O)];exact h.rel k K O⟩
theorem Inv.block(h:Inv P F B gs w t φ r bt S Sh j c v wt' sm m q f){i:Nat}{g:Goroutine}(hi:gs[i]? =some g){p:Ph}(K:φ i= .ph p)(ay:bt i=true)(ac:(i==0)=Fam.CW p){s₀:St}(hg:CF (S i) s₀)(hs:Stop P F p g s₀)
  (ag:(p= .FZ/\sm=0)∨((∃k sv,p= .lk k (.CQ sv))/\q=0)):Iz P F B gs w sl t i (mu F gs.size φ m q r bt):=by
 have Y:i<gs.size:=(Array.getElem?_eq_some_iff.1 hi).1;have a3:=h.size;have az:stepG P (i==0) g w= .go {g with status:= .blocked} w #[]:=by
  rw [ac];rcases ag with⟨rfl,rfl⟩ | ⟨⟨k,sv,rfl⟩,rfl⟩
  ·exact hs.law.FC V w v wt' h.wg
  ·exact hs.law.CQ k sv V w m h.JE
 have Z:Qt p:=by
  rcases ag with⟨rfl,_⟩ | ⟨⟨k,sv,rfl⟩,_⟩
  ·exact .inl V
  ·exact .inr ⟨k,sv,V⟩
 have a0:=Rg Z;have am:=runT_crowd_go (P:=P) (sl:=sl) (i:=i) hi az;have a1:(gs.map (woken P g {g with status:= .blocked} w)).setIfInBounds i {g with status:= .blocked}=gs.setIfInBounds i {g with status:= .blocked}:=by
  have:(woken P g {g with status:= .blocked} w)=id:=by funext o;exact Vg V
  rw [this,Array.map_id]
 rw [a1,Nc] at am;have O:(gs.setIfInBounds i {g with status:= .blocked}).size=gs.size:=by simp
 have ap:t++(#[]:Trace)=t:=by simp
 have a2:∀k,k<j->late (φ (B.N0+k))->B.N0+k≠i:=by
  intro k aq av e;rw [e,K] at av;rcases Z with rfl | ⟨k',sv,rfl⟩
  ·rcases h.EZ Y with ap | ⟨_,d,hd,_⟩ | ⟨k',_,_,_,hw⟩
   ·have:=h.CY.pos;omega
   ·rw [K] at hd;cases hd
   ·rw [K] at hw;exact hw
  ·exact av
 refine⟨_,_,_,_,am,.inl ⟨φ,r,upd bt i false,upd S i s₀,Sh,j,c,v,wt',sm,m,q,f,?_,?_⟩⟩
 ·rw [ap];refine⟨by rw [O];exact h.CY,by rw [O];exact h.lock,by rw [O];exact h.Fg.aC a2,λa o U=>?_,by rw [O];exact h.Cu.ghost Y hg,h.H9,h.IP,h.Ja,h.MS,h.Km,h.Kl,h.Ig,h.mn,h.wg,h.JE,h.GN,λa aw hb=>?_,λk aq al=>?_,?_,h.tape,h.os,h.output⟩
  ·by_cases e:a=i
   ·subst e;rw [Array.getElem?_setIfInBounds_self_of_lt Y] at U;obtain rfl:=Option.some.inj U;rw [upd_same,upd_same,K];have:loc (.ph p) s₀=s₀:=by simp [loc,H0,a0]
    rw [this];exact .blk Z ac hs
   ·rw [Array.getElem?_setIfInBounds_ne (Ne.symm e)] at U;rw [upd_ne _ _ e,upd_ne _ _ e];exact h.K4 a o U
  ·by_cases e:a=i
   ·subst e;rcases ag with⟨rfl,rfl⟩ | ⟨⟨k,sv,rfl⟩,rfl⟩
    ·have:a=0:=by simpa [Fam.CW] using ac
     subst this;exact .inl ⟨V,K,V⟩
    ·exact .inr ⟨⟨k,sv,K⟩,V⟩
   ·rw [upd_ne _ _ e] at hb;rw [O] at aw;exact h.blk a aw hb
  ·by_cases e:B.N0+k=i
   ·rw [e,K] at al;rcases Z with rfl | ⟨k',sv,rfl⟩ <;> exact al.elim
   ·rw [upd_ne _ _ e];exact h.IS k aq al
  ·by_cases e:0=i
   ·subst e;rw [upd_same];exact λb o U=>hg.ext b o (h.le b o U)
   ·rw [upd_ne _ _ e];exact h.le
 ·rw [O];have:=sumTo_upd bt false bit Y;rw [ay] at this;exact .inr ⟨V,.inr ⟨V,.inr ⟨V,V,.inr ⟨V,by show(sumTo gs.size λa=>bit (upd bt i false a))<sumTo gs.size λa=>bit (bt a);simp only [bit] at this ⊢;simp only [if_true,Bool.false_eq_true,if_false] at this;omega⟩⟩⟩⟩
theorem LI.push{N:Nat}(h:LI N φ m q)(Z:0<N){p0:Ph}{j:Nat}(O:∀k p,φ 0≠ .ph (.lk k p))(U:∀k p,p0≠ .lk k p):LI (N+1) (upd (upd φ N (.ph (.lk j .Gw))) 0 (.ph p0)) m q:=by
 have Y:LI (N+1) (upd φ N (.ph (.lk j .Gw))) m q:=by
  have e:∀f,f LP.Gw=0->Sg f (N+1) (upd φ N (.ph (.lk j .Gw)))=Sg f N φ:=by
   intro f ac;unfold Sg;simp only [sumTo];have:=sumTo_upd_out φ (.ph (.lk j .Gw)) (Dx f) (i:=N) (j:=N) (Nat.le_refl _);rw [upd_same];show _+f .Gw=_;omega
  refine⟨by rw [e pH rfl,e pN rfl,e pZ rfl,e pV rfl,e pT rfl,e pQ rfl,e pD rfl,e pX rfl];exact h.ln,λa ag=>?_⟩;by_cases K:a=N
  ·subst K;rw [upd_same];trivial
  ·rw [upd_ne _ _ K];exact h.loc a (by omega)
 exact Y.other (by omega) (by rw [upd_ne _ _ (by omega)];exact O) (λk p e=>U k p (Nx.ph.inj e))
theorem Inv.spawn(h:Inv P F B gs w t φ r bt S Sh j c v wt' sm m q f){g:Goroutine}(hi:gs[0]? =some g){K:Nat}(ac:φ 0= .ph (.Ge K)){s₀:St}(hg:CF (S 0) s₀)(hs:Stop P F (.Ge K) g s₀):
  Iz P F B gs w sl t 0 (mu F gs.size φ m q r bt):=by
 have Y:0<gs.size:=(Array.getElem?_eq_some_iff.1 hi).1;obtain⟨rfl,c9,rfl⟩:K=j/\j<F.n/\c=false:=by
  obtain⟨p,be,_,hh⟩:=h.main;rw [ac] at be;cases be;rcases hh with⟨e,hm⟩ | ⟨_,hm⟩
  ·exact⟨hm.1,hm.2.1,e⟩
  ·exact hm.elim
 obtain⟨g',child,dd,dn,bv,bw,bx⟩:=hs.law.go _ V;have bz:=h.size;have dJ:=h.CY.pos;have a3:=runT_crowd_spawn (P:=P) (sl:=sl) (i:=0) hi (show stepG P (0==0) g w=_ from bv w);rw [Nc] at a3;generalize b0:({g:=0,fn:=g.frame.fn,pos:=g.frame.place,act:= .go gs.size}:MemOp)=x at a3;generalize b1:({g:=gs.size,fn:=child.frame.fn,pos:=g.frame.place,act:= .start}:MemOp)=y at a3;have am:x.g=0/\x.act= .go gs.size:=by subst b0;exact⟨V,V⟩
 have ap:y.g=gs.size/\y.act= .start:=by subst b1;exact⟨V,V⟩
 have b2:((#[]:Trace).push x).push y= #[x,y]:=V;have al:((gs.setIfInBounds 0 g').push child).size=gs.size+1:=by simp
 have b3:Fam.CW (F.EY K)=true/\Fam.Da (F.EY K)=false/\Gb (.ph (F.EY K))=0/\(∀k p,F.EY K≠ .lk k p):=by
  unfold Fam.EY;split <;> exact⟨rfl,rfl,rfl,by simp⟩
 obtain⟨b4,x2,b5,b6⟩:=b3;let φ':Nat->Nx:=upd (upd φ gs.size (.ph (F.start K))) 0 (.ph (F.EY K));have f0:φ' 0= .ph (F.EY K):=upd_same _ _ _;have aq:φ' gs.size= .ph (F.start K):=by show upd _ _ _ _=_;rw [upd_ne _ _ (by omega),upd_same]
 have av:∀a,a≠0->a≠gs.size->φ' a=φ a:=λa ca a6=>by show upd _ _ _ _=_;rw [upd_ne _ _ ca,upd_ne _ _ a6]
 have hu:∀op∈(#[x,y]:Array MemOp),op.act.touch? =none/\∀m,op.act≠ .mark m:=by
  intro op O;simp only [List.mem_toArray,List.mem_cons,List.not_mem_nil,or_false] at O;rcases O with rfl | rfl
  ·rw [am.2];exact⟨V,by simp⟩
  ·rw [ap.2];exact⟨V,by simp⟩
 have aw:=h.CY.spawn (by rw [Jw];exact ac);rw [Jw] at aw;simp only [Bool.toNat_false,Nat.add_zero] at aw;have a7:∃ay,CX F B.N0 (gs.size+1+ay.toNat) (K+1) ay (CR ay (gs.size+1) φ') v wt' sm false:=by
  by_cases e:K+1=F.n
  ·refine⟨true,?_⟩;have a8:F.FU K= .Hh:=by unfold Fam.FU;rw [if_pos e]
   have e2:F.EY K= .DW:=by unfold Fam.EY;rw [if_pos e]
   have:=aw.bl (by rw [upd_same,a8]);have cc:CR true (gs.size+1) φ'=upd (upd (upd (upd φ gs.size (.ph (F.start K))) 0 (.ph (F.FU K))) (gs.size+1) (.ph .DW)) 0 (.ph (.F8 [] [])):=by
    funext a;unfold CR;by_cases a9:a=gs.size+1
    ·subst a9;rw [if_pos ⟨rfl,rfl⟩,upd_ne _ _ (by omega),upd_same,f0,e2]
    ·rw [if_neg (by simp [a9])];by_cases ag:a=0
     ·subst ag;rw [if_pos ⟨rfl,rfl⟩,upd_same]
     ·rw [if_neg (by simp [ag]),upd_ne _ _ ag,upd_ne _ _ a9];show upd _ _ _ _=_;rw [upd_ne _ _ ag,upd_ne _ _ ag]
   rw [cc];exact this
  ·refine⟨false,?_⟩;have a8:F.FU K=F.EY K:=by unfold Fam.FU Fam.EY;rw [if_neg e,if_neg e]
   rw [a8] at aw;rw [Jw];exact aw
 obtain⟨ay,a7⟩:=a7;have bi:Cd t w gs.size (upd S 0 s₀) Sh:=h.Cu.ghost Y hg;have ce:Cd (t++ #[x,y]) w gs.size (upd S 0 s₀) Sh:=by
  refine bi.ext (λsaid=>?_) (λop O a az=>by rw [(hu op O).1] at az;cases az) (λop O=>?_) V λ_ _=>V
  ·have e:t++ #[x,y]=(t++ #[x])++ #[y]:=by apply Array.ext';simp
   rw [e];exact noRace_append (g:=gs.size) (noRace_append (g:=0) (h.Cu.clean said) (λop O=>by simp at O;subst O;exact am.1) λz a _ op O b hb _=>by rw [(hu op (by simp at O ⊢;exact .inl O)).1] at hb;cases hb)
    (λop O=>by simp at O;subst O;exact ap.1) λz a _ op O b hb _=>by rw [(hu op (by simp at O ⊢;exact .inr O)).1] at hb;cases hb
  ·simp only [List.mem_toArray,List.mem_cons,List.not_mem_nil,or_false] at O;rcases O with rfl | rfl
   ·rw [am.2];trivial
   ·rw [ap.2];trivial
 have ci:Deaf t 0=0:=by rw [h.Fg.deaf 0 Y,ac];rfl
 have co:Cd (t++ #[x,y]) w (gs.size+1) (upd (upd S 0 s₀) gs.size ⟨s₀.E,λ_=>none,false⟩) Sh:=by
  refine ce.push (i:=0) Y (E:=s₀.E) (λb o a0=>by rw [upd_same];exact a0) λb hb z a cp ct cw=>?_;have hold:touchAt t z=some a:=by
   obtain⟨op,a0,bb⟩:=touch_of cp;rcases getElem?_append_cases a0 with⟨_,cy⟩ | ⟨_,c0⟩
   ·rw [touchAt_of cy];exact bb
   ·rw [(hu op c0).1] at bb;cases bb
  exact fork_knows am ap ci (h.Fg.above _ (Nat.le_refl _)) (bi.kE 0 Y b (by rw [upd_same];exact hb) z a hold ct cw)
 have bn:∀k,k<K->upd (upd S 0 s₀) gs.size ⟨s₀.E,λ_=>none,false⟩ (B.N0+k)=S (B.N0+k):=λk bo=>by rw [upd_ne _ _ (by omega),upd_ne _ _ (by omega)]
 have c1:Fz F B.N0 B.t0 (gs.size+1) (K+1) φ' (upd (upd S 0 s₀) gs.size ⟨s₀.E,λ_=>none,false⟩) (t++ #[x,y]):=by
  refine h.Fg.spawn Y bz (λa az=>?_) (by rw [aq];rfl) (by rw [ac];rfl) (λk bo a4=>?_) am ap
  ·by_cases e:a=0
   ·subst e;rw [f0,ac,b5];rfl
   ·rw [av a e (by omega)]
  ·by_cases e:k=K
   ·subst e;rw [show B.N0+k=gs.size by omega,aq] at a4;exact a4.elim
   ·rw [av _ (by omega) (by omega)] at a4;exact⟨by omega,a4,by rw [bn k (by omega)]⟩
 obtain⟨c2,c3⟩:=bx;obtain⟨c4,c5⟩:=bw;have a2:∀{α:Type} (f:Nat->α) (a b:α),upd (upd f 0 a) gs.size b 0=a:=λf a b=>by rw [upd_ne _ _ (by omega),upd_same]
 have c6:∀s:St,loc (.ph (F.EY K)) s=s:=λs=>by simp [loc,H0,x2]
 refine⟨_,_,_,_,a3,.inl ⟨φ',upd (upd r 0 c2) gs.size c4,upd (upd bt 0 true) gs.size true,upd (upd S 0 s₀) gs.size ⟨s₀.E,λ_=>none,false⟩,Sh,K+1,ay,v,wt',sm,m,q,f,?_,?_⟩⟩
 ·rw [b2];refine⟨by rw [al];exact a7,by rw [al];exact h.lock.push Y (λk p e=>by rw [ac] at e;cases e) b6,by rw [al];exact c1,λa o Z=>?_,by rw [al];exact co,h.H9,h.IP,h.Ja,h.MS,h.Km,h.Kl,h.Ig,(by rw [f0];unfold Fam.EY;split <;> simp),h.wg,h.JE,h.GN,λa az hb=>?_,λk bo a5=>?_,?_,h.tape,h.os,h.output⟩
  ·by_cases e:a=0
   ·subst e;rw [Array.getElem?_push_lt (by simpa using Y)] at Z;simp at Z;subst Z;rw [f0,a2,a2,a2,c6];exact .walk b4.symm (λq=>by rw [x2] at q;cases q) c3
   ·by_cases U:a=gs.size
    ·subst U;have:child=o:=by
      rw [show gs.size=(gs.setIfInBounds 0 g').size by simp,Array.getElem?_push_size] at Z;exact Option.some.inj Z
     subst this;rw [aq,upd_same,upd_same,upd_same];have c7:(gs.size==0)=false:=by rw [beq_eq_false_iff_ne];omega
     rw [c7];exact .walk V (λq=>by cases q) c5
    ·rw [av a e U,upd_ne _ _ U,upd_ne _ _ e,upd_ne _ _ U,upd_ne _ _ e,upd_ne _ _ U,upd_ne _ _ e];have:gs[a]? =some o:=by
      rw [Array.getElem?_push] at Z;simp [U] at Z;simpa [Array.getElem?_setIfInBounds_ne (Ne.symm e)] using Z
     exact h.K4 a o this
  ·rw [al] at az;by_cases e:a=0
   ·subst e;rw [a2] at hb;cases hb
   ·by_cases U:a=gs.size
    ·subst U;rw [upd_same] at hb;cases hb
    ·rw [upd_ne _ _ U,upd_ne _ _ e] at hb;rcases h.blk a (by omega) hb with⟨ag,_⟩ | ⟨⟨k,sv,a6⟩,c8⟩
     ·exact absurd ag e
     ·exact .inr ⟨⟨k,sv,by rw [av a e U];exact a6⟩,c8⟩
  ·by_cases e:k=K
   ·subst e;rw [show B.N0+k=gs.size by omega,aq] at a5;exact a5.elim
   ·rw [av _ (by omega) (by omega)] at a5;rw [bn k (by omega)];exact h.IS k (by omega) a5
  ·rw [a2];exact h.le.trans λb o a0=>hg.ext b o a0
 ·rw [al];refine bV ?_;simp only [sumTo];rw [aq];have a1:=sumTo_upd (upd φ gs.size (.ph (F.start K))) (.ph (F.EY K)) (wt F.n) Y;rw [upd_ne _ _ (by omega),ac] at a1;have dK:=sumTo_upd_out φ (.ph (F.start K)) (wt F.n) (i:=gs.size) (j:=gs.size) (Nat.le_refl _);have dL:wt F.n (.ph (F.start K))=23:=V;have dM:wt F.n (.ph (.Ge K))=5*F.n+85+50*(F.n - K):=V;have dN:wt F.n (.ph (F.EY K))+30<=5*F.n+85+50*(F.n - K):=by
   unfold Fam.EY;split <;> simp only [wt] <;> omega
  show(sumTo gs.size λi=>wt F.n (upd (upd φ gs.size (.ph (F.start K))) 0 (.ph (F.EY K)) i))+_<_;omega
end
theorem Cd.final{t:Trace}{w:World}{N:Nat}{S:Nat->St}{Sh:Nat->Prop}(h:Cd t w N S Sh)(am:0<N){s':St}{fd:Nat}
  (Z:∀b o,s'.E b=some o->w.heap[b]? =some o/\¬Sh b/\∀x a,touchAt t x=some a->Db a.loc=some b->a.write=true->Knows t 0 x)
  (ac:∀b o,s'.H b=some o->w.heap[b]? =some o/\(¬Sh b∨b=fd)/\∀x a,touchAt t x=some a->Db a.loc=some b->Knows t 0 x)
  (hd:∀b,s'.E b≠none->s'.H b=none) (ap:s'.E fd=none):Cd t w N (lone s') (λb=>Sh b/\b≠fd):=by
 have l0:lone s' 0=s':=V;have ln:∀i,i≠0->lone s' i= .quiet:=λi hi=>by simp [lone,hi]
 have Y:∀i b,i≠0->(lone s' i).E b=none:=λi b hi=>by rw [ln i hi];rfl
 have U:∀i b,i≠0->(lone s' i).H b=none:=λi b hi=>by rw [ln i hi];rfl
 refine⟨λi hi=>?_,λa b aq hb al x O=>?_,λi hi b hb=>?_,λb hb=>h.GI b hb.1,h.clean,h.low,λi hi b hb x a O ag=>?_,λi hi b hb x a O ag hw=>?_⟩
 ·by_cases e:i=0
  ·subst e;rw [l0];exact⟨λb o K=>(Z b o K).1,λb o K=>(ac b o K).1,hd⟩
  ·exact⟨λb o K=>(by rw [Y i b e] at K;cases K),λb o K=>(by rw [U i b e] at K;cases K),λb hb=>U i b e⟩
 ·by_cases e:b=0
  ·subst e;rw [U a x al] at O;exact absurd V O
  ·exact⟨U b x e,Y b x e⟩
 ·by_cases e:i=0
  ·subst e;rw [l0];constructor
   ·cases O:s'.H b with
    | none=>rfl
    | some o=>rcases(ac b o O).2.1 with q | q;exact absurd hb.1 q;exact absurd q hb.2
   ·cases O:s'.E b with
    | none=>rfl
    | some o=>exact absurd hb.1 (Z b o O).2.1
  ·exact⟨U i b e,Y i b e⟩
 ·by_cases e:i=0
  ·subst e;obtain⟨o,K⟩:=Im (x:=s'.H b) hb;exact(ac b o K).2.2 x a O ag
  ·rw [U i b e] at hb;exact absurd V hb
 ·by_cases e:i=0
  ·subst e;obtain⟨o,K⟩:=Im (x:=s'.E b) hb;exact(Z b o K).2.2 x a O ag hw
  ·rw [Y i b e] at hb;exact absurd V hb
section
variable {P:Program}{F:Fam}{B:Base}{gs gs':Array Goroutine}{w w':World}{sl:Option (Nat×Nat)}{t:Trace}{φ:Nat->Nx}{r:Nat->Rk}{bt:Nat->Bool}{S:Nat->St}{Sh:Nat->Prop}{j:Nat}{c:Bool}{v wt' sm v₁ wt₁ sm₁:Nat}{m m₁:M4}{q q₁:Nat}{f f₁:Nat->Value}
theorem Inv.over(h:Inv P F B gs w t φ r bt S Sh j c v wt' sm m q f)(cw:∀k v E E',Le E E'->F.msg k v E->F.msg k v E'){g:Goroutine}(hi:gs[0]? =some g)(a6:φ 0= .ph .GH){s₀:St}(bz:CF (S 0) s₀)(hs:Stop P F .GH g s₀)(cy:Mu):
  Iz P F B gs w sl t 0 cy:=by
 classical
 have ac:0<gs.size:=(Array.getElem?_eq_some_iff.1 hi).1;have dK:=h.size;have dL:=h.CY.pos;obtain rfl:c=true:=by
  obtain⟨p,b0,_,hh⟩:=h.main;rw [a6] at b0;cases b0;rcases hh with⟨_,hm⟩ | ⟨e,_⟩
  ·exact hm.elim
  ·exact e
 have dM:j=F.n:=h.CY.cj V;have a7:∀i,i≠0->i<gs.size->∃d,φ i= .gone d:=by
  intro i a8 a0;rcases h.EZ a0 with e | ⟨_,d,hd,_⟩ | ⟨k,Z,c0,_,_⟩
  ·exact absurd e a8
  ·exact⟨d,hd⟩
  ·have:=h.CY.Y5 rfl (.inr (.inr (.inl (by rw [show B.N0+F.n=gs.size by omega,J9];exact a6)))) k Z;rw [← c0,I1 a8 (by omega)] at this;cases U:φ i with
   | gone d=>exact⟨d,rfl⟩
   | ph p=>rw [U] at this;exact this.elim
 obtain⟨g',c1,c2⟩:=hs.law.fin V;have b1:=runT_crowd_go (P:=P) (sl:=sl) (i:=0) hi (show stepG P (0==0) g w=_ from c1 w);have b2:Deaf t 0=0:=by rw [h.Fg.deaf 0 ac,a6];rfl
 have a9:MemOp.ofEvents 0 g.frame.fn g.frame.place #[Fam.CZ (.acquire F.sA)]= #[{g:=0,fn:=g.frame.fn,pos:=g.frame.place,act:= .mark (.acquire F.sA)}]:=by rw [ofEvents_eq];simp [Fam.CZ,MemAct.ofEvent]
 generalize hu:MemOp.ofEvents 0 g.frame.fn g.frame.place #[Fam.CZ (.acquire F.sA)]=u at b1;have al:∀op∈u,op.act.touch? =none/\op.g=0/\op.act.low w.heap.size:=by
  intro op am;rw [← hu,a9] at am;simp at am;subst am;exact⟨V,V,h.Cu.GI F.wg h.H9⟩
 have a1:(t++u)[t.size]? =some {g:=0,fn:=g.frame.fn,pos:=g.frame.place,act:= .mark (.acquire F.sA)}:=by rw [← hu,a9];simp
 have c3:(t++u).heard t.size:=⟨0,by simp [Trace.g?,a1],by rw [deaf_old (Nat.le_refl _)];exact b2⟩;have c4:(t++u).g? t.size=some 0:=by simp [Trace.g?,a1]
 have c5:∀x,B.t0<=x->(t++u).act? x≠some (.mark (.release F.sA)):=PE h.Fg.norel λop am e=>by rw [← hu,a9] at am;simp at am;subst am;cases e
 have bb:∀k,k<F.n->∃ρ,ρ<t.size/\RelBy F.sA t (B.N0+k) ρ/\KE t (S (B.N0+k)).E ρ/\HappensBefore (t++u) ρ t.size:=by
  intro k Z;obtain⟨d,hd⟩:=a7 (B.N0+k) (by omega) (by omega);obtain⟨ρ,a,b,e⟩:=h.Fg.rel k (by omega) (by rw [hd];trivial);have a2:ρ<t.size:=lt_of_act? b.act;refine⟨ρ,a2,b,e,.single (.inr ⟨.marked a2 (.inr (by rw [act?_old a2];exact b.act)) (by rw [act?_of a1]) λz Y ag=>c5 z (by omega),(heard_old a2).2 b.heard,c3⟩)⟩
 have b3:∀{x ρ},Before t x ρ->HappensBefore (t++u) ρ t.size->Knows (t++u) 0 x:=λY ag=>⟨t.size,_,a1,rfl,.inr ((Y.app u).hb ag)⟩;have b4:∀{x k},k<F.n->t.g? x=some (B.N0+k)->t.counts x->Knows (t++u) 0 x:=by
  intro x k Z hg ap;obtain⟨ρ,Y,ag,_,az⟩:=bb k Z;have hle:x<=ρ:=Nat.le_of_not_lt λav=>ag.after x av hg ap;refine b3 (ρ:=ρ) ?_ az;rcases Nat.lt_or_ge x ρ with U | U
  ·exact .inr (.single (.inl ⟨U,_,hg,ag.g⟩))
  ·exact .inl (by omega)
 have hold:∀{y a},touchAt (t++u) y=some a->touchAt t y=some a:=by
  intro y a U;obtain⟨op,O,be⟩:=touch_of U;rcases getElem?_append_cases O with⟨av,bi⟩ | ⟨_,bn⟩
  ·rw [touchAt_of bi];exact be
  ·rw [(al op bn).1] at be;cases be
 have aq:Cd t w gs.size (upd S 0 s₀) Sh:=h.Cu.ghost ac bz;have bo:Cd (t++u) w gs.size (upd S 0 s₀) Sh:=aq.mute (g:=0) (λop O=>(al op O).2.1) (λop O=>(al op O).1) (λop O=>(al op O).2.2) rfl;let K:Nat->Obj->Prop:=λb o=>s₀.E b=some o∨∃k,k<F.n/\(S (B.N0+k)).E b=some o;have bv:∀b o,K b o->w.heap[b]? =some o:=by
  rintro b o (Y | ⟨k,Z,Y⟩)
  ·exact(aq.fits 0 ac).e b o (by rw [upd_same];exact Y)
  ·exact(h.Cu.fits (B.N0+k) (by omega)).e b o Y
 let E':LH:=λb=>if hb:∃o,K b o then some (Classical.choose hb) else none
 have bw:∀b o,E' b=some o->K b o:=by
  intro b o O;simp only [E'] at O;split at O
  ·rename_i hb;have:=Classical.choose_spec hb;rw [Option.some.inj O] at this;exact this
  ·cases O
 have b5:∀b o,K b o->E' b=some o:=by
  intro b o O;have hb:∃o,K b o:=⟨o,O⟩;have c6:E' b=some (Classical.choose hb):=by simp only [E'];rw [dif_pos hb]
  have e2:=bv b _ (Classical.choose_spec hb);rw [bv b o O] at e2;rw [c6,← Option.some.inj e2]
 have b6:Le s₀.E E':=λb o O=>b5 b o (.inl O);have c7:∀k,k<F.n->Le (S (B.N0+k)).E E':=λk Z b o O=>b5 b o (.inr ⟨k,Z,O⟩);have ca:∀b o,K b o->¬Sh b:=by
  rintro b o (Y | ⟨k,Z,Y⟩) hb
  ·have:=(aq.sh 0 ac b hb).2;rw [upd_same,Y] at this;cases this
  ·have:=(h.Cu.sh (B.N0+k) (by omega) b hb).2;rw [Y] at this;cases this
 have bx:E' F.fd=none:=by
  cases U:E' F.fd with
  | none=>rfl
  | some o=>exact absurd h.Ja (ca _ _ (bw _ _ U))
 have cc:∀b,E' b≠none->s₀.H b=none:=by
  intro b hb;obtain⟨o,O⟩:=Im hb;rcases bw b o O with Y | ⟨k,Z,Y⟩
  ·have:=(aq.fits 0 ac).d b (by rw [upd_same,Y];simp)
   rwa [upd_same] at this
  ·cases U:s₀.H b with
   | none=>rfl
   | some o'=>
    have:=(aq.hh 0 (B.N0+k) ac (by omega) (by omega) b (by rw [upd_same,U];simp)).2;rw [upd_ne _ _ (by omega),Y] at this;cases this
 have c8:∀k,k<F.n->F.msg k (f k) E':=λk Z=>by
  obtain⟨d,hd⟩:=a7 (B.N0+k) (by omega) (by omega);exact cw _ _ _ _ (c7 k Z) (h.IS k (by omega) (by rw [hd];trivial))
 have c9:=c2 E' f b6 bx cc c8;have ce:((gs.map (woken P g g' w)).setIfInBounds 0 g').size=gs.size:=by simp
 have dd:Cd (t++u) w gs.size (lone ⟨E',F.J5 s₀.H f,false⟩) (λb=>Sh b/\b≠F.fd):=by
  refine bo.final ac (λb o O=>?_) (λb o O=>?_) (λb hb=>?_) bx
  ·have Z:=bw b o O;refine⟨bv b o Z,ca b o Z,λx a U aw hw=>?_⟩;rcases Z with Y | ⟨k,Z,Y⟩
   ·exact bo.kE 0 ac b (by rw [upd_same,Y];simp) x a U aw hw
   ·obtain⟨ρ,_,_,dn,az⟩:=bb k Z;exact b3 (dn b (by rw [Y];simp) x a (hold U) aw hw) az
  ·simp only [Fam.J5] at O;split at O
   ·rename_i e;subst e;cases O;refine⟨h.GN,.inr V,λx a U aw=>?_⟩;rcases h.Fg.GN x a (hold U) aw with z | ⟨k,Z,hg,ap,_⟩
    ·exact(z 0 ac (.inl V)).app u
    ·exact b4 (by omega) hg ap
   ·refine⟨(aq.fits 0 ac).h b o (by rw [upd_same];exact O),.inl λhb=>?_,λx a U aw=>bo.kH 0 ac b (by rw [upd_same,O];simp) x a U aw⟩;have:=(aq.sh 0 ac b hb).1;rw [upd_same,O] at this;cases this
  ·simp only [Fam.J5];rw [if_neg (λe=>by subst e;exact hb bx)];exact cc b hb
 have dJ:∀i g,i≠0->gs[i]? =some g->∃q d,φ i= .gone d/\QuitsD P q d g:=by
  intro i g hi hg;obtain⟨d,hd⟩:=a7 i hi (Array.getElem?_eq_some_iff.1 hg).1;have hs:=h.K4 i g hg;rw [hd] at hs;generalize U:Nx.gone d=x at hs;generalize loc x (S i)=s at hs;generalize r i=ρ at hs;generalize bt i=dN at hs;cases hs with
  | gone _ a3=>cases U;exact⟨_,_,hd,a3⟩
  | _=>cases U
 have a3:∀i,∃q,∀g,i≠0->gs[i]? =some g->QuitsD P q (Deaf t i) g:=by
  intro i;by_cases hi:i≠0/\i<gs.size
  ·obtain⟨q,d,Y,ag⟩:=dJ i _ hi.1 (Array.getElem?_eq_getElem hi.2);refine⟨q,λg _ hg=>?_⟩;rw [Array.getElem?_eq_getElem hi.2] at hg;obtain rfl:=Option.some.inj hg;rw [h.Fg.deaf i hi.2,Y];exact ag
  ·exact⟨0,λg Y ag=>absurd ⟨Y,(Array.getElem?_eq_some_iff.1 ag).1⟩ hi⟩
 have ci:∀i,i≠0->Deaf (t++u) i=Deaf t i:=λi hi=>Deaf_other t (Ne.symm hi) u λop O=>(al op O).2.1;refine⟨_,_,_,_,b1,.inr ⟨λi=>Classical.choose (a3 i),λb=>Sh b/\b≠F.fd,g',⟨E',F.J5 s₀.H f,false⟩,⟨by simp [ac],⟨λi x a8 U=>?_,λi a0=>?_⟩,by rw [ce];exact dd,λx a4 hg ay ap=>?_,?_⟩,c9,?_,h.tape,h.os,h.output⟩⟩
 ·have ay:i≠0:=by omega
  rw [Array.getElem?_setIfInBounds_ne (Ne.symm ay),Array.getElem?_map] at U;obtain⟨o',bi,rfl⟩:=Option.map_eq_some_iff.1 U;have co:=Classical.choose_spec (a3 i) o' ay bi;rw [woken_quitsD co,ci i ay];exact co
 ·rw [ce] at a0;rw [ci i (by omega)];exact h.Fg.above i a0
 ·have:=PV h.Fg.over (u:=u) (N0:=B.N0) (N:=gs.size) (λop O=> .inl (al op O).2.1) x a4 hg ay ap;rcases this with z | ⟨z1,dO⟩
  ·exact z
  ·have a5:x<t.size:=by
    rcases Nat.lt_or_ge x t.size with z | z
    ·exact z
    ·obtain⟨op,O,cp⟩:=Option.map_eq_some_iff.1 hg;rcases getElem?_append_cases O with⟨av,_⟩ | ⟨_,bn⟩
     ·exact av
     ·rw [(al op bn).2.1] at cp;exact absurd cp.symm ay
   obtain⟨dQ,z,dR,dS,dT⟩:=b4 (k:=a4 - B.N0) (by omega) (by rw [← g?_old (u:=u) a5,hg];congr 1;omega) ((counts_old a5).1 ap);refine⟨t.size,c4,?_⟩;obtain⟨ρ,Y,ag,_,az⟩:=bb (a4 - B.N0) (by omega);have ct:t.g? x=some (B.N0+(a4 - B.N0)):=by rw [← g?_old (u:=u) a5,hg];congr 1;omega
   have hle:x<=ρ:=Nat.le_of_not_lt λav=>ag.after x av ct ((counts_old a5).1 ap);have hb:Before t x ρ:=by
    rcases Nat.lt_or_ge x ρ with U | U
    ·exact .inr (.single (.inl ⟨U,_,ct,ag.g⟩))
    ·exact .inl (by omega)
   exact(hb.app u).hb az
 ·have:=Deaf_own t 0 g.frame.fn g.frame.place #[Fam.CZ (.acquire F.sA)];rw [hu] at this;rw [this,b2];rfl
 ·exact(h.le.trans λb o O=>bz.ext b o O).trans b6
end
theorem LN.busy{m:M4}{h rn rs v t s d x:Nat}(Z:LN m 0 h rn rs v t s d x)(hs:1<=s):1<=h+rn+rs+v+t+d+x:=by
 obtain⟨O,ac,ag⟩:=Z;cases hm:m.s with
 | true=>have:=(ag hm).2.2.2.1;rw [← O] at this;omega
 | false=>
  obtain⟨a1,am,K,ap,al⟩:=ac hm;cases Y:m.l with
  | true=>rw [Y] at O;simp at O;omega
  | false=>
   cases U:m.k with
   | true=>rw [U] at K;simp at K;omega
   | false=>
    rw [U] at K;simp at K;have:=al Y U (by omega);omega
section
variable {P:Program}{F:Fam}{B:Base}{gs gs':Array Goroutine}{w w':World}{sl:Option (Nat×Nat)}{t:Trace}{φ:Nat->Nx}{r:Nat->Rk}{bt:Nat->Bool}{S:Nat->St}{Sh:Nat->Prop}{j:Nat}{c:Bool}{v wt' sm v₁ wt₁ sm₁:Nat}{m m₁:M4}{q q₁:Nat}{f f₁:Nat->Value}
theorem Xe{N:Nat}{f:Nat->Nat}(h:1<=sumTo N f):∃i,i<N/\1<=f i:=by
 induction N with
 | zero=>simp [sumTo] at h
 | succ N K=>
  simp only [sumTo] at h;by_cases e:1<=f N
  ·exact⟨N,by omega,e⟩
  ·obtain⟨i,hi,O⟩:=K (by omega);exact⟨i,by omega,O⟩
theorem Inv.runs(h:Inv P F B gs w t φ r bt S Sh j c v wt' sm m q f):∃(i:Nat) (g:Goroutine),gs[i]? =some g/\g.status= .running:=by
 have bx:=h.CY.pos;have bz:=h.size;have ap:0<gs.size:=by omega
 have ac:∀i (hi:i<gs.size) p,φ i= .ph p->bt i=true->∃(i:Nat) (g:Goroutine),gs[i]? =some g/\g.status= .running:=by
  intro i hi p O hb;refine⟨i,_,Array.getElem?_eq_getElem hi,?_⟩;have hs:=h.K4 i _ (Array.getElem?_eq_getElem hi);rw [O,hb] at hs;generalize loc (Nx.ph p) (S i)=s at hs;generalize a5:Nx.ph p=x at hs;generalize a6:true=b at hs;generalize gs[i]=o at hs ⊢;generalize r i=ρ at hs;cases hs with
  | walk _ _ aq=>exact aq.running
  | blk _ _ _=>cases a6
  | gone _ _=>cases a5
 obtain⟨p0,Z,a7,hh⟩:=h.main;cases av:bt 0 with
 | true=>exact ac 0 ap p0 Z av
 | false=>
  obtain⟨O,b0⟩:φ 0= .ph .FZ/\sm=0:=by
   rcases h.blk 0 ap av with⟨_,a,b⟩ | ⟨⟨k,sv,a⟩,_⟩
   ·exact⟨a,b⟩
   ·rw [Z] at a;cases a;cases a7
  rw [O] at Z;cases Z;obtain⟨rfl⟩:c=true:=by
   rcases hh with⟨_,hm⟩ | ⟨e,_⟩
   ·exact hm.elim
   ·exact e
  have aq:j=F.n:=h.CY.cj V;have aw:=h.CY.mode;rw [if_pos rfl,show B.N0+F.n=gs.size by omega,J9,O] at aw;obtain⟨a8,_,_⟩:=aw;have ag:=h.CY.cnt;have ay:CR true gs.size φ 0= .ph (.F8 [] []):=by simp [CR];omega
  rw [ay] at ag;simp only [pend,Nat.add_zero] at ag;have hex:∃i,i<gs.size+1/\1<=cU (CR true gs.size φ i)+cL (CR true gs.size φ i)+cS (CR true gs.size φ i):=by
   apply Classical.byContradiction;intro a9;have al:∀i,i<gs.size+1->cU (CR true gs.size φ i)=0/\cL (CR true gs.size φ i)=0/\cS (CR true gs.size φ i)=0:=λi hi=>by
    have:¬1<=cU (CR true gs.size φ i)+cL (CR true gs.size φ i)+cS (CR true gs.size φ i):=λq=>a9 ⟨i,hi,q⟩;omega
   have zero:∀f:Nat->Nat,(∀i,i<gs.size+1->f i=0)->sumTo (gs.size+1) f=0:=λf bb=>by
    have:=sumTo_le (f:=f) (c:=0) (j:=gs.size+1) (λi hi=>by rw [bb i hi];exact Nat.le_refl _);omega
   have z1:=zero (λi=>cU (CR true gs.size φ i)) λi hi=>(al i hi).1;have b1:=zero (λi=>cL (CR true gs.size φ i)) λi hi=>(al i hi).2.1;have b2:=zero (λi=>cS (CR true gs.size φ i)) λi hi=>(al i hi).2.2;simp only [Bool.toNat_true] at a8 ag;omega
  obtain⟨i,hi,K⟩:=hex;have az:i≠0:=by rintro rfl;rw [ay] at K;simp [cU,cL,cS] at K
  have be:i≠gs.size:=by rintro rfl;rw [J9,O] at K;simp [cU,cL,cS] at K
  rw [I1 az be] at K;have am:i<gs.size:=by omega
  cases a0:φ i with
  | gone d=>rw [a0] at K;simp [cU,cL,cS] at K
  | ph pi=>
   cases a1:bt i with
   | true=>exact ac i am pi a0 a1
   | false=>
    obtain⟨⟨k,sv,bi⟩,bn⟩:(∃k sv,φ i= .ph (.lk k (.CQ sv)))/\q=0:=by
     rcases h.blk i am a1 with⟨e,_⟩ | e
     ·exact absurd e az
     ·exact e
    subst bn;have bo:1<=Sg pQ gs.size φ:=by
     have:=le_sumTo (f:=λa=>Dx pQ (φ a)) am;have e:Dx pQ (φ i)=1:=by rw [bi];rfl
     simp only [e] at this;exact this
    have hb:=h.lock.ln.busy bo;have bv:1<=Sg (λp=>(((((pH p+pN p)+pZ p)+pV p)+pT p)+pD p)+pX p) gs.size φ:=by
     rw [J6,J6,J6,J6,J6,J6];exact hb
    obtain⟨a,a2,U⟩:=Xe bv;cases Y:φ a with
    | gone d=>rw [Y] at U;simp [Dx] at U
    | ph bw=>
     rw [Y] at U;cases bw <;> (try (simp [Dx] at U;done))
     rename_i k' l;cases a3:bt a with
     | true=>exact ac a a2 _ Y a3
     | false=>
      rcases h.blk a a2 a3 with⟨e,a4,_⟩ | ⟨⟨b3,b4,e⟩,_⟩
      ·subst e;rw [Y] at a4;cases a4
      ·rw [Y] at e;cases e;simp [Dx,pH,pN,pZ,pV,pT,pD,pX] at U
theorem Inv.step(h:Inv P F B gs w t φ r bt S Sh j c v wt' sm m q f)(al:∀k v E E',Le E E'->F.msg k v E->F.msg k v E'):
  ∃gs' w' aq u,stepT P (crowd gs w sl)=(.next (crowd gs' w' aq),u)/\
  ((∃φ' r' a4 S' be am bi v' bn sm' m' q' bo,Inv P F B gs' w' (t++u) φ' r' a4 S' be am bi v' bn sm' m' q' bo/\Mu.lt (mu F gs'.size φ' m' q' r' a4) (mu F gs.size φ m q r bt))∨Q3 P F B gs' w' (t++u)):=by
 have ci:=h.size;have bv:∀x∈gs,awake x:=by
  intro x K;obtain⟨i,hi,rfl⟩:=Array.mem_iff_getElem.1 K;exact(h.K4 i _ (Array.getElem?_eq_getElem hi)).awake
 obtain⟨i,g,d,aq,hi,a5,bw⟩:=crowd_pick (P:=P) (w:=w) (sl:=sl) bv h.runs
 suffices Iz P F B gs (w.at d) aq t i (mu F gs.size φ m q r bt) by
  obtain⟨gs',w',bx,u,av,aw⟩:=this;exact⟨gs',w',bx,u,bw.trans av,aw⟩
 have O:=h.at_ d;have a6:i<gs.size:=(Array.getElem?_eq_some_iff.1 hi).1;have hs:=h.K4 i g hi;generalize K:φ i=x at hs;generalize a7:r i=ρ at hs;generalize hb:bt i=b at hs;generalize a8:loc x (S i)=s at hs;cases hs with
 | blk _ _ _=>cases a5
 | gone hm a9=>exact O.slip hi a5 K a7 hm a9
 | @walk p _ _ _ hm a9 ay=>
  have bz:JQ (Stop P F p) g s∨∃f,ρ= .node f/\(∀w,Fits s w->∃g' s' w' es,stepG P (i==0) g w= .go g' w' es/\Jr P (i==0) (JQ (Stop P F p)) (f w) g' s'/\Fits s' w'/\Fr s w s' w'/\(∀e∈es,Ev s w w' e)/\(s= .quiet->s'= .quiet/\w'=w/\es= #[])):=by
   cases ρ with
   | leaf=>exact .inl ay
   | node f=>
    rcases ay with q | ⟨_,q⟩
    ·exact .inl q
    ·exact .inr ⟨f,V,q⟩
  rcases bz with⟨s₀,hg,U⟩ | ⟨f0,rfl,hgo⟩
  ·subst a8;have Y:Fam.Da p=false->CF (S i) s₀:=λe=>by simpa [loc,H0,e] using hg
   by_cases c1:∃k l,p= .lk k l
   ·obtain⟨k,l,rfl⟩:=c1;by_cases c2:l= .F1
    ·subst c2;exact O.store hi K hm (Y V) U
    by_cases c3:(∃sv,l= .CQ sv)/\q=0
    ·obtain⟨⟨sv,rfl⟩,c3⟩:=c3;exact O.block hi K hb hm (Y V) U (.inr ⟨⟨k,sv,V⟩,c3⟩)
    exact O.Cg al hi K c2 hm (Y V) U λsv e az=>c3 ⟨⟨sv,e⟩,az⟩
   by_cases c2:∃am,p= .Ge am
   ·obtain⟨am,rfl⟩:=c2;have ac:i=0:=by simpa [Fam.CW] using hm
    subst ac;exact O.spawn hi K (Y V) U
   by_cases c3:p= .GH
   ·subst c3;have ac:i=0:=by simpa [Fam.CW] using hm
    subst ac;exact O.over al hi K (Y V) U _
   by_cases c4:p= .FZ/\sm=0
   ·obtain⟨rfl,c4⟩:=c4;exact O.block hi K hb hm (Y V) U (.inl ⟨V,c4⟩)
   have b0:∃a0,a0<gs.size+c.toNat/\CR c gs.size φ a0= .ph p:=by
    by_cases e:i=0
    ·subst e;cases c with
     | false=>exact⟨0,by omega,by rw [Jw];exact K⟩
     | true=>exact⟨gs.size,by simp,by rw [J9];exact K⟩
    ·exact⟨i,by omega,by rw [I1 e (by omega)];exact K⟩
   have b1:p= .FZ->sm=1:=by
    rintro rfl;have ac:i=0:=by simpa [Fam.CW] using hm
    subst ac;obtain⟨p0,ag,_,hh⟩:=h.main;rw [K] at ag;cases ag;obtain rfl:c=true:=by
     rcases hh with⟨_,hm⟩ | ⟨e,_⟩
     ·exact hm.elim
     ·exact e
    have ay:=h.CY.cj V;have bb:=h.CY.mode;rw [if_pos rfl,show B.N0+F.n=gs.size by omega,J9,K] at bb;obtain⟨co,_⟩:=bb;have:sm≠0:=λq=>c4 ⟨rfl,q⟩;omega
   obtain⟨a0,b2,b3⟩:=b0;have ap:(∀k,p≠ .HB k)/\p≠ .Hh/\(∀a1 vs,p≠ .F8 a1 vs)/\p≠ .H2:=by
    by_cases e:i=0
    ·subst e;have a2:=h.mn;rw [K] at a2;obtain⟨p0,ag,_,hh⟩:=h.main;rw [K] at ag;cases ag;refine⟨λk e=>?_,λe=>?_,λa1 vs e=>?_,λe=>?_⟩
     ·subst e;rcases hh with⟨_,Z⟩ | ⟨_,Z⟩ <;> exact Z.elim
     ·subst e;exact a2.1 V
     ·subst e;rcases hh with⟨e,Z⟩ | ⟨_,Z⟩
      ·have:=Z.2;rw [e] at this;cases this
      ·exact Z.elim
     ·subst e;exact a2.2 V
    ·rcases h.EZ a6 with az | ⟨_,d,hd,_⟩ | ⟨k',cp,ct,_,hw⟩
     ·exact absurd az e
     ·rw [K] at hd;cases hd
     ·rw [K] at hw;refine⟨λk e=>?_,λe=>?_,λa1 vs e=>?_,λe=>?_⟩ <;> subst e
      ·exact absurd hw.2 Bool.false_ne_true
      all_goals exact hw.elim
   obtain⟨v',w',sm',es,cw,b4⟩:=h.CY.enabled b2 b3 ap.1 (λk e=>c2 ⟨k,e⟩) ap.2.1 ap.2.2.1 ap.2.2.2 b1 c3 λk l e=>c1 ⟨k,l,e⟩;exact O.act al hi K hm hg U b4
  ·subst a8;have b5:Fits (loc (.ph p) (S i)) (w.at d):=by
    have:=O.Cu.fits i a6;unfold loc;split
    ·exact⟨λb o a3=>(by cases a3),λb o a3=>(by cases a3),λb hb=>V⟩
    ·exact this
   obtain⟨g',s',w',es,av,aw,b6,ca,cc,ce⟩:=hgo (w.at d) b5;exact O.own al hi K hm av aw b6 ca cc ce (by rw [a7];exact⟨f0,_,rfl,rfl⟩)
theorem Inv.run(Z:∀k v E E',Le E E'->F.msg k v E->F.msg k v E'):∀(K:Mu) (gs:Array Goroutine) (w:World) (sl:Option (Nat×Nat)) (t:Trace) (φ:Nat->Nx) (r:Nat->Rk) (bt:Nat->Bool) (S:Nat->St) (Sh:Nat->Prop) (j:Nat) (c:Bool) (v wt' sm:Nat) (m:M4) (q:Nat) (f:Nat->Value),
  mu F gs.size φ m q r bt=K->Inv P F B gs w t φ r bt S Sh j c v wt' sm m q f->∃n gs' w' O U,runNT P n (crowd gs w sl) t=(.next (crowd gs' w' O),U)/\Q3 P F B gs' w' U:=by
 intro K
 induction K using Mu.wf.induction with
 | _ K ac=>
  intro gs w sl t φ r bt S Sh j c v wt' sm m q f ag h;obtain⟨gs',w',O,u,Y,hh⟩:=h.step (sl:=sl) Z;rcases hh with⟨φ',r',al,S',am,ap,aq,v',av,sm',m',q',aw,ay,az⟩ | a0
  ·obtain⟨n,a1,a2,a3,a4,a5,a6⟩:=ac _ (ag▸az) gs' w' O (t++u) φ' r' al S' am ap aq v' av sm' m' q' aw V ay;exact⟨n+1,a1,a2,a3,a4,Nj Y a5,a6⟩
  ·exact⟨1,gs',w',O,t++u,Nj Y V,a0⟩
end
def J3(H:LH)(a b c:Nat):LH:=λx=>if x=c then none else if x=b then none else if x=a then none else H x
theorem Yw{P:Program}(F:Fam){Q:GP}{g:Goroutine}{s:St}{f₀:Nat->Value}(aw:1<=F.n)(a5:F.n<134217728)(a6:∀k v E E',Le E E'->F.msg k v E->F.msg k v E')
  (ay:F.mu≠F.wg) (az:F.fd≠F.wg) (a0:F.fd≠F.mu) (ac:s.H F.wg=some (F.Ib 0 0)) (ag:s.H F.mu=some (F.Ie 0 0)) (am:s.H F.fd=some (F.IM f₀))
  (a7:Way P true (Stop P F (.GK 0)) g ⟨s.E,J3 s.H F.wg F.mu F.fd,false⟩) (a8:∀g s,F.fin g s->(Hd P).ok Q g s):(Hd P).ok Q g s:=by
 intro gs w sl t q Sh hC;have Y:0<gs.size:=(Array.getElem?_eq_some_iff.1 hC.main).1;let s1:St:={s with H:=λb=>if b=F.wg then none else s.H b}
 let s2:St:={s with H:=λb=>if b=F.mu then none else s1.H b}
 have a1:lone s 0=s:=V;have c1:Cd t w gs.size (upd (lone s) 0 s1) (λb=>Sh b∨b=F.wg):=by
  have:=hC.Cu.share (i:=0) Y (b₀:=F.wg) (o₀:=F.Ib 0 0) (by rw [a1];exact ac);exact this
 have c2:Cd t w gs.size (upd (upd (lone s) 0 s1) 0 s2) (λb=>(Sh b∨b=F.wg)∨b=F.mu):=by
  have:=c1.share (i:=0) Y (b₀:=F.mu) (o₀:=F.Ie 0 0) (by rw [upd_same];simp [s1,ay,ag]);refine this.congr λi hi=>?_;by_cases e:i=0
  ·subst e;simp only [upd_same];exact⟨V,V⟩
  ·have h:∀(f:Nat->St) (x:St),upd f 0 x i=f i:=λf x=>upd_ne f x e;constructor <;> simp only [h]
 have c3:Cd t w gs.size (upd (upd (upd (lone s) 0 s1) 0 s2) 0 ⟨s.E,J3 s.H F.wg F.mu F.fd,false⟩) (λb=>((Sh b∨b=F.wg)∨b=F.mu)∨b=F.fd):=by
  have:=c2.share (i:=0) Y (b₀:=F.fd) (o₀:=F.IM f₀) (by rw [upd_same];simp [s2,s1,az,a0,am]);refine this.congr λi hi=>?_;by_cases e:i=0
  ·subst e;simp only [upd_same];exact⟨V,V⟩
  ·have h:∀(f:Nat->St) (x:St),upd f 0 x i=f i:=λf x=>upd_ne f x e;constructor <;> simp only [h]
 have Z:∀b,s.H b≠none->∀x a,touchAt t x=some a->Db a.loc=some b->Knows t 0 x:=λb hb=>hC.Cu.kH 0 Y b (by rw [a1];exact hb);have ap:=hC.Cu.fits 0 Y;obtain⟨ρ,a9⟩:=a7;let φ:Nat->Nx:=λi=>if i=0 then .ph (.GK 0) else .gone (Deaf t i)
 have z:∀f:Nx->Nat,(∀d,f (.gone d)=0)->f (.ph (.GK 0))=0->(sumTo gs.size λi=>f (φ i))=0:=by
  intro f a2 a3;have:=sumTo_le (f:=λi=>f (φ i)) (c:=0) (j:=gs.size) λi _=>by
   show f (φ i)<=0;by_cases e:i=0
   ·simp [φ,e,a3]
   ·simp [φ,e,a2]
  omega
 have O:∀f:LP->Nat,Sg f gs.size φ=0:=λf=>z (Dx f) (λ_=>rfl) rfl;have bb:∀i,(upd (upd (upd (lone s) 0 s1) 0 s2) 0 ⟨s.E,J3 s.H F.wg F.mu F.fd,false⟩) i=if i=0 then⟨s.E,J3 s.H F.wg F.mu F.fd,false⟩ else .quiet:=by
  intro i;by_cases e:i=0
  ·subst e;rw [upd_same];rfl
  ·rw [upd_ne _ _ e,upd_ne _ _ e,upd_ne _ _ e];simp [lone,e]
 have be:F.Ib (Fam.word 0 0) (0:Nat)=F.Ib 0 0:=by simp [Fam.word]
 have bi:F.Ie M4.zero.num (0:Nat)=F.Ie 0 0:=by simp [M4.num,M4.zero]
 have a4:∀i,i<gs.size->(i=0∨gs.size<=i)->i=0:=λi hi al=>by omega
 have bn:Inv P F ⟨gs.size,t.size,s.E,w⟩ gs w t φ (λi=>if i=0 then ρ else chain (q i)) (λ_=>true) (upd (upd (upd (lone s) 0 s1) 0 s2) 0 ⟨s.E,J3 s.H F.wg F.mu F.fd,false⟩) (λb=>((Sh b∨b=F.wg)∨b=F.mu)∨b=F.fd) 0 false 0 0 0 M4.zero 0 f₀:=by
  refine⟨?_,⟨?_,λi hi=>?_⟩,⟨λi hi=>?_,λi hi=>hC.lv.above i hi,λx a b K hb aq U i hi al=>?_,λx a b K hb aq U=>?_,λx a K hb=> .inl λi hi al=>?_,λx g hg bo bv=> .inl (hC.over x g hg bo bv),λx K e=>?_,Nat.le_refl _,λk U=>by omega⟩,λi g' av=>?_,c3,.inl (.inl (.inr V)),.inl (.inr V),.inr V,ay,az,a0,a5,by simp [φ],?_,?_,ap.h _ _ am,λi hi hb=>(by cases hb),λk U=>(by omega),?_,V,.refl _,V⟩
  ·rw [Jw];refine⟨Y,aw,by omega,by simp,Nat.zero_le _,by simp,⟨.GK 0,V,V,aw,V⟩,λi a2 a3=>?_,λk U=>by omega,by simp,?_,by simp [φ,pend],?_,λk U=>by omega,.nil,λk U=>by cases U⟩
   ·have:i≠0:=by omega
    simp [φ,this,Om]
   ·have:=z cU (λ_=>rfl) rfl;simp only [Bool.toNat_false,Nat.add_zero];rw [this];simp [φ,pend]
   ·simp only [Bool.false_eq_true,if_false,En];exact⟨z cL (λ_=>V) V,z cS (λ_=>V) V,trivial,trivial,trivial⟩
  ·rw [O,O,O,O,O,O,O,O];simp [LN,M4.zero]
  ·by_cases e:i=0
   ·simp [φ,e,OY]
   ·simp [φ,e,OY]
  ·by_cases e:i=0
   ·subst e;simp [φ,Gb];exact hC.hears
   ·simp [φ,e,Gb]
  ·obtain rfl:=a4 i hi al;rcases aq with rfl | rfl
   ·exact Z _ (by rw [ac];simp) x a K hb
   ·exact Z _ (by rw [ag];simp) x a K hb
  ·rcases aq with rfl | rfl
   ·exact Z _ (by rw [ac];simp) x a K hb
   ·exact Z _ (by rw [ag];simp) x a K hb
  ·obtain rfl:=a4 i hi al;exact Z _ (by rw [am];simp) x a K hb
  ·have:=lt_of_act? e;have c4:t.size<=x:=K;omega
  ·rw [bb];by_cases e:i=0
   ·subst e;rw [hC.main] at av;obtain rfl:=Option.some.inj av;simp only [if_true,φ];exact .walk V (λh=>by cases h) a9
   ·have hm:(i==0)=false:=by rw [beq_eq_false_iff_ne];exact e
    simp only [e,if_false,φ];exact .gone hm (hC.lv.old i g' (by omega) av)
  ·show w.heap[F.wg]? =_;rw [be];exact ap.h _ _ ac
  ·show w.heap[F.mu]? =_;rw [bi];exact ap.h _ _ ag
  ·rw [upd_same];exact Le.refl _
 obtain⟨n,gs',w',bw,bx,bz,q',b0,g',s',b1,b2,hle,b3,b4,b5⟩:=Inv.run a6 _ _ _ sl _ _ _ _ _ _ _ _ _ _ _ _ _ _ V bn;obtain⟨n2,b6,w2,ca,t2,cc,ce,g2,ci,k1,co,cp,ct,cw,cy,c0⟩:=a8 g' s' b2 gs' w' bw bx q' b0 b1;refine⟨n+n2,b6,w2,ca,t2,cc,ce,g2,ci,?_,co,cp,λb o h=>ct b o (hle b o h),cw.trans b3,b4.trans cy,c0.trans b5⟩;rw [runNT_add,bz];exact k1
end Pal
namespace Pal
open Go Go.Conc
variable {ops:Ao_}{i:Nat}{rest:List Nat}{d:Option Tmp}{f:FuncId}{args:Array Operand}{ats:Array TypeId}{ty:TypeId}{pp:String}{af:Ae_}{g:On_}{vs:Lv_}{p q:Ph}
section
variable {P:Program}{F:Fam}{J:Judge P}{Q:GP}{n:Nat}{L L':Env}{ds:Ld_}{k:Li_}{cs:Lf_}{s s':St}{b:Frame}{main:Bool}
theorem BW(hb:b.roundOf=none)(T:Av_)(todo:Li_):fr b T ds todo=b.at ⟨T,ds⟩ todo:=by simp [fr,Frame.at,hb]
theorem Ln(hb:b.roundOf=none)(T:Av_)(todo:Li_):EM b T ds todo={b.at ⟨T,ds⟩ todo with mode:= .returning}:=by simp [EM,Frame.at,hb]
theorem Fc(T:Av_)(ds:Ld_)(x:Operand):(⟨T,ds⟩:Act).eval x=BK T x:=by cases x <;> rfl
theorem EG(T:Av_)(ds:Ld_)(d:Option Tmp)(v:Value):(⟨T,ds⟩:Act).put d v=⟨C7 T d v,ds⟩:=by cases d <;> rfl
def JO(J:Judge P)(Q:GP)(b:Frame)(n:Nat)(L:Env)(ds:Ld_)(cs:Lf_)(s:St):Prop:=
 ∀T,Has n L T->∀todo,J.ok Q (G (EM b T ds todo) cs) s
theorem JL.out(K:b.roundOf=none)(h:JO J Q b n L ds cs s):JL J Q b n L ds [] cs s:=λT O=>
 Judge.DC V (λw=>by simp [G,stepG,stepG.exec,fr,EM,K]) (h T O [])
theorem HV(K:b.roundOf=none)(h:JO J Q b n L ds cs s):JL J Q b n L ds (.code .ret::k) cs s:=λT O=>
 Judge.DC V (λw=>by simp [G,stepG,stepG.exec,fr,EM,K]) (h T O (.code .ret::k))
theorem JO.leave{c:Frame}{v:Value}(O:b.kind= .normal)(K:BH P b.fn L n s v)(h:J.ok Q (G (c.finish v) cs) s):JO J Q b n L [] (c::cs) s:=λT U todo=>by
 obtain⟨fn,Y,K⟩:=K
 exact Judge.leave O Y (K T U) h
theorem JO.leaveD{c:Frame}{fn:Func}(O:b.kind= .deferred)(U:P.funcs[b.fn]? =some fn)(K:fn.results= #[])(Y:c.mode= .returning∨c.mode= .panicking [goexitEntry])(h:J.ok Q (G c cs) s):JO J Q b n L [] (c::cs) s:=λT ac todo=>by
 refine Judge.DC rfl (λw=>?_) h
 have Z:=results_none K T P w
 have e2:=λ(x:Array Event)=>events_results_none (P:=P) (w:=w) K T x
 rcases Y with e | e <;> simp [G,stepG,unwind,EM,U,Z,e2,doReturn,O,GStep.after,seen_none,e,goexitEntry]
theorem JO.enter{f:FuncId}{fn:Func}{c:Code}{vs:Lv_}(O:b.roundOf=none)(Y:P.funcs[f]? =some fn)(Z:(fn.name== "runtime.NumGoroutine")=false)(hb:fn.body=some c)(al:vs.length<=fn.ntmps)
  (h:∀T,Has n L T->∀todo,JL J Q (baseD f) fn.ntmps (GG 0 vs) [] [.code c] (EM b T ds todo::cs) s):JO J Q b n L (dcall f vs.toArray::ds) cs s:=λT ac todo=>by
 refine Judge.DC rfl (λw=>?_) (h T ac todo (vs.toArray++Array.replicate (fn.ntmps - vs.length) undef) ⟨by simp;omega,λt v ht=>?_⟩)
 ·rw [Ln O,stepG_unwind_enter (a:=⟨T,dcall f vs.toArray::ds⟩) rfl Y Z hb,Ln O]
  rw [BW (b:=baseD f) rfl];simp
 ·obtain⟨_,K⟩:=JV ht;have ag:t<vs.length:=by
   rcases Nat.lt_or_ge t vs.length with U | U
   ·exact U
   ·simp at K;have:=(List.getElem?_eq_some_iff.1 K).1;omega
  rw [Array.getD_eq_getD_getElem?,Array.getElem?_append_left (by simpa using ag)];simp at K;simp [K]
theorem JL.defer{ops:Ao_}{i:Nat}{rest:List Nat}{d:Option Tmp}{f:FuncId}{args:Array Operand}{ats:Array TypeId}{ty:TypeId}{p:String}{af:Ae_}{g:On_}{vs:Lv_}
  (U:ops[i]? =some ⟨d,.defer ⟨.value (.func f),args,ats⟩,ty,p,af,g⟩) (Y:b.roundOf=none) (hw:AY L ops ⟨d,.defer ⟨.value (.func f),args,ats⟩,ty,p,af,g⟩=some true) (K:((b.kind != .early)&&Br n d)=true)
  (Z:evs L args.toList=some vs) (h:JL J Q b n (AB L d undef) (dcall f vs.toArray::ds) (.inRegion ops rest::k) cs s):
  JL J Q b n L ds (.inRegion ops (i::rest)::k) cs s:=λT O=>by
 simp only [Bool.and_eq_true] at K
 have ac:args.map (BK T)=vs.toArray:=by
  rw [← GW O.Gs Z];apply Array.ext';simp
 refine Judge.oper U (Cq O hw) (by simpa using K.1) (.inl Y) ?_;have hd:execOp (BK T) ⟨d,.defer ⟨.value (.func f),args,ats⟩,ty,p,af,g⟩= .pure (.defer (dcall f vs.toArray)):=by
  simp only [execOp,resolve,bind,Sem.bind,Deferred.ofValue,BK,pure,dcall];rw [ac];simp
 rw [hd];exact h _ (O.put K.2 undef)
def Lw:Ph->Bool
 | .HB _ | .Ge _ | .Hh | .F8 _ _ | .H2 | .FZ | .GH | .lk _ _=>false
 | _=>true
theorem IW{p:Ph}{g:Goroutine}(K:Lw p=true)(Y:g.status= .running)(Z:g.offers=none)(O:if Fam.Da p=true then s= .quiet else s.q=false)(ac:p= .FL->mayWake P g=true)
  (h:∀v wt sm v' wt' sm' es U,F.act p v wt sm=some ((v',wt',sm'),es,U)->∃g',(∀w,F.WG w v wt sm->stepG P (Fam.CW p) g w= .go g' (F.put w v' wt' sm') es)/\g'.status= .running/\MR P (Stop P F) (Fam.CW p) U g' (Fam.JF p s)):Stop P F p g s:=
 Ho.stop {
  run:=Y
  offers:=Z
  quiet:=λe=>by rw [if_pos e] at O;exact O
  live:=λe=>by rw [if_neg (by rw [e];simp)] at O;exact O
  act:=h
  I7:=λe=>by rcases e with e | ⟨k,b,e⟩;exact ac e;subst e;cases K
  FC:=λe=>by subst e;cases K
  go:=λj e=>by subst e;cases K
  lk:=λk l e=>by subst e;cases K
  CQ:=λk sv e=>by subst e;cases K
  store:=λk e=>by subst e;cases K
  fin:=λe=>by subst e;cases K}
theorem Lm{w:World}{v wt sm:Nat}(h:F.WG w v wt sm):F.put w v wt sm=w:=by
 unfold Fam.put;have:w.heap.setIfInBounds F.wg (F.Ib (Fam.word v wt) sm)=w.heap:=by
  apply Array.ext_getElem?;intro i;by_cases e:F.wg=i
  ·subst e;unfold Fam.WG at h;have O:F.wg<w.heap.size:=by
    rcases Nat.lt_or_ge F.wg w.heap.size with K | K
    ·exact K
    ·simp [Array.getElem?_eq_none K] at h
   rw [Array.getElem?_setIfInBounds_self_of_lt O,h]
  ·rw [Array.getElem?_setIfInBounds_ne e]
 rw [this]
theorem IY{w:World}{v wt sm:Nat}(h:F.WG w v wt sm):w.cell? F.sA=some (.int .u64 (Fam.word v wt))/\w.cell? F.mA=some (.int .u32 sm)/\w.frozen? F.sA=false/\w.frozen? F.mA=false:=by
 unfold Fam.WG Fam.Ib at h;refine⟨?_,?_,?_,?_⟩
 ·simp [World.cell?,Fam.sA,h]
 ·simp [World.cell?,Fam.mA,h]
 ·simp [World.frozen?,Fam.sA,h]
 ·simp [World.frozen?,Fam.mA,h]
theorem Nh{w:World}{v wt sm v' wt':Nat}(h:F.WG w v wt sm):w.setCell F.sA (.int .u64 (Fam.word v' wt'))=F.put w v' wt' sm:=by
 unfold Fam.put World.setCell;congr 1;apply Array.ext_getElem?;intro i;unfold Fam.WG Fam.Ib at h;rw [Array.getElem?_modify];have O:F.wg<w.heap.size:=by
  rcases Nat.lt_or_ge F.wg w.heap.size with K | K
  ·exact K
  ·simp [Array.getElem?_eq_none K] at h
 by_cases e:F.wg=i
 ·subst e;rw [Array.getElem?_setIfInBounds_self_of_lt O,h];simp [Fam.sA,Fam.Ib]
 ·rw [Array.getElem?_setIfInBounds_ne e];simp [Fam.sA,e]
theorem RB{w:World}{v wt sm sm':Nat}(h:F.WG w v wt sm):w.setCell F.mA (.int .u32 sm')=F.put w v wt sm':=by
 unfold Fam.put World.setCell;congr 1;apply Array.ext_getElem?;intro i;unfold Fam.WG Fam.Ib at h;rw [Array.getElem?_modify];have O:F.wg<w.heap.size:=by
  rcases Nat.lt_or_ge F.wg w.heap.size with K | K
  ·exact K
  ·simp [Array.getElem?_eq_none K] at h
 by_cases e:F.wg=i
 ·subst e;rw [Array.getElem?_setIfInBounds_self_of_lt O,h];simp [Fam.mA,Fam.Ib]
 ·rw [Array.getElem?_setIfInBounds_ne e];simp [Fam.mA,e]
structure Cp (P:Program) (f:FuncId) (e:Av_->Sem Value):Prop where
 h:∃fn,P.funcs[f]? =some fn/\(fn.name== "runtime.NumGoroutine")=false/\fn.body.isNone=true/\Extern.findNext fn=none/\Extern.find fn=some e
theorem Kg{T:Av_}(K:Has n L T)(O:evs L args.toList=some vs):args.map (⟨T,ds⟩:Act).eval=vs.toArray:=by
 have:(⟨T,ds⟩:Act).eval=BK T:=funext λx=>Fc T ds x;rw [this,← GW K.Gs O];apply Array.ext';simp
theorem Mp{m:Mark}(Z:Lw p=true)(ac:if Fam.Da p=true then s= .quiet else s.q=false)(ag:p≠ .FL)(al:∀v wt sm,F.act p v wt sm=some ((v,wt,sm),#[Fam.CZ m],.ph q))(am:Fam.JF p s=s)
  (ap:ops[i]? =some ⟨d,.call ⟨.value (.func f),args,ats⟩,ty,pp,af,g⟩) (O:b.roundOf=none) (hw:AY L ops ⟨d,.call ⟨.value (.func f),args,ats⟩,ty,pp,af,g⟩=some true) (K:((b.kind != .early)&&Br n d)=true)
  (hm:∀x,m≠ .extern x) (he:Cp P f (λ_=>do mark m;pure Extern.Race.none_))
  (h:JL (A8 P (Fam.CW p)) (Stop P F q) b n (AB L d (.tuple #[])) ds (.inRegion ops rest::k) cs s):
  JL (A8 P (Fam.CW p)) (Stop P F p) b n L ds (.inRegion ops (i::rest)::k) cs s:=λT U=>by
 simp only [Bool.and_eq_true] at K
 obtain⟨fn,aq,av,hb,aw,he⟩:=he.h
 refine(A8 P _).stop (IW Z rfl rfl ac (λe=>absurd e ag) λv wt sm v' wt' sm' es az Y=>?_)
 rw [al] at Y;cases Y
 refine⟨_,λw ay=>?_,rfl,by rw [am];exact h _ (U.put K.2 _)⟩
 rw [BW O,BW O,stepG_mark0 (a:=⟨T,ds⟩) m hm ap (Cq U hw) (by simpa using K.1) rfl aq av hb aw he,Lm ay,EG]
 rfl
theorem PD{mk:Addr->Mark}{ad:Addr}(Z:Lw p=true)(ac:if Fam.Da p=true then s= .quiet else s.q=false)(ag:p≠ .FL)(al:∀v wt sm,F.act p v wt sm=some ((v,wt,sm),#[Fam.CZ (mk ad)],.ph q))
  (am:ops[i]? =some ⟨d,.call ⟨.value (.func f),args,ats⟩,ty,pp,af,g⟩) (U:b.roundOf=none) (hw:AY L ops ⟨d,.call ⟨.value (.func f),args,ats⟩,ty,pp,af,g⟩=some true) (K:((b.kind != .early)&&Br n d)=true)
  (hm:∀ad x,mk ad≠ .extern x) (he:Cp P f (Extern.Race.marked mk)) (ap:evs L args.toList=some vs) (aq:vs[0]? =some (.pointer (some ad)))
  (h:JL (A8 P (Fam.CW p)) (Stop P F q) b n (AB L d (.tuple #[])) ds (.inRegion ops rest::k) cs (Fam.JF p s)):
  JL (A8 P (Fam.CW p)) (Stop P F p) b n L ds (.inRegion ops (i::rest)::k) cs s:=λT O=>by
 simp only [Bool.and_eq_true] at K
 obtain⟨fn,av,aw,hb,ay,he⟩:=he.h
 refine(A8 P _).stop (IW Z rfl rfl ac (λe=>absurd e ag) λv wt sm v' wt' sm' es a0 Y=>?_)
 rw [al] at Y;cases Y
 refine⟨_,λw az=>?_,rfl,h _ (O.put K.2 _)⟩
 rw [BW U,BW U,stepG_markAt (a:=⟨T,ds⟩) mk hm am (Cq O hw) (by simpa using K.1) rfl av aw hb ay he (ad:=ad) (by rw [Kg O ap];simpa using aq),Lm az,EG]
 rfl
end
variable {E:LH}{S:List Seg}{j l:Nat}{o':Obj}
section
variable {H:LH}{o:Obj}
theorem KH(ap:As E H S)(Y:S[j]? =some [(l,o)])(o':Obj):(Al E H S).upd l o'=Al E H (S.set j [(l,o')])/\As E H (S.set j [(l,o')]):=by
 obtain⟨K,Z⟩:=GY ap Y;have U:=Nd.iff.1 Z;have ac:E l=none:=(U.2 (l,o) (by simp)).1;have aq:H l=none:=(U.2 (l,o) (by simp)).2;have ag:Nd E H (S.set j []).flatten:=JU.Nd.left Z;have av:∀q∈(S.set j []).flatten,q.1≠l:=λq O e=>by
  have:=U.1;rw [List.map_append,List.nodup_append] at this;exact this.2.2 q.1 (List.mem_map_of_mem O) l (by simp) e
 have al:Bc (S.set j []).flatten H l=none:=by
  have key:∀(B:List (Nat×Obj)),(∀q∈B,q.1≠l)->Bc B H l=none:=by
   intro B
   induction B with
   | nil=>intro _;exact aq
   | cons q B aw=>
    intro O;obtain⟨c,ay⟩:=q;have am:l≠c:=λe=>O (c,ay) (by simp) e.symm;have K:=aw λq' az=>O q' (List.mem_cons_of_mem _ az);simp only [Bc]
    first
    | rw [if_neg am];exact K
    | rw [if_neg (Ne.symm am)];exact K
  exact key _ av
 have f1:=KF (E:=E) (H:=H) (B:=(S.set j []).flatten) (r:=l) ac al o ag;have f2:=KF (E:=E) (H:=H) (B:=(S.set j []).flatten) (r:=l) ac al o' ag;obtain⟨a0,g2⟩:=I2 (seg:= [(l,o)]) Y f2.1;refine⟨?_,g2⟩;rw [K,← a0,← f1.2,← f2.2];unfold St.upd;congr 1;funext x;by_cases a1:x=l <;> simp [a1]
end
variable {P:Program}{J:Judge P}{Q:Gs_}{b:Frame}{L:Env}{ds:Ld_}{k:Li_}{cs:Lf_}
section
variable {n:Nat}{H:LH}
theorem Judge.FC{α:Type}{g:Goroutine}{g':α->Goroutine}{s:St}(x:Sem α)(ac:s.q=false)(ag:g.status= .running)
  (al:∀w a w',x.run P w= .ok a w'->∃es,stepG P J.main g w= .go (g' a) w' es/\∀e∈es,e∈x.events P w #[])
  (h:lp P x s (λa s'=>J.ok Q (g' a) s') (λ_ _=>False)):J.ok Q g s:=by
 refine J.step ⟨ag,λw f=>?_,λe=>by subst e;cases ac⟩;obtain⟨s',O,U,Y,K⟩:=Nr _ h f;cases Z:x.run P w with
 | ok a w'=>
  rw [Z] at O U Y K;simp only [KR] at O U Y;obtain⟨es,he,hm⟩:=al w a w' Z;exact⟨g' a,s',w',es,he,K,O,U,λe am=>Y e (hm e am)⟩
 | halt a w'=>rw [Z] at K;exact K.elim
theorem Ng{r:Loop}{s:St}{K:Loop->St->Prop}{X:Halt->St->Prop}(h:s.get l=some (.loop r))(k:K r s):lp P (Instr.getLoop l) s K X:=by
 unfold Instr.getLoop getObj;simp only [bind,Sem.bind,lp];exact⟨_,h,V,k⟩
theorem VG{r:Loop}{T:Av_}(j:Nat)(K:As E H S)(O:S[j]? =some [(l,.loop r)])(hs:(r.state== .busy)=false)(U:r.pending=none)
  (h:As E H (S.set j [(l,.loop {r with state:= .exhausted})])->J.ok Q (G (fr b T ds k) cs) (Al E H (S.set j [(l,.loop {r with state:= .exhausted})]))):
  J.ok Q (G (fr b T ds (.endRangeFunc l::k)) cs) (Al E H S):=by
 obtain⟨u1,u2⟩:=KH K O (.loop {r with state:= .exhausted});have Y:lp P (Instr.endLoop l) (Al E H S) (λa s'=>a=none/\s'=Al E H (S.set j [(l,.loop {r with state:= .exhausted})])) (λ_ _=>False):=by
  unfold Instr.endLoop;refine Az _ _ (Ng (Ei (i:=0) K O V) ?_);rw [if_neg (by rw [hs];simp)];have Z:(Al E H S).H l=some (.loop r):=by
   have:=Ei (i:=0) K O V;have ac:E l=none:=Oi K O;unfold St.get at this;rw [show(Al E H S).E l=none from ac] at this;exact this
  simp only [bind,Sem.bind,lp,setObj,pure];refine⟨⟨_,Z,V⟩,V,U,?_⟩;exact u1
 refine Judge.FC (g':=λag=>G (fr b T ds ((ag.map Item.code).toList++k)) cs) (Instr.endLoop l) V V (λw a w' al=>?_) (EH _ Y (λa s' ⟨am,ap⟩=>by subst am ap;exact h u2) (λ_ _ h=>h));refine⟨seen P b.fn ((Instr.endLoop l).events P w #[])++ #[],?_,λe he=>?_⟩
 ·simp [G,stepG,stepG.exec,fr,al,GStep.after]
 ·exact mem_seen (by simpa using he)
def UM(l:Nat)(f:FuncId):Frame:={(default:Frame) with fn:=f,kind:= .normal,roundOf:=some l}
theorem Gy.yield{r:Loop}{t:Tmp}{v:Value}{B:Seg}{R:Value->LH->Seg->Prop}{i:Nat}(K:B[i]? =some (l,.loop r))(O:r.params= #[t])
  (h:∀(Q:Gs_) (U:Frame) (cs:Lf_) (H:LH),As E H [B]->(∀w E' S' B',Le E E'->S'.flatten=B'->R w E' B'->As E' H S'->J.ok Q (G (U.finish w) cs) (Al E' H S'))->
   J.ok Q (G (fr (UM l r.fn) (r.tmps.setIfInBounds t v) [] [.code r.assign,.beginRound,.code r.body]) (U::cs)) (Al E H [B])):
  Gy J (.func (.yield l) #[] #[]) [v] E B R:=λH Y Q c cs Z=>by
 have hg:(mk E H B).get l=some (.loop r):=Px Y K
 simp only [Deferred.ofValue,bind,Sem.bind,pure,invoke]
 unfold Instr.yield
 refine Az _ _ (Ng hg ?_)
 have ac:¬((#[]:Av_)++ [v].toArray).size≠r.params.size:=by rw [O];simp
 rw [if_neg ac];have e2:((r.params.zip ((#[]:Av_)++ [v].toArray)).foldl (λtmps (t,a)=>tmps.setIfInBounds t a) r.tmps)=r.tmps.setIfInBounds t v:=by rw [O];simp [Array.zip,Array.zipWith,Array.zipWithMAux]
 simp only [lp,pure];have ag:mk E H B=Al E H [B]:=by unfold Al;simp
 rw [e2,ag];exact h Q c cs H (by unfold As;simpa using Y) λw E' S' B' hle K al am=>by
  subst K;exact Z w _ ⟨E',S'.flatten,hle,al,am,rfl⟩
theorem JL.beginRound{r:Loop}(j:Nat)(U:b.roundOf=some l)(Y:b.kind= .normal)(K:As E H S)(O:S[j]? =some [(l,.loop r)])(hs:r.state= .ready)
  (h:As E H (S.set j [(l,.loop {r with state:= .busy})])->JL J Q b n L ds k cs (Al E H (S.set j [(l,.loop {r with state:= .busy})]))):
  JL J Q b n L ds (.beginRound::k) cs (Al E H S):=λT Z=>by
 obtain⟨u1,u2⟩:=KH K O (.loop {r with state:= .busy})
 have ac:lp P (Instr.beginRound l) (Al E H S) (λ_ s'=>s'=Al E H (S.set j [(l,.loop {r with state:= .busy})])) (λ_ _=>False):=by
  unfold Instr.beginRound;refine Az _ _ (Ng (Ei (i:=0) K O rfl) ?_);have ag:(Al E H S).H l=some (.loop r):=by
   have:=Ei (i:=0) K O rfl;have al:E l=none:=Oi K O;unfold St.get at this;rw [show(Al E H S).E l=none from al] at this;exact this
  simp only [bind,Sem.bind,lp,setObj,pure,hs];exact⟨⟨_,ag,rfl⟩,rfl,u1⟩
 refine Judge.FC (g':=λ_=>G (fr b T ds k) cs) (Instr.beginRound l) rfl rfl (λw a w' am=>?_) (EH _ ac (λa s' ap=>by subst ap;exact h u2 T Z) (λ_ _ h=>h));refine⟨seen P b.fn ((Instr.beginRound l).events P w #[])++ #[],?_,λe he=>?_⟩
 ·simp [G,stepG,stepG.exec,fr,stepG.apply,U,Y,am,GStep.after,Frame.finish]
 ·exact mem_seen (by simpa using he)
theorem Ke{o:Obj}{seg:Seg}(K:As E H S)(O:S[j]? =some ((l,o)::seg)):(Al E H S).H l=some o:=by
 have:=Ei (i:=0) K O V;have U:E l=none:=Oi K O;unfold St.get at this;rw [show(Al E H S).E l=none from U] at this;exact this
theorem JL.endRound{r:Loop}{c:Frame}(j:Nat)(U:b.roundOf=some l)(Y:b.kind= .normal)(K:As E H S)(O:S[j]? =some [(l,.loop r)])
  (h:As E H (S.set j [(l,.loop {r with state:= .ready,pending:=none})])->J.ok Q (G (c.finish (.bool true)) cs) (Al E H (S.set j [(l,.loop {r with state:= .ready,pending:=none})]))):
  JL J Q b n L [] [] (c::cs) (Al E H S):=λT am=>by
 obtain⟨u1,u2⟩:=KH K O (.loop {r with state:= .ready,pending:=none})
 have Z:lp P (Instr.endRound l none) (Al E H S) (λa s'=>a= .bool true/\s'=Al E H (S.set j [(l,.loop {r with state:= .ready,pending:=none})])) (λ_ _=>False):=by
  unfold Instr.endRound;refine Az _ _ (Ng (Ei (i:=0) K O rfl) ?_);simp only [bind,Sem.bind,lp,setObj,pure];exact⟨⟨_,Ke K O,rfl⟩,rfl,rfl,u1⟩
 refine Judge.FC (g':=λv=>G (c.finish v) cs) (Instr.endRound l none) rfl rfl (λw a w' ac=>?_) (EH _ Z (λa s' ⟨ag,al⟩=>by subst ag al;exact h u2) (λ_ _ h=>h));refine⟨seen P b.fn ((Instr.endRound l none).events P w #[])++ #[],?_,λe he=>?_⟩
 ·simp [G,stepG,stepG.exec,fr,U,Y,ac,GStep.after,doReturn]
 ·exact mem_seen (by simpa using he)
theorem JL.rangeFunc{x:Operand}{params:Array Tmp}{as O:Code}{f:FuncId}{caps:Lv_}(aq:b.roundOf=none)(av:b.kind≠ .early)(ag:ev L x=some (.func (.func f) #[] caps.toArray))(hb:Em P f=true)(aw:As E H S)
  (h:∀K l T,Has n L T->As E H (S++ [[(K,.deferred (some []))]]++ [[(l,.loop ⟨.ready,none,b.fn,T,params,as,O,K⟩)]])->
   J.ok Q (G (Frame.enter P f (.func (.yield l) #[] #[]::caps).toArray .normal) (fr b T (⟨.collected K,#[]⟩::ds) (.inRangeFunc l::k)::cs)) (Al E H (S++ [[(K,.deferred (some []))]]++ [[(l,.loop ⟨.ready,none,b.fn,T,params,as,O,K⟩)]]))):
  JL J Q b n L ds (.code (.rangeFunc x params as O)::k) cs (Al E H S):=λT al=>by
 have ay:lp P (Instr.enterLoop b.fn T params as O b.roundOf) (Al E H S) (λq s'=>∃K,q.2= [⟨.collected K,#[]⟩]/\As E H (S++ [[(K,.deferred (some []))]]++ [[(q.1,.loop ⟨.ready,none,b.fn,T,params,as,O,K⟩)]])/\s'=Al E H (S++ [[(K,.deferred (some []))]]++ [[(q.1,.loop ⟨.ready,none,b.fn,T,params,as,O,K⟩)]])) (λ_ _=>False):=by
  unfold Instr.enterLoop;rw [aq];simp only [newObj,bind,Sem.bind,lp,pure];refine⟨rfl,λK Y Z=>?_⟩;obtain⟨ac,az⟩:=KF Y Z (.deferred (some [])) aw;obtain⟨p1,p2⟩:=Fo ac;have a0:(Al E H S).upd K (.deferred (some []))=Al E H (S++ [[(K,.deferred (some []))]]):=by rw [← p1,← az];rfl
  rw [a0];refine⟨rfl,λl a1 a2=>?_⟩;obtain⟨a3,a4⟩:=KF a1 a2 (.loop ⟨.ready,none,b.fn,T,params,as,O,K⟩) p2;obtain⟨p3,p4⟩:=Fo a3;exact⟨K,rfl,p4,by rw [← p3,← a4];rfl⟩
 refine Judge.FC (g':=λq=>G (Frame.enter P f (.func (.yield q.1) #[] #[]::caps).toArray .normal) (fr b T (q.2++ds) (.inRangeFunc q.1::k)::cs)) (Instr.enterLoop b.fn T params as O b.roundOf) rfl rfl (λw a w' a5=>?_) (EH _ ay (λa s' ⟨K,Y,Z,ac⟩=>by subst ac;simp only [Y];exact h K a.1 T al Z) (λ_ _ h=>h));obtain⟨l,mk⟩:=a;have a6:BK T x= .func (.func f) #[] caps.toArray:=al.ev ag;obtain⟨fn,U,a7,am⟩:∃fn,P.funcs[f]? =some fn/\(fn.name== "runtime.NumGoroutine")=false/\fn.body.isNone=false:=by
  unfold Em at hb;cases U:P.funcs[f]? with
  | none=>rw [U] at hb;cases hb
  | some fn=>
   rw [U] at hb;simp only [Bool.and_eq_true,Bool.not_eq_true'] at hb;exact⟨fn,rfl,hb.1,by cases ag:fn.body <;> simp_all⟩
 refine⟨seen P b.fn ((Instr.enterLoop b.fn T params as O b.roundOf).events P w #[])++ #[],?_,λe he=>?_⟩
 ·have ap:=SM (b:=b) (ds:=mk++ds) T (.inRangeFunc l::k);simp only [fr] at ap;have a8:¬fn.name= "runtime.NumGoroutine" :=by simpa using a7
  have a9:¬fn.body=none:=by intro e;rw [e] at am;cases am
  have bb:BK T (.const (.func (.yield l) #[] #[]))= .func (.yield l) #[] #[]:=rfl;simp [G,stepG,stepG.exec,fr,a5,GStep.after,stepG.apply,resolve,ap,a6,Deferred.ofValue,invoke,callFunc,U,a8,a9,av,bb,seen_none]
 ·exact mem_seen (by simpa using he)
theorem JO.collected{K:Nat}(j:Nat)(am:b.roundOf=none)(O:As E H S)(U:S[j]? =some [(K,.deferred (some []))])
  (h:As E H (S.set j [(K,.deferred none)])->JO J Q b n L ds cs (Al E H (S.set j [(K,.deferred none)]))):JO J Q b n L (⟨.collected K,#[]⟩::ds) cs (Al E H S):=λT Y todo=>by
 obtain⟨u1,u2⟩:=KH O U (.deferred none)
 have Z:lp P (Instr.takeDeferred K) (Al E H S) (λa s'=>a= []/\s'=Al E H (S.set j [(K,.deferred none)])) (λ_ _=>False):=by
  unfold Instr.takeDeferred getObj;simp only [bind,Sem.bind,lp,setObj,pure];exact⟨_,Ei (i:=0) O U rfl,rfl,⟨_,Ke O U,rfl⟩,rfl,rfl,u1⟩
 refine Judge.FC (g':=λl=>G (EM b T (l++ds) todo) cs) (Instr.takeDeferred K) rfl rfl (λw a w' ac=>?_) (EH _ Z (λa s' ⟨ag,al⟩=>by subst ag al;exact h u2 T Y todo) (λ_ _ h=>h));refine⟨seen P b.fn ((Instr.takeDeferred K).events P w #[])++ #[],?_,λe he=>?_⟩
 ·simp [G,stepG,unwind,EM,ac,GStep.after]
 ·exact mem_seen (by simpa using he)
def KT(f:FuncId)(args caps:Av_):Deferred:={target:= .fn (.func f) caps,args:=args}
theorem JO.Qm{f:FuncId}{fn:Func}{c:Code}{vs caps:Lv_}(am:b.roundOf=none)(O:P.funcs[f]? =some fn)(Y:(fn.name== "runtime.NumGoroutine")=false)(hb:fn.body=some c)(Z:(vs++caps).length<=fn.ntmps){s:St}
  (h:∀T,Has n L T->∀todo,JL J Q (baseD f) fn.ntmps (GG 0 (vs++caps)) [] [.code c] (EM b T ds todo::cs) s):JO J Q b n L (KT f vs.toArray caps.toArray::ds) cs s:=λT ac todo=>by
 have ag:¬fn.name= "runtime.NumGoroutine" :=by simpa using Y
 refine Judge.DC rfl (λw=>?_) (h T ac todo ((vs++caps).toArray++Array.replicate (fn.ntmps - (vs++caps).length) undef) ⟨by simp;simp at Z;omega,λt v ht=>?_⟩)
 ·rw [BW (b:=baseD f) rfl];have:=enter_atD (P:=P) (vs++caps).toArray O hb;simp only [List.size_toArray] at this;rw [← this];simp [G,stepG,unwind,callDeferred,EM,KT,invoke,callFunc,O,ag,hb,GStep.after,seen_none]
 ·obtain⟨_,K⟩:=JV ht;have al:t<(vs++caps).length:=by
   rcases Nat.lt_or_ge t (vs++caps).length with U | U
   ·exact U
   ·simp only [Nat.sub_zero] at K;have:=(List.getElem?_eq_some_iff.1 K).1;omega
  rw [Array.getD_eq_getD_getElem?,Array.getElem?_append_left (by simpa using al)];simp only [Nat.sub_zero] at K;rw [List.getElem?_toArray,K];rfl
theorem Wh{ops:Ao_}{i:Nat}{rest:List Nat}{d:Option Tmp}{x:Operand}{f:FuncId}{caps:Lv_}{args:Array Operand}{ats:Array TypeId}{ty:TypeId}{p:String}{af:Ae_}{g:On_}{vs:Lv_}{s:St}
  (U:ops[i]? =some ⟨d,.defer ⟨.value x,args,ats⟩,ty,p,af,g⟩) (Y:b.roundOf=none) (hw:AY L ops ⟨d,.defer ⟨.value x,args,ats⟩,ty,p,af,g⟩=some true) (O:((b.kind != .early)&&Br n d)=true)
  (Z:ev L x=some (.func (.func f) #[] caps.toArray)) (ac:evs L args.toList=some vs) (h:JL J Q b n (AB L d undef) (KT f vs.toArray caps.toArray::ds) (.inRegion ops rest::k) cs s):
  JL J Q b n L ds (.inRegion ops (i::rest)::k) cs s:=λT K=>by
 simp only [Bool.and_eq_true] at O
 have ag:args.map (BK T)=vs.toArray:=by
  rw [← GW K.Gs ac];apply Array.ext';simp
 refine Judge.oper U (Cq K hw) (by simpa using O.1) (.inl Y) ?_;have hd:execOp (BK T) ⟨d,.defer ⟨.value x,args,ats⟩,ty,p,af,g⟩= .pure (.defer (KT f vs.toArray caps.toArray)):=by
  simp only [execOp,resolve,bind,Sem.bind,Deferred.ofValue,K.ev Z,pure,KT];rw [ag];simp
 rw [hd];exact h _ (K.put O.2 undef)
end
variable {s:St}{ρ:Operand->Value}{x y z:Operand}{t u e:TypeId}{a:Option Addr}{c:Nat}
section
variable {p:String}
theorem Nn(ht:P.underlying t=some (.slice e))(K:ρ x= .slice a l c)(O:ρ (.const (.slice none 0 0))= .slice none 0 0):Yl P ⟨d,.binOp .eql t x (.const (.slice none 0 0)) u,ty,p,af,g⟩ ρ s (.bool a.isNone):=by
 refine FQ (sm:=do eqGuard .eql t x (.const (.slice none 0 0)) (ρ x) (ρ (.const (.slice none 0 0)));binOp .eql t (ρ x) (ρ (.const (.slice none 0 0)))) V ?_
 rw [K,O];have hg:lp P (eqGuard .eql t x (.const (.slice none 0 0)) (.slice a l c) (.slice none 0 0)) s (λ_ s'=>s'=s) (λ_ _=>False):=by
  simp [eqGuard,lp,pure]
 refine Az _ _ (EH _ hg ?_ (λ_ _ h=>h));rintro _ _ rfl;have hb:binOp .eql t (.slice a l c) (.slice none 0 0)=(do pure (.bool (← Op.equal t (.slice a l c) (.slice none 0 0)))):=V
 rw [hb];refine Az (x:=Op.equal t (.slice a l c) (.slice none 0 0)) _ ?_;unfold Op.equal Op.maxDepth Op.equalIn;refine Az _ _ (Cx ht ?_);cases a <;> exact⟨rfl,rfl⟩
end
section
variable {n:Nat}
end
variable {fuel:Nat}{listed:Array Bool}
variable {v:Value}
section
variable {n:Nat}{m:Nat}{H:LH}
variable {p:String}
end
def I8(P:Program)(d:Nat):GP:=λg _=>∃q,QuitsD P q d g
def LS(P:Program):Frame:={(default:Frame) with fn:=P.funcs.size,defers:= [],mode:= .panicking [goexitEntry]}
section
variable {P:Program}{F:Fam}{J:Judge P}{Q:GP}{n:Nat}{L L':Env}{ds:Ld_}{k:Li_}{cs:Lf_}{s s':St}{b:Frame}{main:Bool}
theorem Lv.quits{d:Nat}:∀{m:Nat} {g:Goroutine},Lv P (I8 P d) m g->∃q,QuitsD P q d g
 | 0,_,h=>h
 | m+1,_,h=>by
  rcases h with h | ⟨K,g',O,h⟩
  ·exact h
  ·obtain⟨q,U⟩:=h.quits;exact⟨q+1,.ctl K O U⟩
theorem Po{d:Nat}{g:Goroutine}(h:(Is P).ok (I8 P d) g .quiet):∃q,QuitsD P q d g:=by
 obtain⟨m,hm⟩:=h V;exact hm.quits
theorem V8:(Is P).ok (I8 P 0) (G (LS P) []) .quiet:=by
 refine Judge.DC (g':={frame:=LS P,callers:= [],status:= .finished,dying:=none}) V (λw=>?_) ((Is P).stop ⟨0,V,V⟩);have K:(default:Frame).todo= []:=V;have O:∀(m:FrameMode),Frame.catches P {fn:=P.funcs.size,tmps:=(default:Frame).tmps,todo:= [],defers:= [],mode:=m,kind:=(default:Frame).kind,roundOf:=(default:Frame).roundOf}=false:=λm=>by simp [Frame.catches]
 simp [G,stepG,unwind,LS,goexitEntry,K,O]
theorem Sl{ops:Ao_}{i:Nat}{rest:List Nat}{d:Option Tmp}{f:FuncId}{args:Array Operand}{ats:Array TypeId}{ty:TypeId}{pp:String}{af:Ae_}{g:On_}{T:Av_}{e:Av_->Sem Value}
  (K:ops[i]? =some ⟨d,.call ⟨.value (.func f),args,ats⟩,ty,pp,af,g⟩) (he:Cp P f e):mayWake P (G (fr b T ds (.inRegion ops (i::rest)::k)) cs)=true:=by
 obtain⟨fn,O,_,hb,_⟩:=he.h;have U:fn.body.isSome=false:=by cases h:fn.body <;> simp_all
 simp [mayWake,G,fr,K,Frame.eval,O,U]
theorem XD{v wt:Nat}(K:1<=v)(O:v<2147483648)(U:wt<=1):IntKind.u64.wrap (Fam.word v wt+18446744069414584320)=Fam.word (v - 1) wt:=by
 simp only [Fam.word,Fam.KK,IntKind.wrap,IntKind.bits,IntKind.signed];simp;omega
theorem Xy{v:Nat}(h:v<2147483647):IntKind.u64.wrap (Fam.word v 0+4294967296)=Fam.word (v+1) 0:=by
 simp only [Fam.word,Fam.KK,IntKind.wrap,IntKind.bits,IntKind.signed];simp;omega
theorem word_inj{v v' wt:Nat}(h:Fam.word v wt=Fam.word v' wt):v=v':=by
 simp only [Fam.word,Fam.KK] at h;omega
theorem Yp(ag:ops[i]? =some ⟨d,.call ⟨.value (.func f),#[x,y],ats⟩,ty,pp,af,g⟩)(Z:b.roundOf=none)(hw:AY L ops ⟨d,.call ⟨.value (.func f),#[x,y],ats⟩,ty,pp,af,g⟩=some true)(O:((b.kind != .early)&&Br n d)=true)
  (he:Cp P f (Extern.Atomic.update (Op.intArith .add) .u64 true)) (al:ev L x=some (.pointer (some F.sA))) (am:ev L y=some (.int .u64 18446744069414584320))
  (ap:JL (A8 P false) (Stop P F .Hg) b n (AB L d (.int .u64 (Fam.word 0 1))) ds (.inRegion ops rest::k) cs .quiet)
  (aq:∀v wt:Nat,v<2147483647->wt<=1->¬(v=0/\wt=1)->JL (Is P) (I8 P 1) b n (AB L d (.int .u64 (Fam.word v wt))) ds (.inRegion ops rest::k) cs .quiet):
  JL (A8 P false) (Stop P F .HI) b n L ds (.inRegion ops (i::rest)::k) cs .quiet:=λT K=>by
 simp only [Bool.and_eq_true] at O
 obtain⟨fn,av,aw,hb,ay,he⟩:=he.h
 refine(A8 P _).stop (IW rfl rfl rfl rfl (by simp) λv wt sm v' wt' sm' es az U=>?_)
 simp only [Fam.act] at U
 split at U
 ·rename_i Y
  cases U;refine⟨G (fr b (C7 T d (.int .u64 (Fam.word (v - 1) wt))) ds (.inRegion ops rest::k)) cs,λw ac=>?_,rfl,?_⟩
  ·obtain⟨c1,_,c3,_⟩:=IY ac;rw [BW Z,BW Z];show stepG P false _ w=_;rw [stepG_add_atomic (a:=⟨T,ds⟩) ag (Cq K hw) (by simpa using O.1) rfl av aw hb ay .u64 he (by rw [Fc];exact K.ev al) (by rw [Fc];exact K.ev am) c1 c3,XD Y.1 Y.2.1 Y.2.2,Nh ac,EG]
   rfl
  ·split
   ·rename_i e;obtain⟨rfl,rfl⟩:=e;exact ap _ (K.put O.2 _)
   ·rename_i e;exact Po (aq (v - 1) wt (by omega) Y.2.2 (by omega) _ (K.put O.2 _))
 ·cases U
theorem Yy{j:Nat}(ag:s.q=false)(al:ops[i]? =some ⟨d,.call ⟨.value (.func f),#[x,y],ats⟩,ty,pp,af,g⟩)(Z:b.roundOf=none)(hw:AY L ops ⟨d,.call ⟨.value (.func f),#[x,y],ats⟩,ty,pp,af,g⟩=some true)(O:((b.kind != .early)&&Br n d)=true)
  (he:Cp P f (Extern.Atomic.update (Op.intArith .add) .u64 true)) (am:ev L x=some (.pointer (some F.sA))) (ap:ev L y=some (.int .u64 4294967296))
  (aq:JL (A8 P true) (Stop P F (.IL j)) b n (AB L d (.int .u64 (Fam.word 1 0))) ds (.inRegion ops rest::k) cs s)
  (av:∀v:Nat,1<=v->v<2147483647->JL (A8 P true) (Stop P F (.Hn j)) b n (AB L d (.int .u64 (Fam.word (v+1) 0))) ds (.inRegion ops rest::k) cs s):
  JL (A8 P true) (Stop P F (.II j)) b n L ds (.inRegion ops (i::rest)::k) cs s:=λT K=>by
 simp only [Bool.and_eq_true] at O
 obtain⟨fn,aw,ay,hb,az,he⟩:=he.h
 refine(A8 P _).stop (IW rfl rfl rfl ag (by simp) λv wt sm v' wt' sm' es a0 U=>?_)
 simp only [Fam.act] at U
 split at U
 ·rename_i Y
  obtain⟨Y,rfl⟩:=Y;cases U;refine⟨G (fr b (C7 T d (.int .u64 (Fam.word (v+1) 0))) ds (.inRegion ops rest::k)) cs,λw ac=>?_,rfl,?_⟩
  ·obtain⟨c1,_,c3,_⟩:=IY ac;rw [BW Z,BW Z];show stepG P true _ w=_;rw [stepG_add_atomic (a:=⟨T,ds⟩) al (Cq K hw) (by simpa using O.1) rfl aw ay hb az .u64 he (by rw [Fc];exact K.ev am) (by rw [Fc];exact K.ev ap) c1 c3,Xy Y,Nh ac,EG]
   rfl
  ·split
   ·rename_i e;subst e;exact aq _ (K.put O.2 _)
   ·rename_i e;exact av v (by omega) Y _ (K.put O.2 _)
 ·cases U
theorem ZL(al:Lw p=true)(am:if Fam.Da p=true then s= .quiet else s.q=false)(ap:p≠ .FL)(aq:Fam.JF p s=s)(av:∀v wt sm r,F.act p v wt sm=some r->r.1=(v,wt,sm)/\r.2.1= #[Fam.Cw F.sA])
  (aw:ops[i]? =some ⟨d,.call ⟨.value (.func f),#[x],ats⟩,ty,pp,af,g⟩) (U:b.roundOf=none) (hw:AY L ops ⟨d,.call ⟨.value (.func f),#[x],ats⟩,ty,pp,af,g⟩=some true) (K:((b.kind != .early)&&Br n d)=true)
  (he:Cp P f (Extern.Atomic.loadT (.int .u64))) (ay:ev L x=some (.pointer (some F.sA)))
  (h:∀v wt sm r,F.act p v wt sm=some r->∃q,r.2.2= .ph q/\JL (A8 P (Fam.CW p)) (Stop P F q) b n (AB L d (.int .u64 (Fam.word v wt))) ds (.inRegion ops rest::k) cs s):
  JL (A8 P (Fam.CW p)) (Stop P F p) b n L ds (.inRegion ops (i::rest)::k) cs s:=λT O=>by
 simp only [Bool.and_eq_true] at K
 obtain⟨fn,az,a0,hb,a1,he⟩:=he.h
 refine(A8 P _).stop (IW al rfl rfl am (λe=>absurd e ap) λv wt sm v' wt' sm' es a3 Y=>?_)
 obtain⟨Z,e2⟩:=av _ _ _ _ Y
 obtain⟨q,ac,a2⟩:=h _ _ _ _ Y
 simp only at Z e2 ac
 cases Z
 subst e2 ac
 refine⟨_,λw ag=>?_,rfl,by rw [aq];exact a2 _ (O.put K.2 _)⟩
 obtain⟨c1,_,_,_⟩:=IY ag
 rw [BW U,BW U,stepG_load_atomic (a:=⟨T,ds⟩) aw (Cq O hw) (by simpa using K.1) rfl az a0 hb a1 .u64 he (by rw [Fc];exact O.ev ay) c1,Lm ag,EG]
 rfl
theorem bJ(ac:ops[i]? =some ⟨d,.call ⟨.value (.func f),#[x,y],ats⟩,ty,pp,af,g⟩)(Y:b.roundOf=none)(hw:AY L ops ⟨d,.call ⟨.value (.func f),#[x,y],ats⟩,ty,pp,af,g⟩=some true)(U:((b.kind != .early)&&Br n d)=true)
  (he:Cp P f Extern.Atomic.storeT) (ag:ev L x=some (.pointer (some F.sA))) (al:ev L y=some (.int .u64 0))
  (h:JL (A8 P false) (Stop P F .FL) b n (AB L d (.tuple #[])) ds (.inRegion ops rest::k) cs .quiet):
  JL (A8 P false) (Stop P F .HA) b n L ds (.inRegion ops (i::rest)::k) cs .quiet:=λT K=>by
 simp only [Bool.and_eq_true] at U
 obtain⟨fn,am,ap,hb,aq,he⟩:=he.h
 refine(A8 P _).stop (IW rfl rfl rfl rfl (by simp) λv wt sm v' wt' sm' es ay O=>?_)
 simp only [Fam.act] at O
 split at O
 ·rename_i av
  obtain⟨rfl,rfl⟩:=av;cases O;refine⟨_,λw Z=>?_,rfl,h _ (K.put U.2 _)⟩;obtain⟨c1,_,c3,_⟩:=IY Z;have aw:(.int .u64 0:Value)= .int .u64 (Fam.word 0 0):=by simp [Fam.word]
  rw [BW Y,BW Y];show stepG P false _ w=_;rw [stepG_store_atomic (a:=⟨T,ds⟩) ac (Cq K hw) (by simpa using U.1) rfl am ap hb aq he (by rw [Fc];exact K.ev ag) (by rw [Fc];exact K.ev al) c1 c3,aw,Nh Z,EG]
  rfl
 ·cases O
theorem bG{m:Nat}(aw:s.q=false)(ac:ops[i]? =some ⟨d,.call ⟨.value (.func f),#[x,y,z],ats⟩,ty,pp,af,g⟩)(Z:b.roundOf=none)(hw:AY L ops ⟨d,.call ⟨.value (.func f),#[x,y,z],ats⟩,ty,pp,af,g⟩=some true)(U:((b.kind != .early)&&Br n d)=true)
  (he:Cp P f (Extern.Atomic.casT (.int .u64))) (ag:ev L x=some (.pointer (some F.sA))) (al:ev L y=some (.int .u64 (Fam.word m 0))) (am:ev L z=some (.int .u64 (Fam.word m 1)))
  (ay:JL (A8 P true) (Stop P F .IQ) b n (AB L d (.bool true)) ds (.inRegion ops rest::k) cs s)
  (az:JL (A8 P true) (Stop P F (.Gt (m - 1))) b n (AB L d (.bool false)) ds (.inRegion ops rest::k) cs s):
  JL (A8 P true) (Stop P F (.HF m)) b n L ds (.inRegion ops (i::rest)::k) cs s:=λT K=>by
 simp only [Bool.and_eq_true] at U
 obtain⟨fn,ap,aq,hb,av,he⟩:=he.h
 refine(A8 P _).stop (IW rfl rfl rfl aw (by simp) λv wt sm v' wt' sm' es a1 O=>?_)
 simp only [Fam.act] at O
 split at O
 ·rename_i a0
  obtain⟨_,_,rfl⟩:=a0;split at O
  ·rename_i e;subst e;cases O;refine⟨_,λw Y=>?_,rfl,ay _ (K.put U.2 _)⟩;obtain⟨c1,_,c3,_⟩:=IY Y;rw [BW Z,BW Z];show stepG P true _ w=_;rw [stepG_cas_hit (a:=⟨T,ds⟩) ac (Cq K hw) (by simpa using U.1) rfl ap aq hb av .u64 he (by rw [Fc];exact K.ev ag) (by rw [Fc];exact K.ev al) (by rw [Fc];exact K.ev am) c1 c3,Nh Y,EG]
   rfl
  ·rename_i e;cases O;refine⟨_,λw Y=>?_,rfl,az _ (K.put U.2 _)⟩;obtain⟨c1,_,c3,_⟩:=IY Y;rw [BW Z,BW Z];show stepG P true _ w=_;rw [stepG_cas_miss (a:=⟨T,ds⟩) ac (Cq K hw) (by simpa using U.1) rfl ap aq hb av .u64 he (by rw [Fc];exact K.ev ag) (by rw [Fc];exact K.ev al) (by rw [Fc];exact K.ev am) c1 c3 (λq=>e (word_inj q)),Lm Y,EG]
   rfl
 ·cases O
theorem XB{args:Array Operand}{vs:Lv_}(Y:ops[i]? =some ⟨d,.call ⟨.value (.func f),args,ats⟩,ty,pp,af,g⟩)(Z:b.roundOf=none)(hw:AY L ops ⟨d,.call ⟨.value (.func f),args,ats⟩,ty,pp,af,g⟩=some true)(O:((b.kind != .early)&&Br n d)=true)
  (he:Cp P f Extern.Sync.semrelease) (ag:evs L args.toList=some vs) (al:vs[0]? =some (.pointer (some F.mA)))
  (h:JL (Is P) (I8 P 1) b n (AB L d (.tuple #[])) ds (.inRegion ops rest::k) cs .quiet):
  JL (A8 P false) (Stop P F .FL) b n L ds (.inRegion ops (i::rest)::k) cs .quiet:=λT U=>by
 simp only [Bool.and_eq_true] at O
 have am:=Sl (P:=P) (b:=b) (ds:=ds) (k:=k) (cs:=cs) (rest:=rest) (T:=T) Y he
 obtain⟨fn,ap,aq,hb,av,he⟩:=he.h
 refine(A8 P _).stop (IW rfl rfl rfl rfl (λ_=>am) λv wt sm v' wt' sm' es az K=>?_)
 simp only [Fam.act] at K
 split at K
 ·rename_i aw
  subst aw;cases K;refine⟨_,λw ac=>?_,rfl,Po (h _ (U.put O.2 _))⟩;obtain⟨_,c2,_,c4⟩:=IY ac;rw [BW Z,BW Z];show stepG P false _ w=_;rw [stepG_semrelease (a:=⟨T,ds⟩) Y (Cq U hw) (by simpa using O.1) rfl ap aq hb av he (ad:=F.mA) (by rw [Kg U ag];simpa using al) c2 c4,EG];have ay:IntKind.u32.wrap (((0:Nat):Int)+1)=((1:Nat):Int):=by decide
  rw [ay,RB ac]
 ·cases K
theorem V9{args:Array Operand}{vs:Lv_}(aq:s.q=false)(ac:ops[i]? =some ⟨d,.call ⟨.value (.func f),args,ats⟩,ty,pp,af,g⟩)(Y:b.roundOf=none)(hw:AY L ops ⟨d,.call ⟨.value (.func f),args,ats⟩,ty,pp,af,g⟩=some true)(Z:((b.kind != .early)&&Br n d)=true)
  (he:Cp P f Extern.Sync.semacquire) (av:evs L args.toList=some vs) (aw:vs[0]? =some (.pointer (some F.mA)))
  (h:JL (A8 P true) (Stop P F .Hz) b n (AB L d (.tuple #[])) ds (.inRegion ops rest::k) cs s):
  JL (A8 P true) (Stop P F .FZ) b n L ds (.inRegion ops (i::rest)::k) cs s:=λT K=>by
 simp only [Bool.and_eq_true] at Z
 obtain⟨fn,ag,al,hb,am,he⟩:=he.h
 have ap:(args.map (⟨T,ds⟩:Act).eval)[0]? =some (.pointer (some F.mA)):=by rw [Kg K av];simpa using aw
 refine(A8 P _).stop (Ho.stop {
  run:=rfl,offers:=rfl,quiet:=(by simp [Fam.Da]),live:=λ_=>aq,act:=?_,I7:=(by simp),FC:=?_,go:=(by simp),lk:=(by simp),CQ:=(by simp),store:=(by simp),fin:=(by simp)})
 ·intro v wt sm v' wt' sm' es a0 O;simp only [Fam.act] at O;split at O
  ·rename_i ay;subst ay;cases O;refine⟨_,λw U=>?_,rfl,h _ (K.put Z.2 _)⟩;obtain⟨_,c2,_,c4⟩:=IY U;rw [BW Y,BW Y];show stepG P true _ w=_;rw [stepG_semacquire (a:=⟨T,ds⟩) ac (Cq K hw) (by simpa using Z.1) rfl ag al hb am he (ad:=F.mA) ap c2 (by decide) c4,EG];have az:(((1:Nat):Int) - 1)=((0:Nat):Int):=by decide
   rw [az,RB U]
  ·cases O
 ·intro _ w v wt U;obtain⟨_,c2,_,c4⟩:=IY U;rw [BW Y];exact stepG_semacquire_wait (a:=⟨T,ds⟩) ac (Cq K hw) rfl ag al hb am he (ad:=F.mA) ap c2
theorem TF{args:Array Operand}{vs:Lv_}(Y:s.q=false)(Z:ops[i]? =some ⟨d,.call ⟨.value (.func f),args,ats⟩,ty,pp,af,g⟩)(U:b.roundOf=none)(hw:AY L ops ⟨d,.call ⟨.value (.func f),args,ats⟩,ty,pp,af,g⟩=some true)(K:((b.kind != .early)&&Br n d)=true)
  (he:Cp P f (Extern.Race.marked .acquire)) (ac:evs L args.toList=some vs) (ag:vs[0]? =some (.pointer (some F.sA)))
  (h:∀E' f,Le s.E E'->E' F.fd=none->(∀b,E' b≠none->s.H b=none)->(∀k,k<F.n->F.msg k (f k) E')->∀T,Has n (AB L d (.tuple #[])) T->F.fin (G (fr b T ds (.inRegion ops rest::k)) cs) ⟨E',F.J5 s.H f,false⟩):
  JL (A8 P true) (Stop P F .GH) b n L ds (.inRegion ops (i::rest)::k) cs s:=λT O=>by
 simp only [Bool.and_eq_true] at K
 obtain⟨fn,al,am,hb,ap,he⟩:=he.h
 refine(A8 P _).stop (Ho.stop {
  run:=rfl,offers:=rfl,quiet:=(by simp [Fam.Da]),live:=λ_=>Y,act:=(by simp [Fam.act]),I7:=(by simp),FC:=(by simp),go:=(by simp),lk:=(by simp),CQ:=(by simp),store:=(by simp),fin:=λ_=>?_})
 refine⟨_,λw=>?_,λE' f a1 aq av aw=>h E' f a1 aq av aw _ (O.put K.2 _)⟩
 rw [BW U,BW U,stepG_markAt (a:=⟨T,ds⟩) .acquire (by simp) Z (Cq O hw) (by simpa using K.1) rfl al am hb ap he (ad:=F.sA) (by rw [Kg O ac];simpa using ag),EG]
 rfl
end
section
variable {P:Program}{F:Fam}{J:Judge P}{Q:GP}{n:Nat}{L L':Env}{ds:Ld_}{k:Li_}{cs:Lf_}{s s':St}{b:Frame}{main:Bool}
theorem Lg(T:Av_)(ds:Ld_):(⟨T,ds⟩:Act).eval=BK T:=funext λx=>Fc T ds x
theorem Xu{X:GP}{fn:Func}{c:Code}{vs:Lv_}{caps:Av_}{args:Av_}(O:P.funcs[f]? =some fn)(Z:(fn.name== "runtime.NumGoroutine")=false)(hb:fn.body=some c)(ac:args++caps=vs.toArray)(am:vs.length<=fn.ntmps)
  (h:JL (A8 P false) X (baseD f) fn.ntmps (GG 0 vs) [] [.code c] [LS P] s):Way P false X (born P {target:= .fn (.func f) caps,args:=args}) s:=by
 have ag:¬fn.name= "runtime.NumGoroutine" :=by simpa using Z
 refine Judge.DC (J:=A8 P false) V (λw=>?_) (h (vs.toArray++Array.replicate (fn.ntmps - vs.length) undef) ⟨by simp;omega,λt v ht=>?_⟩)
 ·show stepG P false _ w=_;have U:=enter_atD (P:=P) vs.toArray O hb;rw [BW (b:=baseD f) rfl];simp only [List.size_toArray] at U;simp [G,born,stepG,unwind,callDeferred,invoke,callFunc,O,ag,hb,GStep.after,seen_none,ac,LS,U]
 ·obtain⟨_,K⟩:=JV ht;have al:t<vs.length:=by
   rcases Nat.lt_or_ge t vs.length with Y | Y
   ·exact Y
   ·simp at K;have:=(List.getElem?_eq_some_iff.1 K).1;omega
  rw [Array.getD_eq_getD_getElem?,Array.getElem?_append_left (by simpa using al)];simp at K;simp [K]
theorem Z2{T:Av_}{args:Array Operand}{K:Go.Fn}{fi O:Av_}{as:Lv_}(U:Has n L T)(Y:ev L x=some (.func K fi O))(Z:evs L args.toList=some as):
  execOp (BK T) ⟨d,.go ⟨.value x,args,ats⟩,ty,pp,af,g⟩= .pure (.spawn {target:= .fn K O,args:=fi++as.toArray}):=by
 have ac:args.map (BK T)=as.toArray:=by
  rw [← GW U.Gs Z];apply Array.ext';simp
 simp only [execOp,resolve,bind,Sem.bind,Deferred.ofValue,U.ev Y,pure,ac]
theorem ZM{j:Nat}{args:Array Operand}{fi U:Av_}{as:Lv_}{Y:FuncId}(ag:s.q=false)(al:ops[i]? =some ⟨d,.go ⟨.value x,args,ats⟩,ty,pp,af,g⟩)(Z:b.roundOf=none)(hw:AY L ops ⟨d,.go ⟨.value x,args,ats⟩,ty,pp,af,g⟩=some true)(K:((b.kind != .early)&&Br n d)=true)
  (am:ev L x=some (.func (.func Y) fi U)) (ap:evs L args.toList=some as)
  (aq:Way P false (Stop P F (F.start j)) (born P {target:= .fn (.func Y) U,args:=fi++as.toArray}) ⟨s.E,λ_=>none,false⟩)
  (av:JL (A8 P true) (Stop P F (F.EY j)) b n (AB L d undef) ds (.inRegion ops rest::k) cs s):
  JL (A8 P true) (Stop P F (.Ge j)) b n L ds (.inRegion ops (i::rest)::k) cs s:=λT O=>by
 simp only [Bool.and_eq_true] at K
 have ac:=Z2 (d:=d) (ats:=ats) (ty:=ty) (pp:=pp) (af:=af) (g:=g) O am ap
 refine(A8 P _).stop (Ho.stop {
  run:=rfl,offers:=rfl,quiet:=(by simp [Fam.Da]),live:=λ_=>ag,act:=(by simp [Fam.act]),I7:=(by simp),FC:=(by simp),go:=λaw e=>?_,lk:=(by simp),CQ:=(by simp),store:=(by simp),fin:=(by simp)})
 cases e
 refine⟨G (fr b (C7 T d undef) ds (.inRegion ops rest::k)) cs,_,rfl,rfl,λw=>?_,aq,av _ (O.put K.2 _)⟩
 rw [BW Z,BW Z,stepG_spawn (a:=⟨T,ds⟩) (w':=w) al (Cq O hw) (by simpa using K.1) (by rw [Lg,ac];rfl) rfl,listed_none (by rw [Lg,ac];simp [Sem.events_pure']),EG]
theorem JO.Tv{j:Nat}(Y:s.q=false)(K:b.roundOf=none)(he:Cp P f (λ_=>do mark .enable;pure Extern.Race.none_))
  (h:JO (A8 P true) (Stop P F (.Ge j)) b n L ds cs s):JO (A8 P true) (Stop P F (.Hn j)) b n L (dcall f #[]::ds) cs s:=λT Z todo=>by
 obtain⟨fn,ac,ag,hb,al,he⟩:=he.h
 refine(A8 P _).stop (IW rfl rfl rfl Y (by simp) λv wt sm v' wt' sm' es ap O=>?_)
 simp only [Fam.act] at O
 cases O
 refine⟨G (EM b T ds todo) cs,λw am=>?_,rfl,h T Z todo⟩
 rw [Ln K,Ln K,Lm am]
 exact stepG_unwind_entry (a:=⟨T,dcall f #[]::ds⟩) (v:= .tuple #[]) (evs:= #[Fam.CZ .enable]) rfl ac ag hb al he (by simp [Extern.Race.none_]) (by simp;rfl) (by
  intro x U
  simp at U
  subst U
  exact⟨rfl,λg h=>by cases h⟩)
theorem JO.Nz(K:b.roundOf=none)(he:Cp P f (λ_=>do mark .enable;pure Extern.Race.none_))
  (h:JO (Is P) (I8 P 0) b n L ds cs .quiet):JO (Is P) (I8 P 1) b n L (dcall f #[]::ds) cs .quiet:=λT U todo=>by
 obtain⟨fn,Y,Z,hb,ac,he⟩:=he.h
 refine(Is P).stop ?_
 obtain⟨q,O⟩:=Po (h T U todo)
 rw [Ln K] at O
 rw [Ln K]
 exact⟨q+1,QuitsD.unwind_mark (a:=⟨T,dcall f #[]::ds⟩) .enable rfl (by simp) rfl Y Z hb ac he O⟩
end
def U0:BinOp->Int->Int->Option Bool
 | .lss,m,m'=>some (decide (m<m'))
 | .leq,m,m'=>some (decide (m<=m'))
 | .gtr,m,m'=>some (decide (m'<m))
 | .geq,m,m'=>some (decide (m'<=m))
 | .eql,m,m'=>some (decide (m=m'))
 | .neq,m,m'=>some (decide (m≠m'))
 | _,_,_=>none
def KV(L:Env):Op->Option Value
 | .move x=>ev L x
 | .assign x=>ev L x
 | .pick z x y=>match ev L z with
  | some (.bool true)=>ev L x
  | some (.bool false)=>ev L y
  | _=>none
 | .extract x i=>match ev L x with
  | some (.tuple vs)=>vs[i]?
  | _=>none
 | .nilCheck x=>match ev L x with
  | some (.pointer (some a))=>some (.pointer (some a))
  | _=>none
 | .binOp op _ x y _=>match ev L x with
  | some (.int kd m)=>match ev L y with
   | some (.int kd' m')=>if kd=kd' then(match U0 op m m' with | some t=>some (.bool t) | none=>none) else none
   | _=>none
  | _=>none
 | _=>none
theorem Zk{P:Program}{s:St}{ρ:Operand->Value}{d:Option Tmp}{x y:Operand}{t u ty:TypeId}{p:String}{af:Ae_}{g:On_}{kd:IntKind}{m m':Int}(K:ρ x= .int kd m)(O:ρ y= .int kd m'):Yl P ⟨d,.binOp .neq t x y u,ty,p,af,g⟩ ρ s (.bool (decide (m≠m'))):=by
 have h:=Yl.neq (P:=P) (s:=s) (d:=d) (t:=t) (u:=u) (ty:=ty) (p:=p) (af:=af) (g:=g) K O;simpa using h
theorem NT{P:Program}{L:Env}{ρ:Operand->Value}{s:St}{o:Oper}{v:Value}(K:Ff L ρ)(h:KV L o.op=some v):Yl P o ρ s v:=by
 obtain⟨d,op,ty,p,af,g⟩:=o;simp only at h;unfold KV at h;split at h
 ·exact Yl.move (K _ _ h)
 ·exact Yl.assign (K _ _ h)
 ·split at h
  ·rename_i e;exact Mk (K _ _ e) (K _ _ h)
  ·rename_i e;exact Wn (K _ _ e) (K _ _ h)
  ·cases h
 ·split at h
  ·rename_i e;exact Yl.extract (K _ _ e) h
  ·cases h
 ·split at h
  ·rename_i e;cases h;exact Yl.nilCheck (K _ _ e)
  ·cases h
 ·split at h
  ·rename_i O;split at h
   ·rename_i U;split at h
    ·rename_i e;subst e;split at h
     ·rename_i e;cases h;unfold U0 at e;split at e
      ·cases e;exact Yl.lss (K _ _ O) (K _ _ U)
      ·cases e;exact Yl.leq (K _ _ O) (K _ _ U)
      ·cases e;exact Yl.gtr (K _ _ O) (K _ _ U)
      ·cases e;exact Yl.geq (K _ _ O) (K _ _ U)
      ·cases e;exact Yl.eql (K _ _ O) (K _ _ U)
      ·cases e;exact Zk (K _ _ O) (K _ _ U)
      ·cases e
     ·cases h
    ·cases h
   ·cases h
  ·cases h
 ·cases h
def JC:List Oper->Nat->Option Oper
 | [],_=>none
 | o::_,0=>some o
 | _::os,i+1=>JC os i
theorem Lq:∀(os:List Oper) (i:Nat),JC os i=os[i]?
 | [],i=>by simp [JC]
 | _::_,0=>rfl
 | _::os,i+1=>by simp [JC,Lq os i]
def QQ(b:Frame)(n:Nat)(L:Env):Li_->Option (Li_×Env)
 | .code (.seq x y)::k=>some (.code x:: .code y::k,L)
 | .code (.block i c)::k=>some (.code c:: .inBlock i::k,L)
 | .code (.scope c)::k=>some (.code c:: .inScope c::k,L)
 | .code .skip::k=>some (k,L)
 | .code (.exit i)::k=>match exitTo i k with
  | some k'=>some (k',L)
  | none=>none
 | .code (.cond c x y)::k=>match ev L c with
  | some (.bool true)=>some (.code x::k,L)
  | some (.bool false)=>some (.code y::k,L)
  | _=>none
 | .code (.region _ ops false)::k=>some (.inRegion ops (List.range ops.size)::k,L)
 | .inBlock _::k=>some (k,L)
 | .inScope _::k=>some (k,L)
 | .inRegion _ []::k=>some (k,L)
 | .inRegion ops (i::rest)::k=>match JC ops.toList i with
  | some ⟨d,op,ty,p,af,g⟩=>match AY L ops ⟨d,op,ty,p,af,g⟩ with
   | some true=>match BY b n ⟨d,op,ty,p,af,g⟩ with
    | true=>match KV L op with
     | some v=>match d with
      | some d=>some (.inRegion ops rest::k,(d,v)::L)
      | none=>some (.inRegion ops rest::k,L)
     | none=>none
    | false=>none
   | some false=>match Br n d with
    | true=>match d with
     | some d=>some (.inRegion ops rest::k,(d,undef)::L)
     | none=>some (.inRegion ops rest::k,L)
    | false=>none
   | none=>none
  | none=>none
 | _=>none
def Ox(b:Frame)(n:Nat):Nat->Li_->Env->Option (Li_×Env)
 | 0,k,L=>some (k,L)
 | m+1,k,L=>match QQ b n L k with
  | some (k',L')=>Ox b n m k' L'
  | none=>none
variable {L':Env}{k':Li_}
section
variable {n:Nat}
theorem aH(h:QQ b n L k=some (k',L'))(K:JL J Q b n L' ds k' cs s):JL J Q b n L ds k cs s:=by
 unfold QQ at h;split at h
 ·cases h;exact JL.seq K
 ·cases h;exact JL.block K
 ·cases h;exact JL.scope K
 ·cases h;exact JL.skip K
 ·split at h
  ·rename_i e;cases h;exact JL.exit e K
  ·cases h
 ·split at h
  ·rename_i e;cases h;exact W0 e K
  ·rename_i e;cases h;exact WU e K
  ·cases h
 ·cases h;exact JL.region K
 ·cases h;exact Me K
 ·cases h;exact Vw K
 ·cases h;exact JL.done K
 ·split at h
  ·rename_i d op ty p af g O;rw [Lq,Array.getElem?_toList] at O;split at h
   ·rename_i hw;split at h
    ·rename_i U;split at h
     ·rename_i v Z;cases d with
      | none=>cases h;exact Bf O hw U (λρ Y=>NT Y Z) K
      | some d=>cases h;exact Bf O hw U (λρ Y=>NT Y Z) K
     ·cases h
    ·cases h
   ·rename_i hw;split at h
    ·rename_i U;cases d with
     | none=>cases h;exact ID O hw U K
     | some d=>cases h;exact ID O hw U K
    ·cases h
   ·cases h
  ·cases h
 ·cases h
theorem JL.go(m:Nat)(h:Ox b n m k L=some (k',L'))(K:JL J Q b n L' ds k' cs s):JL J Q b n L ds k cs s:=by
 induction m generalizing k L with
 | zero=>cases h;exact K
 | succ m O=>
  unfold Ox at h;split at h
  ·rename_i e;exact aH e (O h)
  ·cases h
end
abbrev Am(a o:Nat):Value:= .pointer (some ⟨a,o,none⟩)
abbrev sV{α:Type}(a:Option Addr)(l:List α)(c:Nat):Value:= .slice a l.length c
abbrev fV(n:Nat):Value:= .func (.func n) #[] #[]
abbrev nS:Value:= .slice none 0 0
abbrev AQ(r:Nat):Option Addr:=some ⟨r,0,none⟩
open Go.Conc.Lib Go.ConcR.Gen
theorem GD{P:Program}{t:TypeId}{n:Nat}(h:∀w,Sem.run P (Go.sizeOf t) w= .ok n w):Bv P t=some n:=by
 have K:=h default;unfold Bv;simp only [Go.sizeOf,typeInfo,bind,Sem.bind,program,Sem.run] at K;cases hi:P.info? t with
 | none=>rw [hi] at K;simp [stuck,Sem.run,Sem.bind] at K
 | some i=>
  rw [hi] at K;simp [pure,Sem.bind,Sem.run] at K;simp [K]
section
variable {L:WgLink}(H:WgLib P L)
include H
theorem Nf:Cp P L.disable (λ_=>do mark .disable;pure Extern.Race.none_):=⟨⟨_,H.f_disable,x_disable_n L,x_disable_b L,x_disable_x L,x_disable_f L⟩⟩
theorem Jj:Cp P L.enable (λ_=>do mark .enable;pure Extern.Race.none_):=⟨⟨_,H.f_enable,x_enable_n L,x_enable_b L,x_enable_x L,x_enable_f L⟩⟩
theorem Rh:Cp P L.relMerge (Extern.Race.marked .releaseMerge):=⟨⟨_,H.f_relMerge,x_relMerge_n L,x_relMerge_b L,x_relMerge_x L,x_relMerge_f L⟩⟩
theorem Pm:Cp P L.acquire (Extern.Race.marked .acquire):=⟨⟨_,H.f_acquire,x_acquire_n L,x_acquire_b L,x_acquire_x L,x_acquire_f L⟩⟩
theorem XO:Cp P L.raceRead (Extern.Race.marked .read):=⟨⟨_,H.f_raceRead,x_raceRead_n L,x_raceRead_b L,x_raceRead_x L,x_raceRead_f L⟩⟩
theorem WT:Cp P L.raceWrite (Extern.Race.marked .write):=⟨⟨_,H.f_raceWrite,x_raceWrite_n L,x_raceWrite_b L,x_raceWrite_x L,x_raceWrite_f L⟩⟩
theorem S6:Cp P L.addU64 (Extern.Atomic.update (Op.intArith .add) .u64 true):=⟨⟨_,H.f_addU64,x_addU64_n L,x_addU64_b L,x_addU64_x L,x_addU64_f L⟩⟩
theorem X0:Cp P L.loadU64 (Extern.Atomic.loadT (.int .u64)):=⟨⟨_,H.f_loadU64,x_loadU64_n L,x_loadU64_b L,x_loadU64_x L,x_loadU64_f L⟩⟩
theorem WN:Cp P L.storeU64 Extern.Atomic.storeT:=⟨⟨_,H.f_storeU64,x_storeU64_n L,x_storeU64_b L,x_storeU64_x L,x_storeU64_f L⟩⟩
theorem Zp:Cp P L.casU64 (Extern.Atomic.casT (.int .u64)):=⟨⟨_,H.f_casU64,x_casU64_n L,x_casU64_b L,x_casU64_x L,x_casU64_f L⟩⟩
theorem WR:Cp P L.semrelease Extern.Sync.semrelease:=⟨⟨_,H.f_semrelease,x_semrelease_n L,x_semrelease_b L,x_semrelease_x L,x_semrelease_f L⟩⟩
theorem VC:Cp P L.semacquire Extern.Sync.semacquire:=⟨⟨_,H.f_semacquire,x_semacquire_n L,x_semacquire_b L,x_semacquire_x L,x_semacquire_f L⟩⟩
theorem Ry:Cp P L.inBubble (λ_=>pure (.bool false)):=⟨⟨_,H.f_inBubble,x_inBubble_n L,x_inBubble_b L,x_inBubble_x L,x_inBubble_f L⟩⟩
end
variable {tw:TypeId}
section
variable {P:Program}{F:Fam}{J:Judge P}{Q:GP}{n:Nat}{L L':Env}{ds:Ld_}{k:Li_}{cs:Lf_}{s s':St}{b:Frame}{main:Bool}
theorem Yl.to{o:Oper}{ρ:Operand->Value}{v v':Value}(h:Yl P o ρ s v)(e:v=v'):Yl P o ρ s v':=e▸h
theorem Mx{ad:Addr}(aq:Lw p=true)(av:if Fam.Da p=true then s= .quiet else s.q=false)(aw:p≠ .FL)(ay:∀v wt sm,F.act p v wt sm=some ((v,wt,sm),#[],.ph q))(az:Fam.JF p s=s)
  (a0:ops[i]? =some ⟨d,.convert t u x,ty,pp,af,g⟩) (U:b.roundOf=none) (hw:AY L ops ⟨d,.convert t u x,ty,pp,af,g⟩=some true) (K:((b.kind != .early)&&Br n d)=true)
  (ht:P.underlying t=some (.pointer tw)) (hu:P.underlying u=some .unsafePointer) (Y:(P.info? tw).map (λi=>decide (i.size=0))=some false) (a1:ev L x=some (.pointer (some ad))) (hb:ad=F.sA∨ad=F.mA)
  (h:JL (A8 P (Fam.CW p)) (Stop P F q) b n (AB L d (.pointer (some ad))) ds (.inRegion ops rest::k) cs s):
  JL (A8 P (Fam.CW p)) (Stop P F p) b n L ds (.inRegion ops (i::rest)::k) cs s:=λT O=>by
 simp only [Bool.and_eq_true] at K
 refine(A8 P _).stop (IW aq rfl rfl av (λe=>absurd e aw) λv wt sm v' wt' sm' es a3 Z=>?_)
 rw [ay] at Z;cases Z
 refine⟨_,λw ac=>?_,rfl,by rw [az];exact h _ (O.put K.2 _)⟩
 obtain⟨ag,al⟩:∃ag,w.cell? ad=some ag:=by
  obtain⟨c1,c2,_,_⟩:=IY ac;rcases hb with e | e <;> rw [e]
  ·exact⟨_,c1⟩
  ·exact⟨_,c2⟩
 have am:=run_convert_to_unsafe (P:=P) (w:=w) ht hu Y al;have a2:=events_convert_to_unsafe (P:=P) (w:=w) ht hu Y al;have ap:execOp (⟨T,ds⟩:Act).eval ⟨d,.convert t u x,ty,pp,af,g⟩=(do pure (Next.value (← Go.convert t u (.pointer (some ad))))):=by
  rw [Lg];simp only [execOp,O.ev a1]
 rw [BW U,BW U,stepG_value (a:=⟨T,ds⟩) (v:= .pointer (some ad)) (w':=w) a0 (Cq O hw) (by simpa using K.1) (by rw [ap];simp [am,Result.andThen]),Lm ac,EG];have e2:listed P b.fn ⟨T,ds⟩ ⟨d,.convert t u x,ty,pp,af,g⟩ w= #[]:=by
  unfold listed;rw [ap];simp [am,a2,Result.evThen,seen_none]
 rw [e2]
end
section
variable {P:Program}{F:Fam}{J:Judge P}{Q:GP}{n:Nat}{L L':Env}{ds:Ld_}{k:Li_}{cs:Lf_}{s s':St}{b:Frame}{main:Bool}
def dw(P:Program)(b:Frame)(n:Nat)(L:Env)(d:Option Tmp)(ds:Ld_)(todo:Li_)(cs:Lf_)(U:Frame):Prop:=
 ∀(K:Judge P) (O:GP) (v:Value) (s':St),JL K O b n (AB L d v) ds todo cs s'->K.ok O (G (U.finish v) cs) s'
theorem Hx{fn:Func}{c:Code}(Y:ops[i]? =some ⟨d,.call ⟨.value (.func f),args,ats⟩,ty,pp,af,g⟩)(hw:AY L ops ⟨d,.call ⟨.value (.func f),args,ats⟩,ty,pp,af,g⟩=some true)(O:((b.kind != .early)&&Br n d)=true)
  (Z:P.funcs[f]? =some fn) (al:(fn.name== "runtime.NumGoroutine")=false) (hb:fn.body=some c) (am:evs L args.toList=some vs) (az:vs.length<=fn.ntmps)
  (h:∀ac:Frame,dw P b n L d ds (.inRegion ops rest::k) cs ac->JL J Q (base f) fn.ntmps (GG 0 vs) [] [.code c] (ac::cs) s):
  JL J Q b n L ds (.inRegion ops (i::rest)::k) cs s:=λT U=>by
 simp only [Bool.and_eq_true] at O
 have ap:args.map (BK T)=vs.toArray:=by
  rw [← GW U.Gs am];apply Array.ext';simp
 refine Judge.oper Y (Cq U hw) (by simpa using O.1) (.inr λc aq=>by cases aq) ?_;have av:Em P f=true:=by unfold Em;rw [Z];simp [al,hb]
 have hd:lp P (execOp (BK T) ⟨d,.call ⟨.value (.func f),args,ats⟩,ty,pp,af,g⟩) s (upon J Q b T ds ops i rest k cs d) (LL J Q b T ds ops i rest k cs):=by
  simp only [execOp,resolve,bind,Sem.bind,Deferred.ofValue,BK,pure,invoke];have e: #[]++args.map (BK T)++ #[]=vs.toArray:=by rw [ap];simp
  rw [e];refine Ji av ?_;have he:Frame.enter P f vs.toArray .normal=fr (base f) (vs.toArray++Array.replicate (fn.ntmps - vs.length) undef) [] [.code c]:=by
   simp [Frame.enter,fr,Z,hb,base];rfl
  show J.ok Q (G (Frame.enter P f vs.toArray .normal) _) s;rw [he];refine h _ (λa0 a1 v s' aw=>?_) _ ⟨by simp;omega,λt v ht=>?_⟩
  ·rw [GV (o:=⟨d,.call ⟨.value (.func f),args,ats⟩,ty,pp,af,g⟩) _ _ _ _ _ Y];exact aw _ (U.put O.2 v)
  ·obtain⟨_,K⟩:=JV ht;have ay:t<vs.length:=by
    rcases Nat.lt_or_ge t vs.length with ag | ag
    ·exact ag
    ·simp at K;have:=(List.getElem?_eq_some_iff.1 K).1;omega
   rw [Array.getD_eq_getD_getElem?,Array.getElem?_append_left (by simpa using ay)];simp at K;simp [K]
 exact hd
theorem Yl.ext{e:Av_->Sem Value}{v:Value}{ρ:Operand->Value}(he:Cp P f e)(O:args.map ρ=vs.toArray)(h:e vs.toArray= .pure v):Yl P ⟨d,.call ⟨.value (.func f),args,ats⟩,ty,pp,af,g⟩ ρ s v∨ρ (.func f)≠ .func (.func f) #[] #[]:=by
 by_cases K:ρ (.func f)= .func (.func f) #[] #[]
 ·left;obtain⟨fn,U,Y,Z,ac,ag⟩:=he.h;unfold Yl;simp only [execOp,resolve,bind,Sem.bind,Deferred.ofValue,K,pure,invoke];have al: #[]++args.map ρ++ #[]=vs.toArray:=by rw [O];simp
  rw [al];have am:fn.body=none:=by simpa using Z
  simp only [callFunc,bind,Sem.bind,program,lp,U,Y,am,Option.isNone_none,Bool.false_eq_true,if_false,if_true,mark,ac,ag,h,pure];exact⟨.inr ⟨f,V⟩,trivial,trivial⟩
 ·exact .inr K
theorem JL.ext{e:Av_->Sem Value}{v:Value}(O:ops[i]? =some ⟨d,.call ⟨.value (.func f),args,ats⟩,ty,pp,af,g⟩)(hw:AY L ops ⟨d,.call ⟨.value (.func f),args,ats⟩,ty,pp,af,g⟩=some true)(U:BY b n ⟨d,.call ⟨.value (.func f),args,ats⟩,ty,pp,af,g⟩=true)
  (he:Cp P f e) (Y:evs L args.toList=some vs) (Z:e vs.toArray= .pure v) (h:JL J Q b n (AB L d v) ds (.inRegion ops rest::k) cs s):JL J Q b n L ds (.inRegion ops (i::rest)::k) cs s:=
 Bf O hw U (λρ K=>by
  have ac:args.map ρ=vs.toArray:=by
   rw [← GW K Y]
   apply Array.ext';simp
  rcases Yl.ext (s:=s) (d:=d) (ats:=ats) (ty:=ty) (pp:=pp) (af:=af) (g:=g) he ac Z with q | q
  ·exact q
  ·exact absurd (K (.func f) _ rfl) q) h
end
section
variable {P:Program}{L:WgLink}(H:WgLib P L){F:Fam}{n:Nat}{M:Env}{ds:Ld_}{k:Li_}{cs:Lf_}{s:St}{b:Frame}
include H
theorem Yd(K:ops[i]? =some ⟨d,.call ⟨.value (.func L.uAdd),#[x,y],ats⟩,ty,pp,af,g⟩)(hw:AY M ops ⟨d,.call ⟨.value (.func L.uAdd),#[x,y],ats⟩,ty,pp,af,g⟩=some true)(O:((b.kind != .early)&&Br n d)=true)
  (U:ev M x=some (.pointer (some F.sA))) (Y:ev M y=some (.int .u64 18446744069414584320))
  (Z:JL (A8 P false) (Stop P F .Hg) b n (AB M d (.int .u64 (Fam.word 0 1))) ds (.inRegion ops rest::k) cs .quiet)
  (ac:∀v wt:Nat,v<2147483647->wt<=1->¬(v=0/\wt=1)->JL (Is P) (I8 P 1) b n (AB M d (.int .u64 (Fam.word v wt))) ds (.inRegion ops rest::k) cs .quiet):
  JL (A8 P false) (Stop P F .HI) b n M ds (.inRegion ops (i::rest)::k) cs .quiet:=by
 refine Hx (vs:= [.pointer (some F.sA),.int .u64 18446744069414584320]) K hw O H.f_uAdd (nm_uAdd L) V (by simp [evs,U,Y]) (Nat.le_of_ble_eq_true V) λap back=>JL.go 8 V (Bf V V V (λρ h=>Yl.fieldAddr H.underlying_tAU V (GD H.sizeOf_tU64) (h _ _ V)) ?_);refine JL.go 1 V (Yp V V V V (S6 H) V V ?_ λv wt ag al am=>?_)
 ·refine Bf V V V (λρ h=>Yl.assign (h _ _ V)) (JL.done ?_);exact JL.ret V V (BH.one H.f_uAdd V V) (back _ _ _ _ Z)
 ·refine Bf V V V (λρ h=>Yl.assign (h _ _ V)) (JL.done ?_);exact JL.ret V V (BH.one H.f_uAdd V V) (back _ _ _ _ (ac v wt ag al am))
theorem XH{j:Nat}(K:s.q=false)(O:ops[i]? =some ⟨d,.call ⟨.value (.func L.uAdd),#[x,y],ats⟩,ty,pp,af,g⟩)(hw:AY M ops ⟨d,.call ⟨.value (.func L.uAdd),#[x,y],ats⟩,ty,pp,af,g⟩=some true)(U:((b.kind != .early)&&Br n d)=true)
  (Y:ev M x=some (.pointer (some F.sA))) (Z:ev M y=some (.int .u64 4294967296))
  (ac:JL (A8 P true) (Stop P F (.IL j)) b n (AB M d (.int .u64 (Fam.word 1 0))) ds (.inRegion ops rest::k) cs s)
  (ag:∀v:Nat,1<=v->v<2147483647->JL (A8 P true) (Stop P F (.Hn j)) b n (AB M d (.int .u64 (Fam.word (v+1) 0))) ds (.inRegion ops rest::k) cs s):
  JL (A8 P true) (Stop P F (.II j)) b n M ds (.inRegion ops (i::rest)::k) cs s:=by
 refine Hx (vs:= [.pointer (some F.sA),.int .u64 4294967296]) O hw U H.f_uAdd (nm_uAdd L) V (by simp [evs,Y,Z]) (Nat.le_of_ble_eq_true V) λap back=>JL.go 8 V (Bf V V V (λρ h=>Yl.fieldAddr H.underlying_tAU V (GD H.sizeOf_tU64) (h _ _ V)) ?_);refine JL.go 1 V (Yy K V V V V (S6 H) V V ?_ λv al am=>?_)
 ·refine Bf V V V (λρ h=>Yl.assign (h _ _ V)) (JL.done ?_);exact JL.ret V V (BH.one H.f_uAdd V V) (back _ _ _ _ ac)
 ·refine Bf V V V (λρ h=>Yl.assign (h _ _ V)) (JL.done ?_);exact JL.ret V V (BH.one H.f_uAdd V V) (back _ _ _ _ (ag v al am))
theorem JL.uLoad(K:Lw p=true)(O:if Fam.Da p=true then s= .quiet else s.q=false)(U:p≠ .FL)(Y:Fam.JF p s=s)(Z:∀v wt sm r,F.act p v wt sm=some r->r.1=(v,wt,sm)/\r.2.1= #[Fam.Cw F.sA])(ac:ops[i]? =some ⟨d,.call ⟨.value (.func L.uLoad),#[x],ats⟩,ty,pp,af,g⟩)(hw:AY M ops ⟨d,.call ⟨.value (.func L.uLoad),#[x],ats⟩,ty,pp,af,g⟩=some true)(ag:((b.kind != .early)&&Br n d)=true)
  (al:ev M x=some (.pointer (some F.sA)))
  (h:∀v wt sm r,F.act p v wt sm=some r->∃q,r.2.2= .ph q/\JL (A8 P (Fam.CW p)) (Stop P F q) b n (AB M d (.int .u64 (Fam.word v wt))) ds (.inRegion ops rest::k) cs s):
  JL (A8 P (Fam.CW p)) (Stop P F p) b n M ds (.inRegion ops (i::rest)::k) cs s:=by
 refine Hx (vs:= [.pointer (some F.sA)]) ac hw ag H.f_uLoad (nm_uLoad L) V (by simp [evs,al]) (Nat.le_of_ble_eq_true V) λav back=>JL.go 8 V (Bf V V V (λρ h=>Yl.fieldAddr H.underlying_tAU V (GD H.sizeOf_tU64) (h _ _ V)) ?_);refine ZL K O U Y Z V V V V (X0 H) V λv wt sm r am=>?_;obtain⟨q,ap,aq⟩:=h v wt sm r am;refine⟨q,ap,?_⟩
 ·refine Bf V V V (λρ h=>Yl.assign (h _ _ V)) (JL.done ?_);exact JL.ret V V (BH.one H.f_uLoad V V) (back _ _ _ _ aq)
theorem JL.uStore(K:ops[i]? =some ⟨d,.call ⟨.value (.func L.uStore),#[x,y],ats⟩,ty,pp,af,g⟩)(hw:AY M ops ⟨d,.call ⟨.value (.func L.uStore),#[x,y],ats⟩,ty,pp,af,g⟩=some true)(O:((b.kind != .early)&&Br n d)=true)
  (U:ev M x=some (.pointer (some F.sA))) (Y:ev M y=some (.int .u64 0))
  (h:JL (A8 P false) (Stop P F .FL) b n (AB M d (.tuple #[])) ds (.inRegion ops rest::k) cs .quiet):
  JL (A8 P false) (Stop P F .HA) b n M ds (.inRegion ops (i::rest)::k) cs .quiet:=by
 refine Hx (vs:= [.pointer (some F.sA),.int .u64 0]) K hw O H.f_uStore (nm_uStore L) V (by simp [evs,U,Y]) (Nat.le_of_ble_eq_true V) λZ back=>JL.go 3 V (Bf V V V (λρ h=>Yl.fieldAddr H.underlying_tAU V (GD H.sizeOf_tU64) (h _ _ V)) ?_);refine JL.go 1 V (bJ V V V V (WN H) V V ?_);exact JL.done (JL.fin V V (BH.none H.f_uStore V) (back _ _ _ _ h))
theorem JL.uCas{m:Nat}(K:s.q=false)(O:ops[i]? =some ⟨d,.call ⟨.value (.func L.uCas),#[x,y,z],ats⟩,ty,pp,af,g⟩)(hw:AY M ops ⟨d,.call ⟨.value (.func L.uCas),#[x,y,z],ats⟩,ty,pp,af,g⟩=some true)(U:((b.kind != .early)&&Br n d)=true)
  (Y:ev M x=some (.pointer (some F.sA))) (Z:ev M y=some (.int .u64 (Fam.word m 0))) (ac:ev M z=some (.int .u64 (Fam.word m 1)))
  (ag:JL (A8 P true) (Stop P F .IQ) b n (AB M d (.bool true)) ds (.inRegion ops rest::k) cs s)
  (al:JL (A8 P true) (Stop P F (.Gt (m - 1))) b n (AB M d (.bool false)) ds (.inRegion ops rest::k) cs s):
  JL (A8 P true) (Stop P F (.HF m)) b n M ds (.inRegion ops (i::rest)::k) cs s:=by
 refine Hx (vs:= [.pointer (some F.sA),.int .u64 (Fam.word m 0),.int .u64 (Fam.word m 1)]) O hw U H.f_uCas (nm_uCas L) V (by simp [evs,Y,Z,ac]) (Nat.le_of_ble_eq_true V) λam back=>JL.go 8 V (Bf V V V (λρ h=>Yl.fieldAddr H.underlying_tAU V (GD H.sizeOf_tU64) (h _ _ V)) ?_);refine JL.go 2 V (bG (m:=m) K V V V V (Zp H) V V V ?_ ?_)
 ·refine Bf V V V (λρ h=>Yl.assign (h _ _ V)) (JL.done ?_);exact JL.ret V V (BH.one H.f_uCas V V) (back _ _ _ _ ag)
 ·refine Bf V V V (λρ h=>Yl.assign (h _ _ V)) (JL.done ?_);exact JL.ret V V (BH.one H.f_uCas V V) (back _ _ _ _ al)
end
theorem LJ{v wt:Nat}(K:v<2147483648)(O:wt<=1):IntKind.u64.wrap (BitVec.ofInt IntKind.u64.bits (Fam.word v wt)&&& BitVec.ofInt IntKind.u64.bits 2147483648).toNat=0:=by
 have:=Go.ConcN.st_flag v wt K O;simpa [bits,Fam.word,Fam.KK] using this
theorem LQ{v wt:Nat}(K:v<2147483648)(O:wt<=1):IntKind.u64.wrap (BitVec.ofInt IntKind.u64.bits (Fam.word v wt)&&& BitVec.ofInt IntKind.u64.bits 2147483647).toNat=(wt:Int):=by
 have:=Go.ConcN.st_waiters v wt K O;simpa [bits,Fam.word,Fam.KK] using this
theorem Ll{v wt:Nat}(K:wt<=1):(Fam.word v wt).fdiv (2 ^ (min (32:Int).toNat IntKind.u64.bits))=(v:Int):=by
 have e:(2:Int) ^ (min (32:Int).toNat IntKind.u64.bits)=4294967296:=by decide
 rw [e,Int.fdiv_eq_ediv_of_nonneg _ (by decide)];simp only [Fam.word,Fam.KK];omega
theorem wrap_i32{v:Nat}(K:v<2147483648):IntKind.i32.wrap (v:Int)=v:=by
 simp only [IntKind.wrap,IntKind.bits,IntKind.signed];simp;split <;> omega
theorem wrap_u32{v:Nat}(K:v<=1):IntKind.u32.wrap (v:Int)=v:=by
 simp only [IntKind.wrap,IntKind.bits,IntKind.signed];simp;omega
theorem WJ{F:Fam}:∀v wt sm r,F.act .Hg v wt sm=some r->r.1=(v,wt,sm)/\r.2.1= #[Fam.Cw F.sA]:=by
 intro v wt sm r h;simp only [Fam.act] at h;split at h
 ·rename_i K;obtain⟨rfl,rfl⟩:=K;cases h;exact⟨V,V⟩
 ·cases h
theorem Yf{F:Fam}{v wt sm:Nat}{r}(h:F.act .Hg v wt sm=some r):v=0/\wt=1/\r.2.2= .ph .HA:=by
 simp only [Fam.act] at h;split at h
 ·rename_i K;cases h;exact⟨K.1,K.2,V⟩
 ·cases h
section
variable {P:Program}{L:WgLink}(H:WgLib P L){F:Fam}{n:Nat}{M:Env}{ds:Ld_}{k:Li_}{cs:Lf_}{s:St}{b:Frame}
include H
theorem Ws(U:s.q=false)(Y:ops[i]? =some ⟨d,.call ⟨.value (.func L.add),#[x,y],ats⟩,ty,pp,af,g⟩)(hw:AY M ops ⟨d,.call ⟨.value (.func L.add),#[x,y],ats⟩,ty,pp,af,g⟩=some true)(Z:((b.kind != .early)&&Br n d)=true)
  (ac:ev M x=some (.pointer (some F.sA))) (ag:ev M y=some (.int .i64 (-1)))
  (h:JL (Is P) (I8 P 0) b n (AB M d (.tuple #[])) ds (.inRegion ops rest::k) cs .quiet):
  JL (A8 P false) (Stop P F .Ia) b n M ds (.inRegion ops (i::rest)::k) cs s:=by
 refine Hx (vs:= [.pointer (some F.sA),.int .i64 (-1)]) Y hw Z H.f_add (nm_add L) V (by simp [evs,ac,ag]) (Nat.le_of_ble_eq_true V) λam back=>JL.go 11 V (Mx (p:= .Ia) (q:= .G2) (ad:=F.sA) V U (by simp) (λ_ _ _=>V) V V V V V H.underlying_tWgP H.underlying_tUP H.room_tWg V (.inl V) ?_)
 refine PD (p:= .G2) (q:= .I9) (mk:= .releaseMerge) (ad:=F.sA) (vs:= [.pointer (some F.sA)]) V U (by simp) (λ_ _ _=>V) V V V V (by simp) (Rh H) V V (JL.go 3 V ?_);refine Mp (p:= .I9) (q:= .HI) V V (by simp) (λ_ _ _=>V) V V V V V (by simp) (Nf H) (JL.go 2 V ?_);refine JL.defer (vs:= []) V V V V V (JL.go 8 V ?_);refine JL.ext (vs:= []) V V V (Ry H) V V (JL.go 7 V ?_);refine Bf V V V (λρ h=>Yl.fieldAddr H.underlying_tWg V (GD H.sizeOf_tAU) (h _ _ V)) (JL.go 1 V ?_);refine Bf V V V (λρ h=>FI H.underlying_t3 H.underlying_tU64 (h _ _ V)) ?_
 refine Bf (v:= .int .u64 18446744069414584320) V V V (λρ h=>(Yl.shl (h _ _ V) (h _ _ V) (by decide)).to (congrArg _ (by decide))) (Yd H V V V V V ?_ λv wt ap K aq=>?_)
 ·refine Bf V V V (λρ h=>Yl.assign (h _ _ V)) (JL.go 5 V ?_);refine Bf (v:= .int .u64 0) V V V (λρ h=>(Yl.and (h _ _ V) (h _ _ V)).to (congrArg _ (LJ (v:=0) (wt:=1) (by decide) (by decide)))) (Bf V V V (λρ h=>Yl.neq (h _ _ V) (h _ _ V)) ?_);refine JL.go 10 V (Bf (v:= .int .u64 (0:Nat)) V V V (λρ h=>(Yl.shr (h _ _ V) (h _ _ V) (by decide)).to (congrArg _ (Ll (v:=0) (wt:=1) (by decide)))) ?_);refine Bf (v:= .int .i32 (0:Nat)) V V V (λρ h=>(FI H.underlying_tU64 H.underlying_t21 (h _ _ V)).to (congrArg _ (wrap_i32 (by decide)))) ?_
  refine JL.go 5 V (Bf (v:= .int .u64 (1:Nat)) V V V (λρ h=>(Yl.and (h _ _ V) (h _ _ V)).to (congrArg _ (LQ (v:=0) (wt:=1) (by decide) (by decide)))) ?_);refine Bf (v:= .int .u32 (1:Nat)) V V V (λρ h=>(FI H.underlying_tU64 H.underlying_tU32 (h _ _ V)).to (congrArg _ (wrap_u32 (by decide)))) ?_
  refine JL.go 30 V (Bf V V V (λρ h=>Yl.neq (h _ _ V) (h _ _ V)) ?_);refine JL.go 30 V (Bf V V V (λρ h=>Yl.fieldAddr H.underlying_tWg V (GD H.sizeOf_tAU) (h _ _ V)) ?_);refine JL.uLoad H (p:= .Hg) V V (by simp) V WJ V V V V λv wt sm r al=>?_;obtain⟨rfl,rfl,e⟩:=Yf al;refine⟨.HA,e,?_⟩;refine JL.go 1 V (Bf (v:= .bool false) V V V (λρ h=>(Yl.neq (h _ _ V) (h _ _ V)).to (by simp)) ?_);refine JL.go 7 V (Bf V V V (λρ h=>Yl.fieldAddr H.underlying_tWg V (GD H.sizeOf_tAU) (h _ _ V)) ?_);refine JL.uStore H V V V V V (JL.go 9 V ?_);refine IV (JL.go 4 V ?_);refine Bf V V V (λρ h=>Yl.neq (h _ _ V) (h _ _ V)) (JL.go 8 V ?_);refine Bf V V V (λρ h=>Yl.fieldAddr H.underlying_tWg V (GD H.sizeOf_tU32) (h _ _ V)) (XB (vs:= [.pointer (some F.mA),.bool false,.int .i64 0]) V V V V (WR H) V V ?_);refine JL.go 4 V (Bf (v:= .int .u32 ((0:Nat):Int)) V V V (λρ h=>(Yl.sub (h _ _ V) (h _ _ V)).to (congrArg _ (by decide))) ?_);refine JL.go 2 V (JL.again ?_);refine JL.go 4 V (Bf V V V (λρ h=>Yl.neq (h _ _ V) (h _ _ V)) ?_);refine JL.go 3 V (JL.out V (JO.Nz V (Jj H) (JO.leave V (BH.none H.f_add V) (back _ _ _ _ h))))
 ·refine Bf V V V (λρ h=>Yl.assign (h _ _ V)) (JL.go 5 V ?_);refine Bf (v:= .int .u64 0) V V V (λρ h=>(Yl.and (h _ _ V) (h _ _ V)).to (congrArg _ (LJ (v:=v) (wt:=wt) (by omega) K))) (Bf V V V (λρ h=>Yl.neq (h _ _ V) (h _ _ V)) ?_);refine JL.go 10 V (Bf (v:= .int .u64 (v:Nat)) V V V (λρ h=>(Yl.shr (h _ _ V) (h _ _ V) (by decide)).to (congrArg _ (Ll (v:=v) (wt:=wt) K))) ?_);refine Bf (v:= .int .i32 (v:Nat)) V V V (λρ h=>(FI H.underlying_tU64 H.underlying_t21 (h _ _ V)).to (congrArg _ (wrap_i32 (by omega)))) ?_
  refine JL.go 5 V (Bf (v:= .int .u64 (wt:Nat)) V V V (λρ h=>(Yl.and (h _ _ V) (h _ _ V)).to (congrArg _ (LQ (v:=v) (wt:=wt) (by omega) K))) ?_);refine Bf (v:= .int .u32 (wt:Nat)) V V V (λρ h=>(FI H.underlying_tU64 H.underlying_tU32 (h _ _ V)).to (congrArg _ (wrap_u32 K))) ?_
  refine JL.go 22 V (Bf (v:= .bool false) V V V (λρ h=>(Yl.lss (h _ _ V) (h _ _ V)).to (by simp)) ?_);refine JL.go 6 V ?_;by_cases O:wt=0
  ·refine Bf V V V (λρ h=>Yl.move (h _ _ V)) (Bf (v:= .bool false) V V V (λρ h=>(Yl.neq (h _ _ V) (h _ _ V)).to (by simp [O])) ?_);refine JL.go 16 V ?_;by_cases av:0<v
   ·refine Bf V V V (λρ h=>Yl.move (h _ _ V)) (Bf (v:= .bool true) V V V (λρ h=>(Yl.gtr (h _ _ V) (h _ _ V)).to (by simp <;> omega)) ?_);refine JL.go 6 V (HV V (JO.Nz V (Jj H) (JO.leave V (BH.none H.f_add V) (back _ _ _ _ h))))
   ·refine Bf V V V (λρ h=>Yl.move (h _ _ V)) (Bf (v:= .bool false) V V V (λρ h=>(Yl.gtr (h _ _ V) (h _ _ V)).to (by simp <;> omega)) ?_);refine JL.go 2 V (Bf (v:= .bool true) V V V (λρ h=>(Yl.eql (h _ _ V) (h _ _ V)).to (by simp [O])) ?_);refine JL.go 3 V (HV V (JO.Nz V (Jj H) (JO.leave V (BH.none H.f_add V) (back _ _ _ _ h))))
  ·refine Bf V V V (λρ h=>Yl.move (h _ _ V)) (Bf (v:= .bool true) V V V (λρ h=>(Yl.neq (h _ _ V) (h _ _ V)).to (by simp [O])) ?_);refine JL.go 17 V (Bf (v:= .bool true) V V V (λρ h=>(Yl.gtr (h _ _ V) (h _ _ V)).to (by simp <;> omega)) ?_);refine JL.go 6 V (HV V (JO.Nz V (Jj H) (JO.leave V (BH.none H.f_add V) (back _ _ _ _ h))))
theorem Wb{j:Nat}(K:s.q=false)(O:ops[i]? =some ⟨d,.call ⟨.value (.func L.add),#[x,y],ats⟩,ty,pp,af,g⟩)(hw:AY M ops ⟨d,.call ⟨.value (.func L.add),#[x,y],ats⟩,ty,pp,af,g⟩=some true)(U:((b.kind != .early)&&Br n d)=true)
  (Y:ev M x=some (.pointer (some F.sA))) (Z:ev M y=some (.int .i64 1))
  (h:JL (A8 P true) (Stop P F (.Ge j)) b n (AB M d (.tuple #[])) ds (.inRegion ops rest::k) cs s):
  JL (A8 P true) (Stop P F (.GK j)) b n M ds (.inRegion ops (i::rest)::k) cs s:=by
 refine Hx (vs:= [.pointer (some F.sA),.int .i64 1]) O hw U H.f_add (nm_add L) V (by simp [evs,Y,Z]) (Nat.le_of_ble_eq_true V) λac back=>JL.go 12 V (Mp (p:= .GK j) (q:= .II j) V K (by simp) (λ_ _ _=>V) V V V V V (by simp) (Nf H) ?_);refine JL.go 2 V (JL.defer (vs:= []) V V V V V ?_);refine JL.go 8 V (JL.ext (vs:= []) V V V (Ry H) V V ?_);refine JL.go 7 V (Bf V V V (λρ h=>Yl.fieldAddr H.underlying_tWg V (GD H.sizeOf_tAU) (h _ _ V)) ?_);refine JL.go 1 V (Bf V V V (λρ h=>FI H.underlying_t3 H.underlying_tU64 (h _ _ V)) ?_)
 refine Bf (v:= .int .u64 4294967296) V V V (λρ h=>(Yl.shl (h _ _ V) (h _ _ V) (by decide)).to (congrArg _ (by decide))) (XH H K V V V V V ?_ λv ag al=>?_)
 ·refine Bf V V V (λρ h=>Yl.assign (h _ _ V)) (JL.go 5 V ?_);refine Bf (v:= .int .u64 0) V V V (λρ h=>(Yl.and (h _ _ V) (h _ _ V)).to (congrArg _ (LJ (v:=1) (wt:=0) (by decide) (by decide)))) (Bf V V V (λρ h=>Yl.neq (h _ _ V) (h _ _ V)) ?_);refine JL.go 10 V (Bf (v:= .int .u64 (1:Nat)) V V V (λρ h=>(Yl.shr (h _ _ V) (h _ _ V) (by decide)).to (congrArg _ (Ll (v:=1) (wt:=0) (by decide)))) ?_);refine Bf (v:= .int .i32 (1:Nat)) V V V (λρ h=>(FI H.underlying_tU64 H.underlying_t21 (h _ _ V)).to (congrArg _ (wrap_i32 (by decide)))) ?_
  refine JL.go 5 V (Bf (v:= .int .u64 (0:Nat)) V V V (λρ h=>(Yl.and (h _ _ V) (h _ _ V)).to (congrArg _ (LQ (v:=1) (wt:=0) (by decide) (by decide)))) ?_);refine Bf (v:= .int .u32 (0:Nat)) V V V (λρ h=>(FI H.underlying_tU64 H.underlying_tU32 (h _ _ V)).to (congrArg _ (wrap_u32 (by decide)))) ?_
  refine JL.go 12 V (Bf (v:= .int .i32 1) V V V (λρ h=>(FI H.underlying_t3 H.underlying_t21 (h _ _ V)).to (congrArg _ (by decide))) ?_)
  refine Bf (v:= .bool true) V V V (λρ h=>(Yl.eql (h _ _ V) (h _ _ V)).to (by simp)) (JL.go 6 V ?_);refine Bf V V V (λρ h=>Yl.fieldAddr H.underlying_tWg V (GD H.sizeOf_tU32) (h _ _ V)) (Mx (p:= .IL j) (q:= .H5 j) (ad:=F.mA) V K (by simp) (λ_ _ _=>V) V V V V V H.underlying_tPU32 H.underlying_tUP H.room_tU32 V (.inr V) ?_)
  refine PD (p:= .H5 j) (q:= .Hn j) (mk:= .read) (ad:=F.mA) (vs:= [.pointer (some F.mA)]) V K (by simp) (λ_ _ _=>V) V V V V (by simp) (XO H) V V (JL.go 5 V ?_);refine Bf (v:= .bool false) V V V (λρ h=>(Yl.lss (h _ _ V) (h _ _ V)).to (by simp)) (JL.go 7 V ?_);refine Bf (v:= .bool false) V V V (λρ h=>(Yl.neq (h _ _ V) (h _ _ V)).to (by simp)) (JL.go 17 V ?_);refine Bf (v:= .bool true) V V V (λρ h=>(Yl.gtr (h _ _ V) (h _ _ V)).to (by simp)) (JL.go 6 V ?_);exact HV V (JO.Tv K V (Jj H) (JO.leave V (BH.none H.f_add V) (back _ _ _ _ h)))
 ·refine Bf V V V (λρ h=>Yl.assign (h _ _ V)) (JL.go 5 V ?_);refine Bf (v:= .int .u64 0) V V V (λρ h=>(Yl.and (h _ _ V) (h _ _ V)).to (congrArg _ (LJ (v:=(v+1)) (wt:=0) (by omega) (by decide)))) (Bf V V V (λρ h=>Yl.neq (h _ _ V) (h _ _ V)) ?_);refine JL.go 10 V (Bf (v:= .int .u64 ((v+1):Nat)) V V V (λρ h=>(Yl.shr (h _ _ V) (h _ _ V) (by decide)).to (congrArg _ (Ll (v:=(v+1)) (wt:=0) (by decide)))) ?_);refine Bf (v:= .int .i32 ((v+1):Nat)) V V V (λρ h=>(FI H.underlying_tU64 H.underlying_t21 (h _ _ V)).to (congrArg _ (wrap_i32 (by omega)))) ?_
  refine JL.go 5 V (Bf (v:= .int .u64 (0:Nat)) V V V (λρ h=>(Yl.and (h _ _ V) (h _ _ V)).to (congrArg _ (LQ (v:=(v+1)) (wt:=0) (by omega) (by decide)))) ?_);refine Bf (v:= .int .u32 (0:Nat)) V V V (λρ h=>(FI H.underlying_tU64 H.underlying_tU32 (h _ _ V)).to (congrArg _ (wrap_u32 (by decide)))) ?_
  refine JL.go 12 V (Bf (v:= .int .i32 1) V V V (λρ h=>(FI H.underlying_t3 H.underlying_t21 (h _ _ V)).to (congrArg _ (by decide))) ?_)
  refine Bf (v:= .bool false) V V V (λρ h=>(Yl.eql (h _ _ V) (h _ _ V)).to (by simp <;> omega)) (JL.go 8 V ?_);refine Bf (v:= .bool false) V V V (λρ h=>(Yl.lss (h _ _ V) (h _ _ V)).to (by simp <;> omega)) (JL.go 7 V ?_);refine Bf (v:= .bool false) V V V (λρ h=>(Yl.neq (h _ _ V) (h _ _ V)).to (by simp)) (JL.go 17 V ?_);refine Bf (v:= .bool true) V V V (λρ h=>(Yl.gtr (h _ _ V) (h _ _ V)).to (by simp <;> omega)) (JL.go 6 V ?_);exact HV V (JO.Tv K V (Jj H) (JO.leave V (BH.none H.f_add V) (back _ _ _ _ h)))
omit H in
theorem W1{m:Nat}:∀v wt sm r,F.act (.Gt m) v wt sm=some r->r.1=(v,wt,sm)/\r.2.1= #[Fam.Cw F.sA]:=by
 intro v wt sm r h;simp only [Fam.act] at h;split at h
 ·rename_i K;obtain⟨_,rfl⟩:=K;cases h;exact⟨V,V⟩
 ·cases h
omit H in
theorem Xm{m v wt sm:Nat}{r}(h:F.act (.Gt m) v wt sm=some r):v<=m/\wt=0/\r.2.2=if v=0 then .ph .GA else .ph (.HF v):=by
 simp only [Fam.act] at h;split at h
 ·rename_i K;cases h;exact⟨K.1,K.2,V⟩
 ·cases h
omit H in
theorem VS:∀v wt sm r,F.act .Hz v wt sm=some r->r.1=(v,wt,sm)/\r.2.1= #[Fam.Cw F.sA]:=by
 intro v wt sm r h;simp only [Fam.act] at h;split at h
 ·rename_i K;obtain⟨rfl,rfl⟩:=K;cases h;exact⟨V,V⟩
 ·cases h
omit H in
theorem Wr{v wt sm:Nat}{r}(h:F.act .Hz v wt sm=some r):v=0/\wt=0/\r.2.2= .ph .GA:=by
 simp only [Fam.act] at h;split at h
 ·rename_i K;cases h;exact⟨K.1,K.2,V⟩
 ·cases h
omit H in
theorem Wm{v:Nat}(K:v<2147483648):IntKind.u64.wrap (Fam.word v 0+1)=Fam.word v 1:=by
 simp only [Fam.word,Fam.KK,IntKind.wrap,IntKind.bits,IntKind.signed];simp;omega
theorem JL.wait(ap:F.n<2147483648)(K:s.q=false)(aq:ops[i]? =some ⟨d,.call ⟨.value (.func L.wait),#[x],ats⟩,ty,pp,af,g⟩)(hw:AY M ops ⟨d,.call ⟨.value (.func L.wait),#[x],ats⟩,ty,pp,af,g⟩=some true)(av:((b.kind != .early)&&Br n d)=true)
  (aw:ev M x=some (.pointer (some F.sA)))
  {Q:GP} (al:∀g s,(Hd P).ok Q g s->F.fin g s)
  (h:∀E' f,Le s.E E'->E' F.fd=none->(∀b,E' b≠none->s.H b=none)->(∀k,k<F.n->F.msg k (f k) E')->JL (Hd P) Q b n (AB M d (.tuple #[])) ds (.inRegion ops rest::k) cs ⟨E',F.J5 s.H f,false⟩):
  JL (A8 P true) (Stop P F .DW) b n M ds (.inRegion ops (i::rest)::k) cs s:=by
 refine Hx (vs:= [.pointer (some F.sA)]) aq hw av H.f_wait (nm_wait L) V (by simp [evs,aw]) (Nat.le_of_ble_eq_true V) λa0 back=>JL.go 3 V (Mp (p:= .DW) (q:= .Gt F.n) V K (by simp) (λ_ _ _=>V) V V V V V (by simp) (Nf H) ?_);refine JL.go 2 V (IV ?_);refine ET (L':= [(0,.pointer (some F.sA))]) ⟨V,trivial⟩ ?_;generalize F.n=m at ap ⊢
 induction m using Nat.strongRecOn with
 | _ m ay=>?_
 refine JL.go 5 V (Bf V V V (λρ h=>Yl.fieldAddr H.underlying_tWg V (GD H.sizeOf_tAU) (h _ _ V)) ?_);refine JL.uLoad H (p:= .Gt m) V K (by simp) V W1 V V V V λv wt sm r U=>?_;obtain⟨a1,rfl,e⟩:=Xm U;have O:v<2147483648:=by omega
 by_cases am:v=0
 ·subst am;refine⟨.GA,e,?_⟩;refine JL.go 5 V (Bf (v:= .int .u64 (0:Nat)) V V V (λρ h=>(Yl.shr (h _ _ V) (h _ _ V) (by decide)).to (congrArg _ (Ll (v:=0) (wt:=0) (by decide)))) ?_);refine Bf (v:= .int .i32 (0:Nat)) V V V (λρ h=>(FI H.underlying_tU64 H.underlying_t21 (h _ _ V)).to (congrArg _ (wrap_i32 (by decide)))) ?_
  refine JL.go 5 V (Bf (v:= .int .u64 ((0:Nat):Int)) V V V (λρ h=>(Yl.and (h _ _ V) (h _ _ V)).to (congrArg _ (LQ (v:=0) (wt:=0) (by decide) (by decide)))) ?_);refine Bf (v:= .int .u32 ((0:Nat):Int)) V V V (λρ h=>(FI H.underlying_tU64 H.underlying_tU32 (h _ _ V)).to (congrArg _ (wrap_u32 (by decide)))) ?_
  refine JL.go 6 V (Bf (v:= .bool true) V V V (λρ h=>(Yl.eql (h _ _ V) (h _ _ V)).to (by simp)) ?_);refine JL.go 6 V (Mp (p:= .GA) (q:= .IE) V K (by simp) (λ_ _ _=>V) V V V V V (by simp) (Jj H) ?_);refine JL.go 3 V (Mx (p:= .IE) (q:= .GH) (ad:=F.sA) V K (by simp) (λ_ _ _=>V) V V V V V H.underlying_tWgP H.underlying_tUP H.room_tWg V (.inl V) ?_)
  refine TF (vs:= [.pointer (some F.sA)]) K V V V V (Pm H) V V λE' Y z1 Z ac ag T az=>al _ _ ?_;revert T;refine(?_:JL (Hd P) Q _ _ _ _ _ _ _);refine JL.go 5 V (Bf (v:= .bool true) V V V (λρ h=>(Yl.eql (h _ _ V) (h _ _ V)).to (by simp)) ?_);refine JL.go 2 V (Bf (v:= .int .u64 0) V V V (λρ h=>(Yl.and (h _ _ V) (h _ _ V)).to (congrArg _ (LJ (v:=0) (wt:=0) (by decide) (by decide)))) ?_);refine Bf (v:= .bool false) V V V (λρ h=>(Yl.neq (h _ _ V) (h _ _ V)).to (by simp)) (JL.go 8 V ?_);exact JL.ret V V (BH.none H.f_wait V) (back _ _ _ _ (h E' Y z1 Z ac ag))
 ·refine⟨.HF v,by rw [e,if_neg am],?_⟩;refine JL.go 5 V (Bf (v:= .int .u64 (v:Nat)) V V V (λρ h=>(Yl.shr (h _ _ V) (h _ _ V) (by decide)).to (congrArg _ (Ll (v:=v) (wt:=0) (by decide)))) ?_);refine Bf (v:= .int .i32 (v:Nat)) V V V (λρ h=>(FI H.underlying_tU64 H.underlying_t21 (h _ _ V)).to (congrArg _ (wrap_i32 O))) ?_
  refine JL.go 5 V (Bf (v:= .int .u64 ((0:Nat):Int)) V V V (λρ h=>(Yl.and (h _ _ V) (h _ _ V)).to (congrArg _ (LQ (v:=v) (wt:=0) O (by decide)))) ?_);refine Bf (v:= .int .u32 ((0:Nat):Int)) V V V (λρ h=>(FI H.underlying_tU64 H.underlying_tU32 (h _ _ V)).to (congrArg _ (wrap_u32 (by decide)))) ?_
  refine JL.go 6 V (Bf (v:= .bool false) V V V (λρ h=>(Yl.eql (h _ _ V) (h _ _ V)).to (by simp <;> omega)) ?_);refine JL.go 7 V (Bf V V V (λρ h=>Yl.fieldAddr H.underlying_tWg V (GD H.sizeOf_tAU) (h _ _ V)) ?_);refine JL.go 2 V (Bf (v:= .int .u64 (Fam.word v 1)) V V V (λρ h=>(Yl.add (h _ _ V) (h _ _ V)).to (congrArg _ (Wm O))) ?_);refine JL.uCas H (m:=v) K V V V V V V ?_ ?_
  ·refine JL.done (JL.go 6 V ?_);refine Bf (v:= .bool true) V V V (λρ h=>(Yl.eql (h _ _ V) (h _ _ V)).to (by simp)) (JL.go 6 V ?_);refine Bf V V V (λρ h=>Yl.fieldAddr H.underlying_tWg V (GD H.sizeOf_tU32) (h _ _ V)) (Mx (p:= .IQ) (q:= .Ic) (ad:=F.mA) V K (by simp) (λ_ _ _=>V) V V V V V H.underlying_tPU32 H.underlying_tUP H.room_tU32 V (.inr V) ?_)
   refine PD (p:= .Ic) (q:= .FZ) (mk:= .write) (ad:=F.mA) (vs:= [.pointer (some F.mA)]) V K (by simp) (λ_ _ _=>V) V V V V (by simp) (WT H) V V (JL.go 9 V ?_);refine Bf (v:= .int .u64 0) V V V (λρ h=>(Yl.and (h _ _ V) (h _ _ V)).to (congrArg _ (LJ (v:=v) (wt:=0) O (by decide)))) (Bf (v:= .bool false) V V V (λρ h=>(Yl.neq (h _ _ V) (h _ _ V)).to (by simp)) ?_);refine JL.go 10 V (Bf V V V (λρ h=>Yl.fieldAddr H.underlying_tWg V (GD H.sizeOf_tU32) (h _ _ V)) ?_);refine JL.go 1 V (V9 (vs:= [.pointer (some F.mA),.bool false]) K V V V V (VC H) V V ?_);refine JL.go 5 V (Bf V V V (λρ h=>Yl.fieldAddr H.underlying_tWg V (GD H.sizeOf_tAU) (h _ _ V)) ?_);refine JL.uLoad H (p:= .Hz) V K (by simp) V VS V V V V λv wt sm r U=>?_;obtain⟨rfl,rfl,e⟩:=Wr U;refine⟨.GA,e,?_⟩;refine Bf (v:= .bool false) V V V (λρ h=>(Yl.neq (h _ _ V) (h _ _ V)).to (by simp [Fam.word])) (JL.go 6 V ?_);refine Mp (p:= .GA) (q:= .IE) V K (by simp) (λ_ _ _=>V) V V V V V (by simp) (Jj H) (JL.go 3 V ?_);refine Mx (p:= .IE) (q:= .GH) (ad:=F.sA) V K (by simp) (λ_ _ _=>V) V V V V V H.underlying_tWgP H.underlying_tUP H.room_tWg V (.inl V) ?_
   refine TF (vs:= [.pointer (some F.sA)]) K V V V V (Pm H) V V λE' Y z1 Z ac ag T az=>al _ _ ?_;revert T;refine(?_:JL (Hd P) Q _ _ _ _ _ _ _);exact JL.go 8 V (JL.ret V V (BH.none H.f_wait V) (back _ _ _ _ (h E' Y z1 Z ac ag)))
  ·refine JL.done (JL.go 3 V ?_);refine JL.again (ET (L':= [(0,.pointer (some F.sA))]) ⟨V,trivial⟩ ?_);exact ay (v - 1) (by omega) (by omega)
theorem JO.b8(K:b.roundOf=none)(O:s.q=false)(h:JO (Is P) (I8 P 0) b n M ds cs .quiet):
  JO (A8 P false) (Stop P F .Ia) b n M (dcall L.done #[.pointer (some F.sA)]::ds) cs s:=by
 refine JO.enter (vs:= [.pointer (some F.sA)]) K H.f_done (nm_done L) V (Nat.le_of_ble_eq_true V) λT U todo=>JL.go 2 V (Ws H O V V V V V ?_);exact JL.done (JL.out V (JO.leaveD V H.f_done V (.inl V) (h T U todo)))
end
end Pal
namespace Pal
open Go Go.Conc
variable {P:Program}{J:Judge P}{Q:Gs_}{g:Goroutine}{cs:Lf_}{c:Frame}{E:LH}{S S':List Seg}
section
variable {H:LH}
theorem NH(K:S.flatten.Perm S'.flatten)(O:As E H S)(h:As E H S'->J.ok Q g (Al E H S')):J.ok Q g (Al E H S):=by
 have U:Al E H S=Al E H S':=Fu O K;rw [U];exact h (Nd.perm O K)
theorem Qh(K:S'.flatten=S.flatten)(O:As E H S)(h:As E H S'->J.ok Q g (Al E H S')):J.ok Q g (Al E H S):=NH (by rw [K]) O h
theorem XG{f:FuncId}{vs:Lv_}{seg:Seg}{R:Value->LH->Seg->Prop}(j:Nat)(al:AP J f vs E seg R)(K:As E H S)(O:S[j]? =some seg)
  (am:∀v E' seg',Le E E'->R v E' seg'->As E' H (S.set j seg')->J.ok Q (G (c.finish v) cs) (Al E' H (S.set j seg'))):
  J.ok Q (G (Frame.enter P f vs.toArray .normal) (c::cs)) (Al E H S):=by
 have U:S.flatten.Perm (seg++(S.set j []).flatten):=(EA (seg':=seg) O).1.trans List.perm_append_comm;have Y:Nd E H (seg++(S.set j []).flatten):=Nd.perm K U;have ap:Al E H S=mk E (Bc (S.set j []).flatten H) seg:=by
  rw [show Al E H S=mk E H S.flatten from rfl,Fu K U];unfold mk;rw [F5]
 have Z:=Fa.KY (al (Bc (S.set j []).flatten H) (Nd.front Y)) (by rintro v s' ⟨E',B',_,_,_,rfl⟩;rfl);rw [← ap] at Z;refine Z Q c cs ?_;rintro v a4 ⟨⟨E',B',hle,aq,av,rfl⟩,w,aw⟩;have e2:mk E' (Bc (S.set j []).flatten H) B'=mk E' H (B'++(S.set j []).flatten):=by unfold mk;rw [F5]
 have ay:Nd E H (S.set j []).flatten:=by
  have:=Y;rw [Nd.iff] at this ⊢;rw [List.map_append,List.nodup_append] at this;exact⟨this.1.2.1,λq az=>this.2 q (List.mem_append_right _ az)⟩
 have a0:Nd E' H (S.set j []).flatten:=ay.grow λx a1=>by
  have a2:=aw.d x a1;have a3:Bc B' (Bc (S.set j []).flatten H) x=none:=a2;exact(HS a3).1
 have ac:Nd E' H (B'++(S.set j []).flatten):=Nd.glue av a0;rw [e2];have ag:(B'++(S.set j []).flatten).Perm (S.set j B').flatten:=List.perm_append_comm.trans (EA O).2.symm;rw [Fu ac ag];exact am v E' B' hle aq (Nd.perm ac ag)
end
variable {b:Frame}{L:Env}{ds:Ld_}{k:Li_}{ops:Ao_}{i:Nat}{rest:List Nat}{d:Option Tmp}{t ty e:TypeId}{p:String}{af:Ae_}
section
variable {n:Nat}{H:LH}{g:On_}
end
theorem VV{E H:LH}{a b c:Nat}{K O U:Obj}(ac:As E H [[(a,K)],[(b,O)],[(c,U)]]):(⟨E,J3 (Al E H [[(a,K)],[(b,O)],[(c,U)]]).H b a c,false⟩:St)=Al E H []:=by
 have h:=Nd.iff.1 ac;have ag:H a=none:=(h.2 (a,K) (by simp)).2;have al:H b=none:=(h.2 (b,O) (by simp)).2;have am:H c=none:=(h.2 (c,U) (by simp)).2;unfold Al mk;congr 1;funext x;simp only [J3,Al,mk,List.flatten_cons,List.flatten_nil,List.append_nil,List.cons_append,List.nil_append,Bc];by_cases Y:x=a
 ·subst Y;simp [ag]
 ·by_cases e2:x=b
  ·subst e2;simp [al]
  ·by_cases Z:x=c
   ·subst Z;simp [am]
   ·simp [Y,e2,Z]
theorem Ha{P:Program}{J:Judge P}{Q:Gs_}{b:Frame}{n:Nat}{L:Env}{ds:Ld_}{cs:Lf_}{E H:LH}{S:List Seg}{todo:Li_}{A B:Seg}(j K:Nat)(O:S[j]? =some A)(Z:(S.set j [])[K]? =some B)(ac:As E H S)
  (h:As E H (((S.set j []).set K []).set j (A++B))->JL J Q b n L ds todo cs (Al E H (((S.set j []).set K []).set j (A++B)))):JL J Q b n L ds todo cs (Al E H S):=by
 refine JS.perm ?_ ac h;have U:j<S.length:=(List.getElem?_eq_some_iff.1 O).1;have ag:=(EA (seg':=A) O).1;have al:=(EA (seg':=B) Z).1;have am:((S.set j []).set K [])[j]? =some []:=by
  by_cases e:K=j
  ·subst e;rw [List.getElem?_set_self (by simpa using U)]
  ·rw [List.getElem?_set_ne e,List.getElem?_set_self U]
 have Y:=(EA (seg':=A++B) am).2;have ap:(((S.set j []).set K []).set j [])=(S.set j []).set K []:=by
  by_cases e:K=j
  ·subst e;simp
  ·rw [List.set_comm _ _ e];simp
 rw [ap] at Y;refine ag.trans (List.Perm.trans ?_ Y.symm);refine(List.Perm.append_right A al).trans ?_;rw [List.append_assoc];exact List.Perm.append_left _ List.perm_append_comm
def WL{α:Type}(e:TypeId)(pp:Rp α)(E:LH)(bk c n:Nat)(f:Av_)(xs:List α):Prop:=
 OL e pp E (some ⟨bk,0,none⟩) c [(bk,.cells f e (0,0))] xs/\xs.length=n
theorem WL.M{α:Type}{e:TypeId}{pp:Rp α}{E E':LH}{bk c n:Nat}{f:Av_}{xs:List α}(h:WL e pp E bk c n f xs)(hle:Le E E'):WL e pp E' bk c n f xs:=⟨h.1.M hle,h.2⟩
theorem WL.at{α:Type}{e:TypeId}{pp:Rp α}{E:LH}{bk c n:Nat}{f:Av_}{xs:List α}{m:Int}{x:α}(h:WL e pp E bk c n f xs)(hm:ix xs m=some x):
  ∃ws,pp.r E ws x/\(∀j w,ws[j]? =some w->f[m.toNat*pp.n+j]? =some w):=by
 obtain⟨ws,K,O,_,_⟩:=OL.again h.1 hm V;exact⟨ws,K,O⟩
theorem WL.put{α:Type}{e:TypeId}{pp:Rp α}{E:LH}{bk c n:Nat}{f:Av_}{xs O:List α}{m:Int}{x0 x':α}{ws':Lv_}(h:WL e pp E bk c n f xs)(U:O.length=n)(hm:ix O m=some x0)(Y:pp.r E ws' x'):
  WL e pp E bk c n (Be f (m.toNat*pp.n) ws') (xs.set m.toNat x')/\m.toNat*pp.n+pp.n<=f.size:=by
 obtain⟨K,rfl,Z⟩:=Gq hm;have ac:K<xs.length:=by rw [h.2,← U];exact(List.getElem?_eq_some_iff.1 Z).1
 have ag:ix xs (K:Int)=some xs[K]:=by simp [ix,ac]
 obtain⟨ws,ap,aq,al,am⟩:=OL.again h.1 ag V;exact⟨⟨am x' ws' Y,by rw [List.length_set];exact h.2⟩,al⟩
theorem OL.cases{α:Type}{e:TypeId}{pp:Rp α}{E:LH}{a:Option Addr}{c:Nat}{seg:Seg}{xs:List α}(h:OL e pp E a c seg xs):
  (a=none/\c=0/\seg= []/\xs= [])∨∃bk f,a=some ⟨bk,0,none⟩/\seg= [(bk,.cells f e (0,0))]/\WL e pp E bk c xs.length f xs:=by
 have Y:=h;obtain⟨wss,hg,ac,ag⟩:=h;rcases hg with⟨K,O,U,Z,al⟩ | ⟨bk,f,K,O,U⟩
 ·exact .inl ⟨K,U,Z,List.length_eq_zero_iff.1 O⟩
 ·subst K O;exact .inr ⟨bk,f,V,V,Y,V⟩
theorem WL.of{α:Type}{e:TypeId}{pp:Rp α}{E:LH}{a:Option Addr}{c:Nat}{seg:Seg}{xs:List α}{m:Int}{x:α}(h:OL e pp E a c seg xs)(hm:ix xs m=some x):
  ∃bk f,(a=some ⟨bk,0,none⟩/\seg= [(bk,.cells f e (0,0))])/\WL e pp E bk c xs.length f xs:=by
 rcases OL.cases h with⟨_,_,_,rfl⟩ | ⟨bk,f,K,O,U⟩
 ·obtain⟨k,_,h⟩:=Gq hm;simp at h
 ·exact⟨bk,f,⟨K,O⟩,U⟩
theorem FT{P:Program}{s:St}{ρ:Operand->Value}{x y:Operand}{d:Option Tmp}{t ty e:TypeId}{p:String}{af:Ae_}{g:On_}{kd:IntKind}{α:Type}{xs:List α}{xv:α}{m:Int}{bk c K n:Nat}(O:xs.length=n)(hm:ix xs m=some xv)(ht:P.underlying t=some (.slice e))(U:Bv P e=some K)(Y:ρ x= .slice (some ⟨bk,0,none⟩) n c)(Z:ρ y= .int kd m):
  Yl P ⟨d,.indexAddr t x y,ty,p,af,g⟩ ρ s (.pointer (some ⟨bk,m.toNat*K,none⟩)):=by
 subst O;exact SE hm ht U Y Z
theorem NK{P:Program}{s:St}{ρ:Operand->Value}{x:Operand}{d:Option Tmp}{t ty e:TypeId}{p:String}{af:Ae_}{g:On_}{α:Type}{xs:List α}{a:Option Addr}{n c:Nat}{ats:Array TypeId}(K:xs.length=n)(O:ats[0]? =some t)(ht:P.underlying t=some (.slice e))(U:ρ x= .slice a n c):
  Yl P ⟨d,.call ⟨.builtin .len,#[x],ats⟩,ty,p,af,g⟩ ρ s (.int .i64 (xs.length:Int)):=by
 subst K;exact Yl.len O ht U
variable {fuel:Nat}{D:Nat->Bool}{listed:Array Bool}{s:St}{E':LH}
variable {x y:Operand}{u:TypeId}{v:Value}{kd:IntKind}
section
variable {n:Nat}{m:Nat}{H:LH}
variable {g:On_}
theorem Wy{f:FuncId}{args:Array Operand}{ats:Array TypeId}{vs:Lv_}{R:Value->St->Prop}(U:s.q=false)(Y:Region.ready .any ops listed= [i])
  (Z:ops[i]? =some ⟨d,.call ⟨.value x,args,ats⟩,ty,p,af,g⟩) (ac:ev L x=some (.func (.func f) #[] #[])) (ag:Br n d=true) (hw:AY L ops ⟨d,.call ⟨.value x,args,ats⟩,ty,p,af,g⟩=some true) (hb:Em P f=true) (al:evs L args.toList=some vs)
  (am:Fa J f vs.toArray s R) (h:∀v K,R v K->K.q=false/\(∀x o,(BE D s).E x=some o->(BE D K).E x=some o)/\AT J Q b n ds ops k cs m D fuel (Bi listed i) (AB L d v) K):
  AT J Q b n ds ops k cs m D (fuel+1) listed L s:=by
 refine AT.one U Y Z (by simp [Eg,ag]) hw λρ O=>?_;have ap:args.map ρ=vs.toArray:=by
  rw [← GW O al];apply Array.ext';simp
 have aq:ρ x= .func (.func f) #[] #[]:=O _ _ ac;simp only [execOp,resolve,bind,Sem.bind,Deferred.ofValue,aq,pure,invoke];have e: #[]++args.map ρ++ #[]=vs.toArray:=by rw [ap];simp
 rw [e];refine Ji hb ?_;rw [Lb];exact⟨R,am,h⟩
theorem JX{bks:List Nat}{f:FuncId}{args:Array Operand}{ats:Array TypeId}{vs:Lv_}{R:Value->LH->Seg->Prop}(am:HD S bks)(ap:AP J f vs E [] R)(aq:Region.ready .any ops listed= [i])
  (av:ops[i]? =some ⟨d,.call ⟨.value x,args,ats⟩,ty,p,af,g⟩) (K:ev L x=some (.func (.func f) #[] #[])) (aw:Br n d=true) (hw:AY L ops ⟨d,.call ⟨.value x,args,ats⟩,ty,p,af,g⟩=some true) (hb:Em P f=true) (ay:evs L args.toList=some vs) (Z:As E H S)
  (az:∀v E' seg',Le E E'->R v E' seg'->As E' H (S++ [seg'])->AT J Q b n ds ops k cs m (AO bks) fuel (Bi listed i) (AB L d v) (Al E' H (S++ [seg']))):
  AT J Q b n ds ops k cs m (AO bks) (fuel+1) listed L (Al E H S):=by
 have a0:=Fa.KY (ap (Bc S.flatten H) trivial) (by rintro v s' ⟨E',B',_,_,_,rfl⟩;rfl);refine Wy V aq av K aw hw hb ay a0 ?_;rintro v a8 ⟨⟨E',B',hle,a1,a2,rfl⟩,w,a3⟩;have e2:mk E' (Bc S.flatten H) B'=mk E' H (B'++S.flatten):=by unfold mk;rw [F5]
 have a4:Nd E' H S.flatten:=Nd.grow Z λx K=>by
  have a5:=a3.d x K;have U:Bc B' (Bc S.flatten H) x=none:=a5;exact(HS U).1
 have ac:Nd E' H (B'++S.flatten):=Nd.glue a2 a4;have ag:(B'++S.flatten).Perm (S++ [B']).flatten:=by rw [GX];exact List.perm_append_comm
 have al:As E' H (S++ [B']):=Nd.perm ac ag;rw [e2,Fu ac ag];refine⟨V,λx o K=>?_,az v E' B' hle a1 al⟩;by_cases hd:AO bks x=true
 ·obtain⟨j,o',Y⟩:=am.mem x (by simpa [AO] using hd);have U:(Al E H S).get x=some o':=Ei (i:=0) Z Y V;have a6:j<S.length:=(List.getElem?_eq_some_iff.1 Y).1;have a7:(Al E' H (S++ [B'])).get x=some o':=Ei (i:=0) al (by rw [List.getElem?_append_left a6];exact Y) rfl;have O:(if AO bks x then(Al E H S).get x else E x)=some o:=K
  show(if AO bks x then(Al E' H (S++ [B'])).get x else E' x)=some o
  rw [if_pos hd] at O ⊢;rw [a7,← U];exact O
 ·have O:(if AO bks x then(Al E H S).get x else E x)=some o:=K
  show(if AO bks x then(Al E' H (S++ [B'])).get x else E' x)=some o
  rw [if_neg hd] at O ⊢;exact hle _ _ O
end
section
variable {n:Nat}{H:LH}
variable {g:On_}
theorem Lj{f:FuncId}{args:Array Operand}{ats:Array TypeId}{vs:Lv_}{R:Value->LH->Seg->Prop}
  (O:AP J f vs E [] R) (U:ops[i]? =some ⟨d,.call ⟨.value x,args,ats⟩,ty,p,af,g⟩) (Y:ev L x=some (.func (.func f) #[] ([]:Lv_).toArray)) (hw:AY L ops ⟨d,.call ⟨.value x,args,ats⟩,ty,p,af,g⟩=some true) (Z:((b.kind != .early)&&Br n d)=true) (hb:Em P f=true)
  (ac:evs L args.toList=some vs) (ag:As E H S) (al:∀v E' seg',Le E E'->R v E' seg'->As E' H (S++ [seg'])->JL J Q b n (AB L d v) ds (.inRegion ops rest::k) cs (Al E' H (S++ [seg']))):
  JL J Q b n L ds (.inRegion ops (i::rest)::k) cs (Al E H S):=by
 have am:Gy J (.func (.func f) #[] ([]:Lv_).toArray) vs E [] R:=Gy.ofFn hb (by rw [List.append_nil];exact O);have ap:As E H (S++ [[]]):=by unfold As at*;rw [GX,List.append_nil];exact ag
 have aq:Al E H S=Al E H (S++ [[]]):=by unfold Al;rw [GX,List.append_nil]
 rw [aq];refine Lk (seg:= []) S.length am U hw Z Y ac ap (by simp) λv E' seg' hle av K=>?_;have aw:(S++ [([]:Seg)]).set S.length seg'=S++ [seg']:=Ju _ _ _ _;rw [aw] at K ⊢;exact al v E' seg' hle av K
end
def LY(a b:Int):Option Int:=if b=0 then none else Aw (a.tdiv b)
def Q4(l:List Nat)(i:Int):Option Nat:=if 0<=i then l[i.toNat]? else none
variable {ρ:Operand->Value}{z:Operand}{kd':IntKind}{m':Int}{a:Nat}
section
variable {g:On_}{m:Int}{b:Nat}
theorem N4{r:Int}(K:ρ x=iV m)(O:ρ y=iV m')(h:LY m m'=some r):Yl P ⟨d,.binOp .quo t x y u,ty,p,af,g⟩ ρ s (iV r):=by
 unfold LY at h;split at h
 ·cases h
 ·rename_i U;obtain⟨rfl,hb⟩:=Lf h;have:=Yl.quo (P:=P) (s:=s) (d:=d) (t:=t) (u:=u) (ty:=ty) (p:=p) (af:=af) (g:=g) K O U
  rwa [JW hb] at this
theorem dI{a:Nat}:IntKind.u8.wrap (a:Int)=((a % 256:Nat):Int):=by
 simp only [IntKind.wrap,IntKind.bits,IntKind.signed];simp
theorem Y6(ht:P.underlying t=some (.int .u64))(hu:P.underlying u=some (.int .u8))(K:ρ x= .int .u64 (a:Int)):Yl P ⟨d,.convert t u x,ty,p,af,g⟩ ρ s (.int .u8 ((a % 256:Nat):Int)):=by
 have h:=FI (P:=P) (s:=s) (d:=d) (ty:=ty) (p:=p) (af:=af) (g:=g) ht hu K
 rw [dI] at h;exact h
theorem YD{r:Int}(ht:P.underlying t=some (.int .u8))(hu:P.underlying u=some (.int .i64))(K:ρ x= .int .u8 (a:Int))(h:Aw ((a:Nat):Int)=some r):Yl P ⟨d,.convert t u x,ty,p,af,g⟩ ρ s (iV r):=by
 obtain⟨rfl,hb⟩:=Lf h;have h:=FI (P:=P) (s:=s) (d:=d) (ty:=ty) (p:=p) (af:=af) (g:=g) ht hu K
 rwa [JW hb] at h
theorem W5{l:List Nat}{bs:ByteArray}{r:Nat}(O:(bs.data.toList.map UInt8.toNat==l)=true)(ht:P.underlying t=some .string)(U:ρ y= .int kd m)(Y:ρ (.const (.string bs))= .string bs)(h:Q4 l m=some r):Yl P ⟨d,.index t (.const (.string bs)) y,ty,p,af,g⟩ ρ s (.int .u8 (r:Int)):=by
 unfold Q4 at h;split at h
 ·rename_i Z;have ac:=eq_of_beq O;rw [← ac,List.getElem?_map] at h;obtain⟨K,hb,rfl⟩:=Option.map_eq_some_iff.1 h;have ag:bs[m.toNat]? =some K:=by
   have al:bs.data[m.toNat]? =some K:=by rw [← Array.getElem?_toList];exact hb
   obtain⟨am,ap⟩:=Array.getElem?_eq_some_iff.1 al;rw [getElem?_pos bs m.toNat am];exact congrArg some ap
  simp [Yl,execOp,lp,pure,bind,Sem.bind,Y,U,Instr.index,underlying,program,ht,Z,ag,asIntOf]
 ·cases h
end
end Pal
