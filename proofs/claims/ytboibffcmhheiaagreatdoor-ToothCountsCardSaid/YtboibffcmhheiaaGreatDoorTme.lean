/- toothCounts_card. Part 5 of 8. -/
import Derived.Test.YtboibffcmhheiaaGreatDoorTmc
import Derived.Test.YtboibffcmhheiaaGreatDoorTmd
set_option linter.all false
set_option maxRecDepth 100000
namespace Pal
abbrev A8:=List (Int×Int)
structure B4 (n:Nat) (lk:A8):Prop where
 len:lk.length≤8
 yr:∀l∈lk,0≤l.1∧l.1≤6
 sn:∀l∈lk,0≤l.2∧l.2<(n:Int)
 IJ:lk.Pairwise (fun a b=>a.1≤b.1)
theorem Yo{F n:Nat}{J:JW}{lk:A8}(U:100<F)(K:VJ n J)(O:B4 n lk)(V:lk.length≤4):f116 F J lk=some none:=by
 have Y:=K.l1;have Z:=K.pos;have ag:=K.le;refine CO ?_;unfold f116;refine A9 (by omega) ?_;refine AD (S:=fun q=>q=Sum.inr ()) ?_ (by rintro q rfl;exact Ak rfl);refine Cj lk.length (fun i s=>s=(i:Int)) rfl (by omega) ?_ ?_
 ·rintro i s hi rfl;unfold JV;have hm:=List.getElem_mem hi;have al:=O.yr _ hm;have hs:=O.sn _ hm;refine Br (by omega) (Bl (m:=i) rfl hi ?_);refine AO (I0 F _ _ _) (A9 (by simp;omega) ?_);refine AD (S:=fun c=>c=false) ?_ ?_
  ·refine Bn (fun h=>?_) (fun h=>Ak rfl);refine AV ((i - 1:Nat):Int) (by omega) (by omega) (by omega) (Bl (m:=i - 1) rfl (by omega) ?_);have:=List.pairwise_iff_getElem.1 O.IJ (i - 1) i (by omega) hi (by omega);exact Ak (decide_eq_false (by omega))
  ·rintro c rfl;refine A9 (by simp) (AV ((n - 1:Nat):Int) (by omega) (by omega) (by omega) ?_);refine AO (I0 F _ _ _) (A9 (by simp;omega) ?_);exact AV ((i+1:Nat):Int) (by simp) (by omega) (by omega) (Ak rfl)
 ·rintro s rfl;unfold JV;exact A9 (by omega) (Ak ⟨_,rfl,rfl⟩)
theorem S5{F n:Nat}{J:JW}{lk:A8}(K:100<F)(O:VJ n J)(U:B4 n lk)(V:lk.length≤4):f69 F J lk=some 0:=by
 unfold f69;rw [W8 K O];simp only [Option.bind_some,Option.isSome_none,Bool.false_eq_true,if_false];rw [Yo K O U V];simp only [Option.bind_some];rw [Qa];rfl
def BU(lk:A8):Nat:=match lk.getLast? with
 | some l=>l.1.toNat
 | none=>0
theorem Hp{n:Nat}{lk:A8}(K:B4 n lk):BU lk≤6:=by
 unfold BU;split
 ·rename_i l h;have:=K.yr l (List.mem_of_getLast? h);omega
 ·omega
theorem Q2{F n:Nat}{O:JW}{A:List Nat}{lk:A8}{age:Int}{ms:List Int}{fl:Nat}(U:B4 n lk):Lp F ((O.1,O.2,A),lk,age,ms,fl)=some ((BU lk:Nat):Int):=by
 have V:=U.len;refine CO ?_;unfold Lp BU;refine Bn (fun h=>?_) (fun h=>?_)
 ·simp only at h;have:lk= []:=List.length_eq_zero_iff.1 (by omega);subst this;exact Ak rfl
 ·simp only at h;have K:lk.length - 1<lk.length:=by omega
  refine AV ((lk.length - 1:Nat):Int) (by simp only;omega) (by omega) (by omega) (Bl (m:=lk.length - 1) rfl K ?_);rw [List.getLast?_eq_getElem?,List.getElem?_eq_getElem K];have:=U.yr _ (List.getElem_mem K);refine Ak ?_;simp only;omega
def Fg(J:JW)(m:Int)(l:Int×Int):Bool:=decide (m=l.2) || decide (l.2∈J.2.getD m.toNat [])
def Ei(J:JW)(lk:A8)(y:Nat)(m:Int):Bool:=lk.all fun l=>decide (l.1≠(y:Int)) || Fg J m l
def By(lk:A8)(y:Nat)(m:Int):Nat→Nat
 | 0=>0
 | k+1=>match lk[k]? with
  | some l=>if l.1=(y:Int)∧m≠l.2 then By lk y m k ||| 1<<<k else By lk y m k
  | none=>By lk y m k
theorem MV(lk:A8)(y:Nat)(m:Int):∀k,k≤16→By lk y m k<65536
 | 0,_=>by unfold By;omega
 | k+1,h=>by
  have:=MV lk y m k (by omega)
  unfold By
  split
  ·split
   ·exact NM this (Sr (by omega))
   ·exact this
  ·exact this
theorem Gf(lk:A8)(y:Nat)(m:Int)(i:Nat):∀k,(By lk y m k).testBit i=true↔i<k∧∃l,lk[i]? =some l∧l.1=(y:Int)∧m≠l.2
 | 0=>by simp [By]
 | k+1=>by
  have ag:=Gf lk y m i k
  have hb:(1<<<k).testBit i=decide (i=k):=by
   rw [Nat.one_shiftLeft,Nat.testBit_two_pow];exact decide_eq_decide.2 ⟨fun h=>h.symm,fun h=>h.symm⟩
  have key:∀P:Prop,(i<k∧P↔i<k+1∧P)∨i=k:=fun P=>by
   by_cases e:i=k
   ·exact .inr e
   ·exact .inl ⟨fun h=>⟨by omega,h.2⟩,fun h=>⟨by omega,h.2⟩⟩
  unfold By;split
  ·rename_i l U;split
   ·rename_i V;rw [Nat.testBit_or,Bool.or_eq_true,ag,hb,decide_eq_true_iff];constructor
    ·rintro(⟨O,K⟩ | rfl)
     ·exact⟨by omega,K⟩
     ·exact⟨by omega,l,U,V.1,V.2⟩
    ·rintro⟨O,K⟩;by_cases e:i=k
     ·exact .inr e
     ·exact .inl ⟨by omega,K⟩
   ·rename_i V;rw [ag];constructor
    ·rintro⟨O,K⟩;exact⟨by omega,K⟩
    ·rintro⟨O,al,K,Y,Z⟩;by_cases e:i=k
     ·subst e;rw [U] at K;cases K;exact absurd ⟨Y,Z⟩ V
     ·exact⟨by omega,al,K,Y,Z⟩
  ·rename_i U;rw [ag];constructor
   ·rintro⟨O,K⟩;exact⟨by omega,K⟩
   ·rintro⟨O,al,K,Y,Z⟩;by_cases e:i=k
    ·subst e;rw [U] at K;cases K
    ·exact⟨by omega,al,K,Y,Z⟩
theorem Ym{F:Nat}{l:List Int}{x:Int}(V:100<F)(Y:l.length<100):AZ (f201 F l x) (fun r=>decide (0≤r)=decide (x∈l)):=by
 unfold f201;refine AD (S:=fun q=>match q with | Sum.inl r=>0≤r∧x∈l | Sum.inr _=>x ∉ l) ?_ ?_
 ·refine Cj l.length (fun i s=>s=(i:Int)∧x ∉ l.take i) ⟨rfl,by simp⟩ (by omega) ?_ ?_
  ·rintro i s hi ⟨rfl,K⟩;unfold MB;refine Br (by omega) (Bl (m:=i) rfl hi ?_);refine Bn (fun h=>?_) (fun h=>?_)
   ·exact Ak ⟨by omega,by rw [h];exact List.getElem_mem hi⟩
   ·refine AV ((i+1:Nat):Int) (by simp) (by omega) (by omega) (Ak ⟨rfl,?_⟩);rw [List.take_add_one,List.getElem?_eq_getElem hi];simp only [Option.toList_some,List.mem_append,List.mem_singleton];rintro(O | O)
    ·exact K O
    ·exact h O
  ·rintro s ⟨rfl,K⟩;unfold MB;exact A9 (by omega) (Ak ⟨_,rfl,by simpa using K⟩)
 ·rintro(r | u) U
  ·exact Ak (by rw [decide_eq_true U.1,decide_eq_true U.2])
  ·exact Ak (by rw [decide_eq_false U];rfl)
theorem Xy{F:Nat}{l:List Int}{x:Int}(K:100<F)(O:l.length<100):f199 F l x=some (decide (x∈l)):=by
 refine CO ?_;unfold f199;refine AD (Ym K O) ?_;intro r U;exact Ak U
theorem W1{F n m:Nat}{J:JW}{A:List Nat}{s:Int}(U:100<F)(O:VJ n J)(hm:m<n):f192 F (J.1,J.2,A) (m:Int) s=some (if(m:Int)=s then some ((m:Int),none) else if s∈J.2.getD m [] then some ((m:Int),some s) else none):=by
 have Y:=O.l2;refine CO ?_;unfold f192;refine Bn (fun h=>?_) (fun h=>?_)
 ·rw [if_pos h];exact Ak rfl
 ·rw [if_neg h];have V:J.2[m]? =some (J.2.getD m []):=by rw [List.getD_eq_getElem?_getD,List.getElem?_eq_getElem (by omega)];rfl
  refine AO (DC (m:=m) rfl V) (AO (Xy U (by have:=(O.PQ m).len;omega)) ?_);refine Bn (fun K=>?_) (fun K=>?_)
  ·rw [if_pos (of_decide_eq_true K)];exact Ak rfl
  ·rw [if_neg (of_decide_eq_false (by simpa using K))];exact Ak rfl
theorem XF{F n m y:Nat}{J:JW}{A:List Nat}{lk:A8}{age:Int}{ms:List Int}{fl:Nat}(al:100<F)(am:VJ n J)(ap:B4 n lk)(hm:m<n):
  Lj F ((J.1,J.2,A),lk,age,ms,fl) (y:Int) (m:Int)=some (if Ei J lk y (m:Int)=true then(By lk y (m:Int) lk.length,true) else(0,false)):=by
 have a2:=ap.len;refine CO ?_;unfold Lj;refine AD (S:=fun q=>(Ei J lk y (m:Int)=true∧q=Sum.inr (By lk y (m:Int) lk.length))∨(Ei J lk y (m:Int)=false∧q=Sum.inl (0,false))) ?_ ?_
 ·refine Cj lk.length (fun i s=>s=(By lk y (m:Int) i,(i:Int))∧∀l∈lk.take i,(decide (l.1≠(y:Int)) || Fg J (m:Int) l)=true) ⟨rfl,by simp⟩ (by omega) ?_ ?_
  ·rintro i s hi ⟨rfl,K⟩;unfold Mr;have av:=MV lk y (m:Int) i (by omega);have hg:lk[i]? =some lk[i]:=List.getElem?_eq_getElem hi;have step:∀(l:Int×Int),l=lk[i]→(decide (l.1≠(y:Int)) || Fg J (m:Int) l)=true→∀O∈lk.take (i+1),(decide (O.1≠(y:Int)) || Fg J (m:Int) O)=true:=by
    rintro l rfl a0 O V;rw [List.take_add_one,hg] at V;simp only [Option.toList_some,List.mem_append,List.mem_singleton] at V;rcases V with h | rfl
    ·exact K O h
    ·exact a0
   have Y:By lk y (m:Int) (i+1)=if lk[i].1=(y:Int)∧(m:Int)≠lk[i].2 then By lk y (m:Int) i ||| 1<<<i else By lk y (m:Int) i:=by
    rw [By,hg]
   refine Br (by simp only;omega) (AD (S:=fun q=>(q=Sum.inr (By lk y (m:Int) (i+1))∧(decide (lk[i].1≠(y:Int)) || Fg J (m:Int) lk[i])=true)∨(q=Sum.inl (0,false)∧(decide (lk[i].1≠(y:Int)) || Fg J (m:Int) lk[i])=false)) ?_ ?_)
   ·refine Bl (m:=i) rfl hi (Bn (fun h=>?_) (fun h=>?_))
    ·refine Ak (.inl ⟨?_,by rw [decide_eq_true h];rfl⟩);rw [Y,if_neg (fun Z=>h Z.1)]
    ·have a1:lk[i].1=(y:Int):=by simpa using h
     refine AO (W1 al am hm) ?_;by_cases e:(m:Int)=lk[i].2
     ·rw [if_pos e];refine AD (S:=fun q=>q=Sum.inr (By lk y (m:Int) i)) (Br rfl (Ak rfl)) ?_;rintro q rfl;refine Ak (.inl ⟨?_,by unfold Fg;rw [decide_eq_true e];simp⟩);rw [Y,if_neg (fun Z=>Z.2 e)]
     ·rw [if_neg e];by_cases U:lk[i].2∈J.2.getD m []
      ·rw [if_pos U];refine AD (S:=fun q=>q=Sum.inr (By lk y (m:Int) i ||| 1<<<i)) ?_ ?_
       ·refine A9 (by simp [Kg]) (Br rfl ?_);refine AO (SG F av (by omega)) (Ak rfl)
       ·rintro q rfl;refine Ak (.inl ⟨?_,by unfold Fg;rw [show((m:Int)).toNat=m by omega,decide_eq_true U];simp⟩);rw [Y,if_pos ⟨a1,e⟩]
      ·rw [if_neg U];refine AD (S:=fun q=>q=Sum.inl (0,false)) ?_ ?_
       ·exact A9 (by simp [Kg]) (A9 (by simp [LA]) (Ak rfl))
       ·rintro q rfl;refine Ak (.inr ⟨rfl,?_⟩);unfold Fg;rw [show((m:Int)).toNat=m by omega,decide_eq_false U,decide_eq_false e,decide_eq_false h];rfl
   ·rintro q (⟨rfl,ag⟩ | ⟨rfl,ag⟩)
    ·rw [Sum.elim_inr];exact AV ((i+1:Nat):Int) (by simp) (by omega) (by omega) (Ak ⟨rfl,step _ rfl ag⟩)
    ·rw [Sum.elim_inl];refine Ak (.inr ⟨?_,rfl⟩);unfold Ei;rw [List.all_eq_false];exact⟨lk[i],List.getElem_mem hi,by rw [ag];simp⟩
  ·rintro s ⟨rfl,K⟩;unfold Mr;refine A9 (by simp only;omega) (Ak ⟨_,rfl,.inl ⟨?_,rfl⟩⟩);rw [List.take_length] at K;unfold Ei;exact List.all_eq_true.2 K
 ·rintro q (⟨h,rfl⟩ | ⟨h,rfl⟩)
  ·rw [Sum.elim_inr,if_pos h];exact Ak rfl
  ·rw [Sum.elim_inl,if_neg (by rw [h];simp)];exact Ak rfl
theorem X9{F n m:Nat}{J:JW}{A:List Nat}{lk:A8}{age:Int}{ms:List Int}{fl:Nat}(O:100<F)(U:VJ n J)(K:B4 n lk)(hm:m<n)(Z:ms.length<100)(V:fl<65536):
  Lx F (J.1,J.2,A) lk age ms fl (m:Int)=some (if Ei J lk ms.length (m:Int)=true then some (ms++ [(m:Int)],fl ||| By lk ms.length (m:Int) lk.length) else none):=by
 refine CO ?_;unfold Lx;refine AO (XF O U K hm) ?_;have Y:=MV lk ms.length (m:Int) lk.length (by have:=K.len;omega);by_cases h:Ei J lk ms.length (m:Int)=true
 ·rw [if_pos h,if_pos h];refine A9 (by simp) (AO (b:=ms) ?_ ?_)
  ·unfold f175 Ls;have:De ([]:List Int) ms=some ms:=by unfold De;rw [if_pos (by simp;omega)];rfl
   rw [this];rfl
  ·refine AO (b:=ms++ [(m:Int)]) ?_ ?_
   ·unfold De;rw [if_pos (by simp;omega)]
   ·exact AO (if_pos ⟨V,Y⟩) (Ak rfl)
 ·rw [if_neg h,if_neg h];exact Br rfl (Ak rfl)
end Pal
namespace Pal
def Dg(J:JW)(lk:A8):Nat→Nat→List Int→Nat→List (List Int×Nat)
 | 0,_,ms,fl=> [(ms,fl)]
 | k+1,sm,ms,fl=>(Ck sm 16).flatMap fun m=>if Ei J lk ms.length m=true then Dg J lk k (CM (J.1.getD m.toNat [])) (ms++ [m]) (fl ||| By lk ms.length m lk.length) else []
theorem Mk(s:Nat):(Ck s 16).length≤16:=Mf s 16
theorem Mc{α β:Type}{f:α→List β}{b:Nat}:∀{l:List α},(∀x∈l,(f x).length≤b)→(l.flatMap f).length≤l.length*b
 | [],_=>by simp
 | x::l,h=>by
  have O:=h x (by simp)
  have U:=Mc (l:=l) (fun y K=>h y (by simp [K]))
  simp only [List.flatMap_cons,List.length_append,List.length_cons,Nat.succ_mul]
  omega
theorem MI(J:JW)(lk:A8):∀k sm ms fl,(Dg J lk k sm ms fl).length≤16 ^ k
 | 0,_,_,_=>by simp [Dg]
 | k+1,sm,ms,fl=>by
  unfold Dg
  refine Nat.le_trans (Mc (b:=16 ^ k) fun m _=>?_) ?_
  ·split
   ·exact MI J lk k _ _ _
   ·simp
  ·rw [Nat.pow_succ,Nat.mul_comm];exact Nat.mul_le_mul_left _ (Mk sm)
theorem VV{k:Nat}(h:k≤7):16 ^ k≤268435456:=Nat.le_trans (Nat.pow_le_pow_right (by omega) h) (by decide)
theorem QL{α β:Type}{step:List β→α→Option (List β)}{f:α→List β}:∀{l:List α} {ac:List β},(∀(l1 l2:List α) x,l=l1++x::l2→step (ac++l1.flatMap f) x=some (ac++(l1++ [x]).flatMap f))→Fv step l ac=some (ac++l.flatMap f)
 | [],ac,_=>by simp [Fv]
 | x::l,ac,h=>by
  have K:=h [] l x rfl
  simp only [List.flatMap_nil,List.append_nil,List.nil_append] at K
  unfold Fv
  rw [K]
  simp only [Option.bind_some]
  rw [QL (f:=f) (ac:=ac++ [x].flatMap f) (l:=l) ?_]
  ·simp
  ·intro l1 l2 y O;have:=h (x::l1) l2 y (by rw [O];rfl);simp only [List.flatMap_cons,List.flatMap_nil,List.append_nil,List.cons_append,List.append_assoc] at this ⊢;simpa using this
theorem UL{α β:Type}{step:List β→α→Option (List β)}{f:α→List β}{l:List α}{ac:List β}(h:∀(l1 l2:List α) x,l=l1++x::l2→step (ac++l1.flatMap f) x=some (ac++l1.flatMap f++f x)):Fv step l ac=some (ac++l.flatMap f):=
 QL fun l1 l2 x e=>by rw [h l1 l2 x e];simp
theorem ab{F n:Nat}{J:JW}{A:List Nat}{lk:A8}{age:Int}{ok:List (List Int×Nat)→Bool}(Z:100<F)(O:VJ n J)(U:B4 n lk)(a7:∀l:List (List Int×Nat),l.length≤16 ^ 7→(∀x∈l,x.2<65536)→ok l=true):
  ∀(k g sm:Nat) (ms:List Int) (fl:Nat) (ac:List (List Int×Nat)),ms.length+k=BU lk+1→k<g→sm<2 ^ n→fl<65536→ac.length+16 ^ k≤16 ^ 7→(∀x∈ac,x.2<65536)→
   IK ok F (J.1,J.2,A) lk age g sm ms fl ac=some (ac++Dg J lk k sm ms fl)∧∀x∈Dg J lk k sm ms fl,x.2<65536:=by
 have bB:=Hp U;have a8:=O.le;have bC:=So a8;intro k
 induction k with
 | zero=>
  intro g sm ms fl ac a9 hg av V hlen ag;obtain⟨g,rfl⟩:∃g',g=g'+1:=⟨g - 1,by omega⟩;refine⟨?_,fun x K=>by simp [Dg] at K;subst K;exact V⟩;unfold IK;have al:Jh F (J.1,J.2,A) lk age ms fl sm=some none:=by
   unfold Jh;rw [Q2 U];simp only [Option.bind_some];rw [if_pos (by omega)]
  rw [al];simp only [Option.bind_some,Kf];rw [if_pos]
  ·rfl
  ·refine a7 _ (by simpa using hlen) fun x K=>?_;rcases List.mem_append.1 K with K | K
   ·exact ag x K
   ·simp at K;subst K;exact V
 | succ k a0=>
  intro g sm ms fl ac a9 hg av V hlen ag;obtain⟨g,rfl⟩:∃g',g=g'+1:=⟨g - 1,by omega⟩;have bD:ms.length≤6:=by omega
  have bE:=Mk sm;have a1:∀m∈Ck sm 16,∃q:Nat,m=(q:Int)∧q<n:=fun m hm=>by
   obtain⟨q,_,q2,bb⟩:=Hk.1 hm;exact⟨q,bb,Io av q2⟩
  have a2:∀m:Int,fl ||| By lk ms.length m lk.length<65536:=fun m=>NM V (MV _ _ _ _ (by have:=U.len;omega))
  have a3:∀q:Nat,q<n→CM (J.1.getD q [])<2 ^ n:=fun q Y=>by
   rcases Nat.lt_or_ge (CM (J.1.getD q [])) (2 ^ n) with h | h
   ·exact h
   ·obtain⟨i,bF,a4⟩:=Nat.exists_ge_and_testBit_of_ge_two_pow h;rw [Jv (fun x K=>((O.EX q).inr x K).1)] at a4;have:=(O.EX q).inr _ (of_decide_eq_true a4);omega
  have a5:∀m∈Ck sm 16,Ei J lk ms.length m=true→∀x∈Dg J lk k (CM (J.1.getD m.toNat [])) (ms++ [m]) (fl ||| By lk ms.length m lk.length),x.2<65536:=fun m hm hb=>by
   obtain⟨q,rfl,Y⟩:=a1 m hm;have bd:16 ^ k≤16 ^ 7:=Nat.pow_le_pow_right (by omega) (by omega);exact(a0 (k+1) _ _ _ [] (by simp;omega) (by omega) (a3 q Y) (a2 _) (by simpa using bd) (fun x K=>by simp at K)).2
  constructor
  ·unfold IK;have al:Jh F (J.1,J.2,A) lk age ms fl sm=some (some (Ck sm 16)):=by
    unfold Jh;rw [Q2 U];simp only [Option.bind_some];rw [if_neg (by omega),OZ Z (by omega)];rfl
   rw [al];simp only [Option.bind_some,Kf];rw [if_pos (by omega)];have e:Dg J lk (k+1) sm ms fl=(Ck sm 16).flatMap fun m=>if Ei J lk ms.length m=true then Dg J lk k (CM (J.1.getD m.toNat [])) (ms++ [m]) (fl ||| By lk ms.length m lk.length) else []:=rfl
   rw [e];refine UL fun l1 l2 m hm=>?_;have be:m∈Ck sm 16:=by rw [hm];simp
   obtain⟨q,rfl,Y⟩:=a1 m be;unfold PE;rw [X9 Z O U Y (by omega) V];simp only [Option.bind_some];by_cases hb:Ei J lk ms.length (q:Int)=true
   ·rw [if_pos hb,if_pos hb];simp only;have bi:LF F (J.1,J.2,A) lk age (ms++ [(q:Int)]) (fl ||| By lk ms.length (q:Int) lk.length) (q:Int)=some (CM (J.1.getD q [])):=by
     unfold LF;have bo:J.1[q]? =some (J.1.getD q []):=by rw [List.getD_eq_getElem?_getD,List.getElem?_eq_getElem (by have:=O.l1;omega)];rfl
     have a6:=O.EX q;rw [DC (m:=q) rfl bo];simp only [Option.bind_some];rw [Sn Z (by have:=a6.len;omega) (fun x K=>by have:=a6.inr x K;omega)];rfl
    rw [bi];simp only [Option.bind_some];have bv:l1.length+1≤16:=by
     have:=congrArg List.length hm;simp at this;omega
    have bG:(l1.flatMap fun m=>if Ei J lk ms.length m=true then Dg J lk k (CM (J.1.getD m.toNat [])) (ms++ [m]) (fl ||| By lk ms.length m lk.length) else []).length≤l1.length*16 ^ k:=Mc fun y _=>by
     split
     ·exact MI _ _ _ _ _ _
     ·simp
    have hmul:l1.length*16 ^ k+16 ^ k≤16 ^ (k+1):=by
     rw [Nat.pow_succ,← Nat.succ_mul,Nat.mul_comm _ 16];exact Nat.mul_le_mul_right _ bv
    have:=a0 g (CM (J.1.getD q [])) (ms++ [(q:Int)]) (fl ||| By lk ms.length (q:Int) lk.length) (ac++l1.flatMap fun m=>if Ei J lk ms.length m=true then Dg J lk k (CM (J.1.getD m.toNat [])) (ms++ [m]) (fl ||| By lk ms.length m lk.length) else []) (by simp;omega) (by omega) (a3 q Y) (a2 _) (by rw [List.length_append];omega) ?_
    ·rw [this.1,show((q:Int)).toNat=q by omega]
    ·intro x K;rcases List.mem_append.1 K with K | K
     ·exact ag x K
     ·obtain⟨y,bw,am⟩:=List.mem_flatMap.1 K;have bz:y∈Ck sm 16:=by rw [hm];simp [bw]
      split at am
      ·rename_i bA;exact a5 y bz bA x am
      ·simp at am
   ·rw [if_neg hb,if_neg hb];simp
  ·intro x K;unfold Dg at K;obtain⟨m,hm,ap⟩:=List.mem_flatMap.1 K;split at ap
   ·rename_i hb;exact a5 m hm hb x ap
   ·simp at ap
end Pal
namespace Pal
abbrev CR:=Int×List Int×Nat
def CQ(t:CR):Nat:=(Ck t.2.2 16).length
theorem Yf{F:Nat}{t:CR}(K:100<F)(h:t.2.2<65536):f130 F t=some (CQ t:Int):=by
 unfold f130;rw [OZ K h];rfl
def DF(K:List CR)(q:Int×List CR):Prop:=(K= []∧q=(0,[]))∨∃k:Nat,q.1=(k:Int)∧(∃t∈K,CQ t=k)∧(∀t∈K,k≤CQ t)∧q.2=K.filter (fun t=>decide (CQ t=k))
theorem DF.len{K:List CR}{q:Int×List CR}(h:DF K q):q.2.length≤K.length:=by
 rcases h with⟨_,rfl⟩ | ⟨k,_,_,_,h⟩
 ·simp
 ·rw [h];exact List.length_filter_le _ _
theorem DF.sub{K:List CR}{q:Int×List CR}(h:DF K q):∀t∈q.2,t∈K∧(CQ t:Int)=q.1:=by
 rcases h with⟨_,rfl⟩ | ⟨k,O,_,_,h⟩
 ·simp
 ·intro t ht;rw [h] at ht;obtain⟨a,b⟩:=List.mem_filter.1 ht;exact⟨a,by rw [O,of_decide_eq_true b]⟩
theorem DF.snoc(F:Nat){O:List CR}{q:Int×List CR}{t:CR}(h:DF O q)(a3:O.length<2 ^ 39):∃K,IG F q.1 q.2 t (CQ t:Int)=some K∧DF (O++ [t]) K:=by
 have av:=h.len;obtain⟨le,all⟩:=q;simp only at av ⊢;have fresh:∀c:Bool,c=true→(∀s∈O,CQ t<CQ s)→∃K:Int×List CR,(Option.bind (if c=true then some ((CQ t:Int),([]:List CR)) else some (le,all)) fun U=>Option.bind (if(CQ t:Int)=U.1 then(De U.2 ([t]:List CR)).bind fun a0=>some a0 else some U.2) fun a1=>some (U.1,a1))=some K∧DF (O++ [t]) K:=by
  rintro c rfl V;refine⟨((CQ t:Int),[t]),?_,.inr ⟨CQ t,rfl,⟨t,by simp,rfl⟩,?_,?_⟩⟩
  ·simp [De]
  ·intro s hs;rcases List.mem_append.1 hs with hs | hs
   ·exact Nat.le_of_lt (V s hs)
   ·simp at hs;subst hs;exact Nat.le_refl _
  ·rw [List.filter_append,List.filter_eq_nil_iff.2 fun s hs=>by have:=V s hs;simp;omega];simp
 unfold IG;rcases h with⟨rfl,he⟩ | ⟨k,ap,⟨s,hs,Z⟩,ag,Y⟩
 ·cases he;simp only [List.length_nil];obtain⟨K,al,am⟩:=fresh true rfl (fun s hs=>by simp at hs);exact⟨K,by simpa using al,am⟩
 ·simp only at ap Y;subst ap;have a2:¬((all.length:Int)=0):=by
   have:s∈all:=by rw [Y];exact List.mem_filter.2 ⟨hs,by simpa using Z⟩
   have:=List.length_pos_of_mem this;omega
  rw [if_neg a2];simp only [Option.bind_some];rcases Nat.lt_trichotomy (CQ t) k with V | heq | a4
  ·obtain⟨K,al,am⟩:=fresh (decide ((CQ t:Int)<(k:Int))) (decide_eq_true (by omega)) (fun s hs=>Nat.lt_of_lt_of_le V (ag s hs));exact⟨K,al,am⟩
  ·rw [if_neg (by rw [decide_eq_true_iff];omega)];simp only [Option.bind_some];rw [if_pos (by omega)];refine⟨((k:Int),all++ [t]),?_,.inr ⟨k,rfl,⟨s,by simp [hs],Z⟩,?_,?_⟩⟩
   ·unfold De;rw [if_pos (by simp;omega)];rfl
   ·intro u hu;rcases List.mem_append.1 hu with hu | hu
    ·exact ag u hu
    ·simp at hu;subst hu;omega
   ·rw [List.filter_append,Y];simp [heq]
  ·rw [if_neg (by rw [decide_eq_true_iff];omega)];simp only [Option.bind_some];rw [if_neg (by omega)];refine⟨((k:Int),all),rfl,.inr ⟨k,rfl,⟨s,by simp [hs],Z⟩,?_,?_⟩⟩
   ·intro u hu;rcases List.mem_append.1 hu with hu | hu
    ·exact ag u hu
    ·simp at hu;subst hu;omega
   ·rw [List.filter_append,← Y];have:¬CQ t=k:=by omega
    simp [this]
theorem Ox{F:Nat}{a:Int}(O:100<F):∀(l:List (List Int×Nat)) (K:List CR) (q:Int×List CR),DF K q→K.length+l.length<2 ^ 39→(∀x∈l,x.2<65536)→
  ∃U,Fv (add1 F a) l q=some U∧DF (K++l.map fun x=>(a,x.1,x.2)) U
 | [],K,q,h,_,_=>⟨q,rfl,by simpa using h⟩
 | x::l,K,q,h,Y,V=>by
  simp only [List.length_cons] at Y
  obtain⟨q1,Z,ag⟩:=h.snoc F (t:=(a,x.1,x.2)) (by omega)
  obtain⟨q2,al,am⟩:=Ox O l (K++ [(a,x.1,x.2)]) q1 ag (by simp;omega) (fun y ap=>V y (by simp [ap]))
  refine⟨q2,?_,by simpa using am⟩
  unfold Fv add1
  rw [Yf (t:=(a,x.1,x.2)) O (V x (by simp))]
  simp only [Option.bind_some]
  rw [Z];exact al
def TA(J:JW)(lk:A8)(a:Nat):List CR:=(Dg J lk (BU lk+1) (AG J a) [] 0).map fun x=>((a:Int),x.1,x.2)
def TT(J:JW)(lk:A8):List CR:=(List.range 13).flatMap (TA J lk)
theorem Zd{n:Nat}{J:JW}{lk:A8}(K:B4 n lk)(a:Nat):(TA J lk a).length≤268435456:=by
 unfold TA;rw [List.length_map];exact Nat.le_trans (MI _ _ _ _ _ _) (VV (by have:=Hp K;omega))
theorem Rf{F n a:Nat}{J:JW}{lk:A8}(K:100<F)(O:VJ n J)(U:B4 n lk)(V:a<13):∃q,GF F (J.1,J.2,Gu J) lk (a:Int)=some q∧DF (TA J lk a) q∧∀t∈TA J lk a,t.2.2<65536:=by
 have av:=Hp U;have Y:(16:Nat) ^ (BU lk+1)≤16 ^ 7:=Nat.pow_le_pow_right (by omega) (by omega);have Z:∀l:List (List Int×Nat),l.length≤16 ^ 7→(∀x∈l,x.2<65536)→(Ht F (a:Int) l).isSome=true:=fun l a0 ag=>by
  obtain⟨q,e,_⟩:=Ox (a:=(a:Int)) K l [] (0,[]) (.inl ⟨rfl,rfl⟩) (by simp;omega) ag;unfold Ht;rw [e];rfl
 obtain⟨d1,d2⟩:=ab (A:=Gu J) (age:=(a:Int)) (ok:=fun ac=>(Ht F (a:Int) ac).isSome) K O U Z (BU lk+1) F (AG J a) [] 0 [] (by simp) (by omega) (Hy O a) (by omega) (by simpa using Y) (by simp);obtain⟨q,al,am⟩:=Ox (a:=(a:Int)) K (Dg J lk (BU lk+1) (AG J a) [] 0) [] (0,[]) (.inl ⟨rfl,rfl⟩) (by have:=MI J lk (BU lk+1) (AG J a) [] 0;simp;omega) d2;refine⟨q,?_,by unfold TA;simpa using am,?_⟩
 ·unfold GF Ke;rw [DC (m:=a) rfl (W6 J V)];simp only [Option.bind_some];rw [d1];simp only [Option.bind_some,List.nil_append];exact al
 ·intro t ht;obtain⟨x,ap,rfl⟩:=List.mem_map.1 ht;exact d2 x ap
theorem VD{F n:Nat}{J:JW}{lk:A8}(O:100<F)(U:VJ n J)(V:B4 n lk):∃qs:Nat→Int×List CR,J3 F (J.1,J.2,Gu J) lk=some (D3 qs)∧∀j,j<13→DF (TA J lk j) (qs j):=by
 refine⟨fun j=>(GF F (J.1,J.2,Gu J) lk ((j:Nat):Int)).getD (0,[]),?_,fun j K=>?_⟩
 ·unfold J3;rw [if_pos];rw [List.all_eq_true];intro j K;obtain⟨q,e,_⟩:=Rf O U V (List.mem_range.1 K);rw [e];rfl
 ·obtain⟨q,e,h,_⟩:=Rf O U V K;simp only [e];exact h
theorem Rm{α β:Type}{f g:α→List β}:∀{l:List α},(∀x∈l,f x=g x)→l.flatMap f=l.flatMap g
 | [],_=>rfl
 | x::l,h=>by rw [List.flatMap_cons,List.flatMap_cons,h x (by simp),Rm fun y K=>h y (by simp [K])]
theorem DF.flat{T:Nat→List CR}{Q:Nat→Int×List CR}{l:List Nat}{r:Int×List CR}(h:∀j∈l,DF (T j) (Q j))(a0:DF (l.flatMap fun j=>(Q j).2) r):DF (l.flatMap T) r:=by
 have F1:∀j∈l,(Q j).2= []→T j= []:=fun j K e=>by
  rcases h j K with⟨U,_⟩ | ⟨k,_,⟨t,ht,Z⟩,_,ag⟩
  ·exact U
  ·have:t∈(Q j).2:=by rw [ag];exact List.mem_filter.2 ⟨ht,by simpa using Z⟩
   rw [e] at this;simp at this
 rcases a0 with⟨U,rfl⟩ | ⟨k,U,⟨t,ht,Z⟩,av,ag⟩
 ·refine .inl ⟨?_,rfl⟩;rw [List.flatMap_eq_nil_iff] at U ⊢;exact fun j K=>F1 j K (U j K)
 ·have low:∀j∈l,∀s∈T j,∃O:Nat,(Q j).2=(T j).filter (fun t=>decide (CQ t=O))∧k≤O∧O≤CQ s:=fun j K s hs=>by
   rcases h j K with⟨al,_⟩ | ⟨O,_,⟨u,hu,am⟩,V,Y⟩
   ·rw [al] at hs;simp at hs
   ·refine⟨O,Y,?_,V s hs⟩;have:=av u (List.mem_flatMap.2 ⟨j,K,by rw [Y];exact List.mem_filter.2 ⟨hu,by simpa using am⟩⟩);omega
  refine .inr ⟨k,U,?_,?_,?_⟩
  ·obtain⟨j,K,a1⟩:=List.mem_flatMap.1 ht;exact⟨t,List.mem_flatMap.2 ⟨j,K,((h j K).sub t a1).1⟩,Z⟩
  ·intro s hs;obtain⟨j,K,a2⟩:=List.mem_flatMap.1 hs;obtain⟨O,_,g2,V⟩:=low j K s a2;omega
  ·rw [ag,List.filter_flatMap,List.filter_flatMap];refine Rm fun j K=>?_;rcases h j K with⟨al,g2⟩ | ⟨O,_,⟨u,hu,am⟩,V,Y⟩
   ·rw [al,g2]
   ·obtain⟨a4,a5,a6,a7⟩:=low j K u hu;rw [Y,List.filter_filter];by_cases e:O=k
    ·subst e;exact List.filter_congr fun x _=>by simp
    ·have a8:k<O:=by
      have a3:u∈(Q j).2:=by rw [Y];exact List.mem_filter.2 ⟨hu,by simpa using am⟩
      have:=av u (List.mem_flatMap.2 ⟨j,K,a3⟩);omega
     rw [List.filter_eq_nil_iff.2 fun x ap=>?_,List.filter_eq_nil_iff.2 fun x ap=>?_]
     ·have:=V x ap;simp;omega
     ·have:=V x ap;simp;omega
theorem UH{qs:Nat→Int×List CR}{p:Int×Int×List CR}(h:p∈D3 qs):∃j,j<13∧p=partOf qs j∧0<(qs j).2.length:=by
 unfold D3 at h;obtain⟨j,K,rfl⟩:=List.mem_map.1 h;obtain⟨O,U⟩:=List.mem_filter.1 K;exact⟨j,List.mem_range.1 O,rfl,of_decide_eq_true U⟩
theorem Uw(qs:Nat→Int×List CR):(D3 qs).length≤13:=by
 unfold D3;rw [List.length_map];exact Nat.le_trans (List.length_filter_le _ _) (by simp)
theorem Ue(qs:Nat→Int×List CR):((D3 qs).flatMap fun p=>p.2.2)=(List.range 13).flatMap fun j=>(qs j).2:=by
 unfold D3;rw [List.flatMap_map];generalize List.range 13=l
 induction l with
 | nil=>rfl
 | cons j l K=>
  rw [List.filter_cons,List.flatMap_cons];split
  ·rw [List.flatMap_cons,K];rfl
  ·rename_i h;have:(qs j).2= []:=List.length_eq_zero_iff.1 (by simpa using h);rw [K,this];rfl
theorem YU{F:Nat}{p:Int×Int×List CR}{pre:List CR}{le:Int}{all:List CR}(Z:268435456<F)(ag:p.2.2.length≤268435456)(al:pre.length<2 ^ 38)(V:∀t∈p.2.2,(CQ t:Int)=p.2.1)(h:DF pre (le,all)):
  AZ (iter (K8 F p) F (le,all,0)) (fun r=>DF (pre++p.2.2) r):=by
 refine Cj p.2.2.length (fun i s=>s.2.2=(i:Int)∧DF (pre++p.2.2.take i) (s.1,s.2.1)) ⟨rfl,by simpa using h⟩ (by omega) ?_ ?_
 ·rintro i ⟨a,b,c⟩ hi ⟨O,K⟩;simp only at O K;subst O;unfold K8;refine Br (by simp only;omega) (Bl (m:=i) rfl hi ?_);obtain⟨q,U,Y⟩:=K.snoc F (t:=p.2.2[i]) (by simp;omega);rw [V _ (List.getElem_mem hi)] at U;refine AO U (AV ((i+1:Nat):Int) (by simp) (by omega) (by omega) ?_);refine Ak ⟨rfl,?_⟩;rw [List.take_add_one,List.getElem?_eq_getElem hi];simpa using Y
 ·rintro⟨a,b,c⟩ ⟨O,K⟩;simp only at O K;subst O;unfold K8;refine A9 (by simp) (Ak ⟨_,rfl,?_⟩);rw [List.take_length] at K;exact K
theorem YE{F n:Nat}{J:JW}{lk:A8}(al:268435456<F)(am:VJ n J)(ag:B4 n lk):AZ (f93 F (J.1,J.2,Gu J) lk) (fun r=>DF (TT J lk) r):=by
 obtain⟨qs,e,Y⟩:=VD (F:=F) (by omega) am ag;unfold f93;refine AO e ?_;have a0:=Uw qs;have hlen:∀p∈D3 qs,p.2.2.length≤268435456∧∀t∈p.2.2,(CQ t:Int)=p.2.1:=fun p Z=>by
  obtain⟨j,U,rfl,_⟩:=UH Z;exact⟨Nat.le_trans (Y j U).len (Zd ag j),fun t ht=>((Y j U).sub t ht).2⟩
 refine AD (S:=fun r=>DF ((D3 qs).flatMap fun p=>p.2.2) r) ?_ ?_
 ·refine Cj (D3 qs).length (fun i s=>s.2.2=(i:Int)∧DF (((D3 qs).take i).flatMap fun p=>p.2.2) (s.1,s.2.1)) ⟨rfl,.inl ⟨rfl,rfl⟩⟩ (by omega) ?_ ?_
  ·rintro i ⟨a,b,c⟩ hi ⟨O,K⟩;simp only at O K;subst O;unfold MX;refine Br (by simp only;omega) (Bl (m:=i) rfl hi ?_);obtain⟨ap,g2⟩:=hlen _ (List.getElem_mem hi);have a1:(((D3 qs).take i).flatMap fun p=>p.2.2).length≤((D3 qs).take i).length*268435456:=Mc fun p Z=>(hlen p (List.mem_of_mem_take Z)).1;have av:((D3 qs).take i).length≤13:=by rw [List.length_take];omega
   have hmul:((D3 qs).take i).length*268435456≤13*268435456:=Nat.mul_le_mul_right _ av;refine AD (YU al ap (by omega) g2 K) ?_;intro r V;refine AV ((i+1:Nat):Int) (by simp) (by omega) (by omega) ?_;refine Ak ⟨rfl,?_⟩;rw [List.take_add_one,List.getElem?_eq_getElem hi];simp only [Option.toList_some,List.flatMap_append,List.flatMap_cons,List.flatMap_nil,List.append_nil];exact V
  ·rintro⟨a,b,c⟩ ⟨O,K⟩;simp only at O K;subst O;unfold MX;refine A9 (by simp) (Ak ⟨_,rfl,?_⟩);rw [List.take_length] at K;exact K
 ·intro r V;refine Ak ?_;rw [Ue] at V;exact DF.flat (fun j U=>Y j (List.mem_range.1 U)) V
end Pal
namespace Pal
theorem DF.XY{K:List CR}{q:Int×List CR}(h:DF K q):q.2= []↔K= []:=by
 rcases h with⟨O,rfl⟩ | ⟨k,_,⟨t,ht,U⟩,_,V⟩
 ·simp [O]
 ·constructor
  ·intro e;have:t∈q.2:=by rw [V];exact List.mem_filter.2 ⟨ht,by simpa using U⟩
   rw [e] at this;simp at this
  ·rintro rfl;simp at ht
def Fw(J:JW)(lk:A8)(k:Nat):Prop:=(∃t∈TT J lk,CQ t=k)∧∀t∈TT J lk,k≤CQ t
def F2(J:JW)(lk:A8)(k:Nat):List CR:=(TT J lk).filter fun t=>decide (CQ t=k)
theorem Fw.pos{J:JW}{lk:A8}{k:Nat}(h:Fw J lk k):0<(F2 J lk k).length:=by
 obtain⟨⟨t,ht,K⟩,_⟩:=h;exact List.length_pos_of_mem (List.mem_filter.2 ⟨ht,by simpa using K⟩)
theorem Fw.uniq{J:JW}{lk:A8}{k k':Nat}(h:Fw J lk k)(K:Fw J lk k'):k=k':=by
 obtain⟨⟨t,ht,Z⟩,O⟩:=h;obtain⟨⟨U,V,ag⟩,Y⟩:=K;have:=O U V;have:=Y t ht;omega
theorem J0{J:JW}{lk:A8}{t:CR}:t∈TT J lk↔∃a,a<13∧t∈TA J lk a:=by
 unfold TT;rw [List.mem_flatMap];exact⟨fun⟨a,K,O⟩=>⟨a,List.mem_range.1 K,O⟩,fun⟨a,K,O⟩=>⟨a,List.mem_range.2 K,O⟩⟩
theorem SL{F n:Nat}{J:JW}{lk:A8}{p:Int}(b:Bool)(Y:268435456<F)(K:VJ n J)(U:B4 n lk)(Z:lk.length≤4)(ag: -1≤p∧p<(lk.length:Int)):
  AZ (f78 F J lk p b) (fun r=>DF (TT J lk) r.2.1∧r.2.2=if TT J lk= []∧b=false then 11 else 0):=by
 unfold f78;refine AO (S5 (by omega) K U Z) (A9 (by simp) ?_);refine AV ((lk.length:Int) - 1) rfl (by omega) (by omega) (AO (I0 F _ _ _) ?_);refine A9 (by simp;omega) (AO (Z0 (by omega) K) ?_);refine AO (b:=(J.1,J.2,Gu J)) rfl (AD (YE Y K U) ?_);intro r O;have V:=O.XY;refine AD (S:=fun c=>c=decide (TT J lk= []∧b=false)) ?_ ?_
 ·refine Bn (fun h=>?_) (fun h=>?_)
  ·have:TT J lk= []:=V.1 (List.length_eq_zero_iff.1 (by omega));refine Ak ?_;cases b <;> simp [this]
  ·have:TT J lk≠ []:=fun e=>h (by rw [V.2 e];rfl);exact Ak (by simp [this])
 ·rintro c rfl;refine Bn (fun h=>?_) (fun h=>?_)
  ·exact Ak ⟨O,by rw [if_pos (of_decide_eq_true h)]⟩
  ·exact Ak ⟨O,by rw [if_neg (of_decide_eq_false (by simpa using h))]⟩
theorem asked{F n:Nat}{J:JW}{lk:A8}{p:Int}(Z:268435456<F)(ag:VJ n J)(al:B4 n lk)(K:lk.length≤4)(am: -1≤p∧p<(lk.length:Int)):
  AZ (f78 F J lk p false) (fun r=>(TT J lk= []∧r.2.1=(0,[])∧r.2.2=11)∨∃k,Fw J lk k∧r.2.1=((k:Int),F2 J lk k)∧r.2.2=0):=by
 refine(SL false Z ag al K am).Ah ?_;rintro⟨x,⟨q1,q2⟩,e⟩ ⟨V,U⟩;simp only at V U;rcases V with⟨O,K⟩ | ⟨k,O,K,ap,Y⟩
 ·exact .inl ⟨O,K,by rw [U,if_pos (by simp [O])]⟩
 ·refine .inr ⟨k,⟨K,ap⟩,?_,?_⟩
  ·simp only at O Y;rw [O,Y];rfl
  ·obtain⟨t,ht,_⟩:=K;simp only;rw [U,if_neg];rintro⟨av,_⟩;rw [av] at ht;simp at ht
theorem Z5{F n:Nat}{J:JW}{lk:A8}(Y:268435456<F)(Z:VJ n J)(ag:B4 n lk)(al:lk.length≤4):
  AZ (f30 F J lk) (fun r=>(TT J lk= []∧r=(0,[],11))∨∃k t,Fw J lk k∧(F2 J lk k)[0]? =some t∧r=(t.1,t.2.1,0)):=by
 unfold f30;refine AD (asked Y Z ag al ⟨by omega,by omega⟩) ?_;rintro⟨x,q,e⟩ (⟨U,K,O⟩ | ⟨k,U,K,O⟩)
 ·simp only at K O;subst K;subst O;exact Br (by simp) (Ak (.inl ⟨U,rfl⟩))
 ·simp only at K O;subst K;subst O;refine A9 (by simp) ?_;have V:=U.pos;refine Bl (m:=0) rfl V (Bl (m:=0) rfl V ?_);exact Ak (.inr ⟨k,(F2 J lk k)[0],U,List.getElem?_eq_getElem V,rfl⟩)
end Pal
namespace Pal
def GC(J:JW)(a:Nat)(p:List Int):Prop:=(∀m,p[0]? =some m→∃k:Nat,m=(k:Int)∧(AG J a).testBit k=true)∧∀(y:Nat) m m',p[y]? =some m→p[y+1]? =some m'→m'∈J.1.getD m.toNat []
theorem GC.range{n a:Nat}{J:JW}{p:List Int}(K:VJ n J)(h:GC J a p):∀(y:Nat) m,p[y]? =some m→0≤m∧m<(n:Int)
 | 0,m,hm=>by
  obtain⟨k,rfl,O⟩:=h.1 m hm
  have:=Io (Hy K a) O
  omega
 | y+1,m,hm=>by
  have U:y<p.length:=by have:=(List.getElem?_eq_some_iff.1 hm).1;omega
  exact(K.EX _).inr _ (h.2 y p[y] m (List.getElem?_eq_getElem U) hm)
theorem GC.take{a:Nat}{J:JW}{p:List Int}(h:GC J a p)(k:Nat):GC J a (p.take k):=by
 have key:∀(y:Nat) m,(p.take k)[y]? =some m→p[y]? =some m:=fun y m hm=>by
  rw [List.getElem?_take] at hm;split at hm
  ·exact hm
  ·cases hm
 exact⟨fun m hm=>h.1 m (key 0 m hm),fun y m m' K O=>h.2 y m m' (key _ _ K) (key _ _ O)⟩
theorem GC.snoc{a:Nat}{J:JW}{p:List Int}{m x:Int}(h:GC J a (p++ [m]))(U:x∈J.1.getD m.toNat []):GC J a (p++ [m]++ [x]):=by
 constructor
 ·intro y O;rw [List.getElem?_append_left (by simp)] at O;exact h.1 y O
 ·intro y u V hu K;rcases Nat.lt_or_ge (y+1) (p++ [m]).length with Y | Z
  ·rw [List.getElem?_append_left (by omega)] at hu;rw [List.getElem?_append_left Y] at K;exact h.2 y u V hu K
  ·have ag:=(List.getElem?_eq_some_iff.1 K).1;simp only [List.length_append,List.length_singleton] at Z ag;have e:y=p.length:=by omega
   subst e;rw [List.getElem?_append_left (by simp),List.getElem?_append_right (by omega)] at hu;rw [List.getElem?_append_right (by simp)] at K;simp at hu K;subst hu;subst K;exact U
theorem Xa{n a q:Nat}{J:JW}{x:Int}(K:VJ n J)(O:(AG J a).testBit q=true)(U:x∈J.1.getD q []):∃k:Nat,x=(k:Int)∧(AG J (a+1)).testBit k=true:=by
 have V:=(K.EX q).inr x U;refine⟨x.toNat,by omega,?_⟩;show(GN J.1 (AG J a)).testBit _=true;rw [OQ K];exact⟨q,by have:=Io (Hy K a) O;have:=K.le;omega,O,by rw [show((x.toNat:Nat):Int)=x by omega];exact U⟩
theorem VJ.TG{n q:Nat}{J:JW}(K:VJ n J)(U:q<n):J.1[q]? =some (J.1.getD q [])∧0<(J.1.getD q []).length:=by
 have V:=K.l1;have O:J.1[q]? =some (J.1.getD q []):=by rw [List.getD_eq_getElem?_getD,List.getElem?_eq_getElem (by omega)];rfl
 exact⟨O,(K.nx q _ O).2⟩
theorem Zn{F k n yrs:Nat}{b:EB}{J:JW}(bw:100<F)(K:VJ n J)(hb:BG k b)(bz:k<1000)(bA:yrs≤20):
  AZ (f45 F b J (yrs:Int)) (fun r=>∃a:Nat,r.1=(a:Int)∧a≤6∧r.2.1.length=yrs∧GC J a r.2.1∧BG (k+30) r.2.2):=by
 have bB:=K.le;have bC:=K.pos;unfold f45;refine AD (HT hb (by omega) (by omega)) ?_;rintro⟨a5,bD⟩ ⟨a8,g2,a6⟩;simp only at a8 g2 a6 ⊢;obtain⟨a,rfl⟩:∃a:Nat,a5=(a:Int):=⟨a5.toNat,by omega⟩;refine AD (S:=fun r=>∃q:Nat,r.1=(q:Int)∧(AG J a).testBit q=true∧BG (k+7) r.2) ?_ ?_
 ·refine Cj a (fun i s=>∃q:Nat,s.2.2.2.1=(q:Int)∧(AG J i).testBit q=true∧s.2.2.2.2=(i:Int)∧BG (k+1+i) (s.1,s.2.1,s.2.2.1)) ⟨0,rfl,by show(1:Nat).testBit 0=true;decide,rfl,a6⟩ (by omega) ?_ ?_
  ·rintro i ⟨s1,s2,a2,Z,a1⟩ hi ⟨q,O,ag,al,am⟩;simp only at O al am;subst O;subst al;unfold Ng;have a9:=Io (Hy K i) ag;obtain⟨a3,a4⟩:=K.TG a9;refine Br (by simp only;omega) (AO (DC (m:=q) rfl a3) ?_);refine AD (MU (F:=F) am (by omega) a4 (by have:=(K.EX q).len;omega)) ?_;rintro⟨x,bb⟩ ⟨ap,av⟩;simp only at ap av ⊢;obtain⟨bd,rfl,be⟩:=Xa K ag ap;exact AV ((i+1:Nat):Int) (by simp) (by omega) (by omega) (Ak ⟨bd,rfl,be,rfl,av⟩)
  ·rintro⟨s1,s2,a2,Z,a1⟩ ⟨q,O,ag,al,am⟩;simp only at O al am;subst O;subst al;unfold Ng;exact A9 (by simp) (Ak ⟨_,rfl,q,rfl,ag,am.Ah (by omega)⟩)
 ·rintro⟨bE,bb⟩ ⟨q,O,ag,av⟩;simp only at O av ⊢;subst O;refine AD (S:=fun r=>r.1.length=yrs∧GC J a r.1∧BG (k+30) r.2) ?_ ?_
  ·refine Cj yrs (fun i s=>s.2.2.2.2.1.length=i∧s.2.2.2.2.2=(i:Int)∧GC J a (s.2.2.2.2.1++ [s.2.2.2.1])∧BG (k+7+i) (s.1,s.2.1,s.2.2.1)) ⟨rfl,rfl,⟨?_,?_⟩,av⟩ (by omega) ?_ ?_
   ·intro m hm;simp at hm;subst hm;exact⟨q,rfl,ag⟩
   ·intro y m m' _ bi;simp at bi
   ·rintro i ⟨s1,s2,a2,Z,a1,bo⟩ hi ⟨U,Y,V,a0⟩;simp only at U Y V a0;subst Y;unfold M6;have bF:=V.range K i Z (by rw [List.getElem?_append_right (by omega)];simp [U]);obtain⟨u,hu⟩:∃u:Nat,Z=(u:Int):=⟨Z.toNat,by omega⟩;subst hu;obtain⟨a3,a4⟩:=K.TG (q:=u) (by omega);refine Br (by simp only;omega) (IN (by simp only;omega) ?_);refine AO (DC (m:=u) rfl a3) (AD (MU (F:=F) a0 (by omega) a4 (by have:=(K.EX u).len;omega)) ?_);rintro⟨x,bv⟩ ⟨ap,a7⟩;simp only at ap a7 ⊢;exact AV ((i+1:Nat):Int) (by simp) (by omega) (by omega) (Ak ⟨by simp [U],rfl,V.snoc (by simpa using ap),a7⟩)
   ·rintro⟨s1,s2,a2,Z,a1,bo⟩ ⟨U,Y,V,a0⟩;simp only at U Y V a0;subst Y;unfold M6;refine A9 (by simp) (Ak ⟨_,rfl,U,?_,a0.Ah (by omega)⟩);have:=V.take a1.length
    rwa [List.take_left' rfl] at this
  ·rintro⟨ms,bv⟩ ⟨U,Y,V⟩;exact Ak ⟨a,rfl,by omega,U,Y,V⟩
theorem B4.snoc{n:Nat}{lk:A8}{l:Int×Int}(h:B4 n lk)(Z:lk.length<4)(U:0≤l.1∧l.1≤6)(V:0≤l.2∧l.2<(n:Int))(Y:∀x∈lk,x.1≤l.1):B4 n (lk++ [l]) where
 len:=by simp;omega
 yr x K:=by
  rcases List.mem_append.1 K with K | K
  ·exact h.yr x K
  ·simp at K;subst K;exact U
 sn x K:=by
  rcases List.mem_append.1 K with K | K
  ·exact h.sn x K
  ·simp at K;subst K;exact V
 IJ:=by
  rw [List.pairwise_append];exact⟨h.IJ,by simp,fun x K y O=>by simp at O;subst O;exact Y x K⟩
theorem B4.nil{n:Nat}:B4 n []:=⟨by simp,by simp,by simp,by simp⟩
theorem Y5{F k n many:Nat}{b:EB}{J:JW}{ms:List Int}(fl:Bool)(bB:100<F)(ap:VJ n J)(hb:BG k b)(bC:k<1000)(hm:many≤4)(a7:0<ms.length∧ms.length≤7)(Y:∀(y:Nat) m,ms[y]? =some m→0≤m∧m<(n:Int)):
  AZ (f46 F b J ms (many:Int) fl) (fun r=>B4 n r.1∧r.1.length≤many∧(∀l∈r.1,l.1.toNat<ms.length)∧(fl=false→∀l∈r.1,ms[l.1.toNat]? =some l.2)∧BG (k+30) r.2):=by
 have a8:=ap.l2;unfold f46;refine AD (HT hb (by omega) (by omega)) ?_;rintro⟨ct,bD⟩ ⟨a9,g2,av⟩;simp only at a9 g2 av ⊢;obtain⟨c,rfl⟩:∃c:Nat,ct=(c:Int):=⟨ct.toNat,by omega⟩;refine AD (S:=fun r=>B4 n r.1∧r.1.length≤many∧(∀l∈r.1,l.1.toNat<ms.length)∧(fl=false→∀l∈r.1,ms[l.1.toNat]? =some l.2)∧BG (k+30) r.2) ?_ (fun r Y=>Ak Y);refine Mv (fun m s=>∃y:Nat,s.2.2.2.2.2=(m:Int)∧s.2.2.2.2.1=(y:Int)∧y<ms.length∧s.2.2.2.1.length+m≤many∧B4 n s.2.2.2.1∧(∀l∈s.2.2.2.1,l.1≤(y:Int))∧(fl=false→∀l∈s.2.2.2.1,ms[l.1.toNat]? =some l.2)∧BG (k+29 - 4*m) (s.1,s.2.1,s.2.2.1)) ?_ (m:=c) ⟨0,rfl,rfl,a7.1,by simp;omega,B4.nil,by simp,by simp,av.Ah (by omega)⟩ (by omega);rintro m ⟨s1,s2,bE,out,yr,cnt⟩ ⟨y,a0,a1,bF,hlen,U,hle,Z,ag⟩;simp only at a0 a1 hlen U hle Z ag;subst a0;subst a1;unfold O7;refine Bn (fun bb=>?_) (fun bd=>?_)
 ·simp only at bb;have bG:0<m:=by omega
  refine AV ((ms.length - 1:Nat):Int) (by omega) (by omega) (by omega) (AV ((y+2:Nat):Int) (by simp only;omega) (by omega) (by omega) ?_);refine AD (O3 (F:=F) ag (by omega) (by simp only;omega) (by simp only;omega) (by omega)) ?_;rintro⟨a2,bH⟩ ⟨v1,v2,al⟩;simp only at v1 v2 al ⊢;obtain⟨z,rfl⟩:∃z:Nat,a2=(z:Int):=⟨a2.toNat,by omega⟩;have a3:z<ms.length:=by omega
  have hg:ms[z]? =some ms[z]:=List.getElem?_eq_getElem a3;obtain⟨bI,be⟩:=Y z _ hg;obtain⟨q,bi⟩:∃q:Nat,ms[z]=(q:Int):=⟨ms[z].toNat,by omega⟩;rw [bi] at hg be;have bJ:q<n:=by omega
  have bo:J.2[q]? =some (J.2.getD q []):=by rw [List.getD_eq_getElem?_getD,List.getElem?_eq_getElem (by omega)];rfl
  have a4:=ap.PQ q;refine AO (DC (m:=z) rfl hg) ?_;refine AO (DC (m:=z) rfl hg) ?_;refine AO (DC (m:=q) rfl bo) ?_;refine AD (S:=fun c=>c=true→fl=true∧0<(J.2.getD q []).length) ?_ ?_
  ·refine Bn (fun h=>Ak fun O=>⟨h,by have:=of_decide_eq_true O;omega⟩) (fun _=>Ak fun O=>by cases O)
  ·intro bK bv;refine AD (S:=fun r=>(r.1=true→fl=true∧0<(J.2.getD q []).length)∧BG (k+29 - 4*m+2) r.2) ?_ ?_
   ·refine Bn (fun h=>?_) (fun _=>Ak ⟨fun O=>(by cases O),BG.Ah al (by omega)⟩);refine AD (Lc (F:=F) al (by omega) (by omega) (by omega)) ?_;rintro⟨o,bw⟩ V;exact Ak ⟨fun _=>bv h,V⟩
   ·rintro⟨c2,bw⟩ ⟨a5,V⟩;simp only at a5 V ⊢;refine AD (S:=fun r=>0≤r.2.2.2∧r.2.2.2<(n:Int)∧(fl=false→r.2.2.2=(q:Int))∧BG (k+29 - 4*m+3) (r.1,r.2.1,r.2.2.1)) ?_ ?_
    ·refine Bn (fun h=>?_) (fun _=>Ak ⟨by simp only;omega,by simp only;omega,fun _=>rfl,BG.Ah V (by omega)⟩);obtain⟨f1,f2⟩:=a5 h;refine AD (MU (F:=F) V (by omega) f2 (by have:=a4.len;omega)) ?_;rintro⟨x,bL⟩ ⟨am,bz⟩;have:=a4.inr x am;exact Ak ⟨this.1,this.2,fun O=>(by rw [f1] at O;cases O),bz⟩
    ·rintro⟨u1,u2,bM,sn⟩ ⟨w1,w2,w3,w4⟩;simp only at w1 w2 w3 w4 ⊢;refine IN (by have:=U.len;omega) (AV ((m - 1:Nat):Int) (by omega) (by omega) (by omega) ?_);refine Ak ⟨m - 1,by omega,z,rfl,rfl,a3,by simp;omega,?_,?_,?_,w4.Ah (by omega)⟩
     ·exact U.snoc (by have:=U.len;omega) ⟨by simp only;omega,by simp only;omega⟩ ⟨w1,w2⟩ fun x am=>by have:=hle x am;simp only;omega
     ·intro l K;rcases List.mem_append.1 K with K | K
      ·have:=hle l K;omega
      ·simp at K;subst K;exact Int.le_refl _
     ·intro a6 l K;rcases List.mem_append.1 K with K | K
      ·exact Z a6 l K
      ·simp at K;subst K;rw [w3 a6];exact hg
 ·simp only at bd;have bA:m=0:=by omega
  subst bA;exact Ak ⟨U,by omega,fun l K=>by have bN:=hle l K;have a8:=U.yr l K;omega,Z,ag.Ah (by omega)⟩
theorem B4.set{n i:Nat}{lk:A8}{s:Int}(h:B4 n lk)(hi:i<lk.length)(hs:0≤s∧s<(n:Int)):B4 n (lk.set i (lk[i].1,s)):=by
 have hm:=List.getElem_mem hi;refine⟨by simpa using h.len,fun l K=>?_,fun l K=>?_,?_⟩
 ·rcases List.mem_or_eq_of_mem_set K with O | rfl
  ·exact h.yr l O
  ·exact h.yr lk[i] hm
 ·rcases List.mem_or_eq_of_mem_set K with O | rfl
  ·exact h.sn l O
  ·exact hs
 ·have key:(lk.set i (lk[i].1,s)).map (fun l=>l.1)=lk.map (fun l=>l.1):=by
   rw [List.map_set];apply List.ext_getElem?;intro j;by_cases e:i=j
   ·subst e;rw [List.getElem?_set_self (by simpa using hi)];simp [hi]
   ·rw [List.getElem?_set_ne e]
  have U:(lk.map fun l=>l.1).Pairwise (·≤·):=List.pairwise_map.2 h.IJ;rw [← key] at U;exact List.pairwise_map.1 U
theorem Z3{F k n many:Nat}{b:EB}{J:JW}(V:100<F)(K:VJ n J)(hb:BG k b)(a8:k<900)(hm:many≤4):
  AZ (f40 F b J (many:Int)) (fun r=>B4 n r.1∧r.1.length≤many∧(∀l∈r.1,l.1.toNat<5)∧BG (k+100) r.2):=by
 have a9:=K.l1;have bb:=K.pos;have bd:=K.le;unfold f40;refine AD (Zn (yrs:=5) V K hb (by omega) (by omega)) ?_;rintro⟨be,ms,bi⟩ ⟨a,_,_,g2,Y,Z⟩;simp only at g2 Y Z ⊢;refine AD (Y5 (many:=many) true V K Z (by omega) hm ⟨by omega,by omega⟩ (Y.range K)) ?_;rintro⟨lk,bo⟩ ⟨v1,v2,ag,_,al⟩;simp only at v1 v2 ag al ⊢;refine AD (S:=fun r=>B4 n r.1∧r.1.length≤many∧(∀l∈r.1,l.1.toNat<5)∧BG (k+100) r.2) ?_ (fun r a1=>Ak a1);refine Cj lk.length (fun i s=>s.2.2.2.2=(i:Int)∧B4 n s.2.2.2.1∧s.2.2.2.1.length=lk.length∧(∀l∈s.2.2.2.1,l.1.toNat<5)∧BG (k+60+3*i) (s.1,s.2.1,s.2.2.1)) ⟨rfl,v1,rfl,fun l a2=>by have:=ag l a2;omega,al⟩ (by have:=v1.len;omega) ?_ ?_
 ·rintro i ⟨s1,s2,a3,l,c⟩ hi ⟨e,w1,w2,w3,w4⟩;simp only at e w1 w2 w3 w4;subst e;unfold Nt;have O:i<l.length:=by omega
  have a4:=v1.len;refine Br (by simp only;omega) ?_;refine AD (Lc (F:=F) w4 (by omega) (by omega) (by omega)) ?_;rintro⟨o,bv⟩ U;simp only at U ⊢;refine AD (S:=fun r=>B4 n r.1∧r.1.length=lk.length∧(∀x∈r.1,x.1.toNat<5)∧BG (k+60+3*i+2) r.2) ?_ ?_
  ·refine Bn (fun _=>?_) (fun _=>Ak ⟨w1,w2,w3,BG.Ah U (by omega)⟩);refine AV ((n - 1:Nat):Int) (by omega) (by omega) (by omega) (AD (HT (F:=F) U (by omega) (by omega)) ?_);rintro⟨x,a5⟩ ⟨am,x2,ap⟩;simp only at am x2 ap ⊢;refine Bl (m:=i) rfl O (Ak ⟨?_,by simpa using w2,?_,ap⟩)
   ·rw [show Int.toNat (i:Int)=i by omega];exact w1.set O ⟨am,by omega⟩
   ·intro y a6;rcases List.mem_or_eq_of_mem_set a6 with a7 | rfl
    ·exact w3 y a7
    ·exact w3 l[i] (List.getElem_mem O)
  ·rintro⟨l2,a5⟩ ⟨u1,u2,av,a0⟩;simp only at u1 u2 av a0 ⊢;exact AV ((i+1:Nat):Int) (by simp) (by omega) (by omega) (Ak ⟨rfl,u1,u2,av,BG.Ah a0 (by omega)⟩)
 ·rintro⟨s1,s2,a3,l,c⟩ ⟨e,w1,w2,w3,w4⟩;simp only at e w1 w2 w3 w4;subst e;unfold Nt;have a4:=v1.len;exact A9 (by simp only;omega) (Ak ⟨_,rfl,w1,by simp only;omega,w3,BG.Ah w4 (by omega)⟩)
end Pal
namespace Pal
def TJ(J:JW)(lk:A8)(p:List Int):Prop:=∀l∈lk,∀m,p[l.1.toNat]? =some m→Fg J m l=true
def Gr(lk:A8):Nat→List Int→Nat
 | _,[]=>0
 | y,m::p=>By lk y m lk.length ||| Gr lk (y+1) p
theorem Mx(lk:A8)(i:Nat):∀(p:List Int) (y:Nat),(Gr lk y p).testBit i=true↔∃l,lk[i]? =some l∧∃(q:Nat) (m:Int),p[q]? =some m∧l.1=((y+q:Nat):Int)∧m≠l.2
 | [],y=>by simp [Gr]
 | m::p,y=>by
  unfold Gr
  rw [Nat.testBit_or,Bool.or_eq_true,Gf,Mx lk i p (y+1)]
  constructor
  ·rintro(⟨_,l,K,O,U⟩ | ⟨l,K,q,u,O,U,V⟩)
   ·exact⟨l,K,0,m,rfl,by simpa using O,U⟩
   ·exact⟨l,K,q+1,u,by simpa using O,by rw [U];congr 1;omega,V⟩
  ·rintro⟨l,K,q,u,O,U,V⟩;cases q with
   | zero=>
    simp at O;subst O;exact .inl ⟨(List.getElem?_eq_some_iff.1 K).1,l,K,by simpa using U,V⟩
   | succ q=>exact .inr ⟨l,K,q,u,by simpa using O,by rw [U];congr 1;omega,V⟩
def LL(J:JW)(lk:A8):Nat→Nat→List Int→Prop
 | _,_,[]=>True
 | y,sm,m::p=>m∈Ck sm 16∧Ei J lk y m=true∧LL J lk (y+1) (CM (J.1.getD m.toNat [])) p
theorem KZ(J:JW)(lk:A8)(x:List Int×Nat):∀(k sm:Nat) (ms:List Int) (fl:Nat),x∈Dg J lk k sm ms fl↔∃p,p.length=k∧x.1=ms++p∧LL J lk ms.length sm p∧x.2=fl ||| Gr lk ms.length p
 | 0,sm,ms,fl=>by
  unfold Dg
  rw [List.mem_singleton]
  constructor
  ·rintro rfl;exact⟨[],rfl,by simp,trivial,by simp [Gr]⟩
  ·rintro⟨p,K,O,_,U⟩;have:p= []:=List.length_eq_zero_iff.1 K;subst this;simp [Gr] at O U;exact Prod.ext O U
 | k+1,sm,ms,fl=>by
  unfold Dg;rw [List.mem_flatMap];constructor
  ·rintro⟨m,hm,V⟩;split at V
   ·rename_i hb;obtain⟨p,K,O,U,Y⟩:=(KZ J lk x k _ _ _).1 V;refine⟨m::p,by simp [K],by rw [O];simp,⟨hm,hb,by simpa using U⟩,?_⟩;rw [Y];simp only [List.length_append,List.length_singleton,Gr];exact Nat.or_assoc _ _ _
   ·simp at V
  ·rintro⟨p,K,O,U,Y⟩;cases p with
   | nil=>simp at K
   | cons m p=>
    obtain⟨Z,g2,ag⟩:=U;refine⟨m,Z,?_⟩;rw [if_pos g2];refine(KZ J lk x k _ _ _).2 ⟨p,by simpa using K,by rw [O];simp,by simpa using ag,?_⟩;rw [Y];simp only [List.length_append,List.length_singleton,Gr];exact(Nat.or_assoc _ _ _).symm
theorem OH{J:JW}{lk:A8}{y:Nat}{m:Int}:Ei J lk y m=true↔∀l∈lk,l.1=(y:Int)→Fg J m l=true:=by
 unfold Ei;rw [List.all_eq_true];refine forall_congr' fun l=>forall_congr' fun _=>?_;rw [Bool.or_eq_true,decide_eq_true_iff];by_cases h:l.1=(y:Int) <;> simp [h]
theorem Ot{n q:Nat}{J:JW}{m:Int}(U:VJ n J):m∈Ck (CM (J.1.getD q [])) 16↔m∈J.1.getD q []:=by
 have K:=U.EX q;have Y:=U.le;rw [Hk];constructor
 ·rintro⟨k,_,V,rfl⟩;rw [Jv (fun x O=>(K.inr x O).1)] at V;exact of_decide_eq_true V
 ·intro h;have:=K.inr m h;refine⟨m.toNat,by omega,?_,by omega⟩;rw [Jv (fun x O=>(K.inr x O).1),show((m.toNat:Nat):Int)=m by omega];exact decide_eq_true h
theorem OT{n:Nat}{J:JW}{lk:A8}(ag:VJ n J):∀(p:List Int) (y sm:Nat),LL J lk y sm p↔(∀m,p[0]? =some m→m∈Ck sm 16)∧(∀(q:Nat) m m',p[q]? =some m→p[q+1]? =some m'→m'∈J.1.getD m.toNat [])∧∀l∈lk,∀(q:Nat) m,l.1=((y+q:Nat):Int)→p[q]? =some m→Fg J m l=true
 | [],y,sm=>by simp [LL]
 | m::p,y,sm=>by
  unfold LL
  rw [OT ag p,OH]
  constructor
  ·rintro⟨al,U,V,am,ap⟩
   refine⟨fun u hu=>by simp at hu;subst hu;exact al,fun q u Y hu O=>?_,fun l K q u Z hu=>?_⟩
   ·cases q with
    | zero=>
     simp at hu O;subst hu;exact(Ot ag).1 (V Y (by rw [List.getElem?_eq_some_iff];exact List.getElem?_eq_some_iff.1 O))
    | succ q=>exact am q u Y (by simpa using hu) (by simpa using O)
   ·cases q with
    | zero=>
     simp at hu;subst hu;exact U l K (by simpa using Z)
    | succ q=>exact ap l K q u (by rw [Z];congr 1;omega) (by simpa using hu)
  ·rintro⟨al,U,V⟩;refine⟨al m rfl,fun l K av=>V l K 0 m (by simpa using av) rfl,fun u hu=>(Ot ag).2 (U 0 m u rfl (by simpa using hu)),fun q u Y hu O=>U (q+1) u Y (by simpa using hu) (by simpa using O),fun l K q u Z hu=>V l K (q+1) u (by rw [Z];congr 1;omega) (by simpa using hu)⟩
theorem Nj{n a:Nat}{J:JW}{lk:A8}(U:VJ n J)(av:B4 n lk){t:CR}:t∈TA J lk a↔t.1=(a:Int)∧t.2.1.length=BU lk+1∧GC J a t.2.1∧TJ J lk t.2.1∧t.2.2=Gr lk 0 t.2.1:=by
 have ag:∀m:Int,m∈Ck (AG J a) 16↔∃k:Nat,m=(k:Int)∧(AG J a).testBit k=true:=fun m=>by
  rw [Hk];exact⟨fun⟨k,_,O,K⟩=>⟨k,K,O⟩,fun⟨k,O,K⟩=>⟨k,by have:=Io (Hy U a) K;have:=U.le;omega,K,O⟩⟩
 have al:∀p:List Int,(∀l∈lk,∀(q:Nat) m,l.1=((0+q:Nat):Int)→p[q]? =some m→Fg J m l=true)↔TJ J lk p:=fun p=>by
  constructor
  ·intro h l V m hm;have:=av.yr l V;exact h l V l.1.toNat m (by omega) hm
  ·intro h l V q m a3 hm;exact h l V m (by rw [show l.1.toNat=q by omega];exact hm)
 unfold TA;rw [List.mem_map];constructor
 ·rintro⟨x,a0,rfl⟩;obtain⟨p,O,K,Y,Z⟩:=(KZ J lk x _ _ _ _).1 a0;obtain⟨a1,g2,a2⟩:=(OT U p _ _).1 Y;simp only [List.nil_append] at K;rw [K,Z];refine⟨rfl,O,⟨fun m hm=>(ag m).1 (a1 m hm),g2⟩,(al p).1 a2,?_⟩;simp
 ·rintro⟨O,K,⟨Y,Z⟩,am,ap⟩;obtain⟨t1,t2,t3⟩:=t;simp only at O K Y Z am ap;subst O;subst ap;refine⟨(t2,Gr lk 0 t2),(KZ J lk _ _ _ _ _).2 ⟨t2,K,by simp,(OT U t2 _ _).2 ⟨fun m hm=>(ag m).2 (Y m hm),Z,(al t2).2 am⟩,by simp⟩,rfl⟩
def NV(p:List Int)(l:Int×Int):Bool:=decide (p.getD l.1.toNat 0≠l.2)
theorem QC{α:Type}(lk:List α)(Q:α→Bool):∀k,((List.range k).filter fun i=>(lk[i]?.map Q).getD false).length=((lk.take k).filter Q).length
 | 0=>by simp
 | k+1=>by
  rw [List.range_succ,List.filter_append,List.length_append,QC lk Q k,List.take_add_one,List.filter_append,List.length_append]
  congr 1
  cases h:lk[k]? with
  | none=>simp [h]
  | some x=>cases K:Q x <;> simp [h,K]
theorem V2{n:Nat}{lk:A8}{p:List Int}(V:B4 n lk)(Y:∀l∈lk,l.1.toNat<p.length)(i:Nat):(Gr lk 0 p).testBit i=(lk[i]?.map (NV p)).getD false:=by
 rw [Bool.eq_iff_iff,Mx];cases h:lk[i]? with
 | none=>simp
 | some l=>
  have hm:=List.mem_of_getElem? h;have K:=Y l hm;have ag:=V.yr l hm;have hg:p.getD l.1.toNat 0=p[l.1.toNat]:=by rw [List.getD_eq_getElem?_getD,List.getElem?_eq_getElem K];rfl
  simp only [Option.map_some,Option.getD_some,NV,decide_eq_true_iff,hg];constructor
  ·rintro⟨al,O,q,m,U,am,Z⟩;cases O;have:l.1.toNat=q:=by omega
   subst this;rw [List.getElem?_eq_getElem K] at U;cases U;exact Z
  ·intro O;exact⟨l,rfl,l.1.toNat,_,List.getElem?_eq_getElem K,by omega,O⟩
theorem VS{n:Nat}{lk:A8}(O:B4 n lk):∀l∈lk,l.1.toNat≤BU lk:=by
 intro l U;obtain⟨i,hi,rfl⟩:=List.mem_iff_getElem.1 U;have K:lk.length - 1<lk.length:=by omega
 unfold BU;rw [List.getLast?_eq_getElem?,List.getElem?_eq_getElem K];simp only;rcases Nat.lt_or_ge i (lk.length - 1) with h | h
 ·have:=List.pairwise_iff_getElem.1 O.IJ i (lk.length - 1) hi K h;omega
 ·have e:i=lk.length - 1:=by omega
  subst e;exact Nat.le_refl _
theorem W5{n a:Nat}{J:JW}{lk:A8}(O:VJ n J)(K:B4 n lk){t:CR}(ht:t∈TA J lk a):CQ t=(lk.filter (NV t.2.1)).length:=by
 obtain⟨_,Y,_,_,U⟩:=(Nj O K).1 ht;have Z:=K.len;unfold CQ Ck;rw [List.length_map,U];have e:(List.range 16).filter (fun i=>(Gr lk 0 t.2.1).testBit i)=(List.range 16).filter fun i=>(lk[i]?.map (NV t.2.1)).getD false:=
  List.filter_congr fun i _=>V2 K (fun l V=>by have:=VS K l V;omega) i
 rw [e,QC,List.take_of_length_le (by omega)]
end Pal
namespace Pal
theorem Qm(s k:Nat):(Ck s k).Pairwise (·<·):=by
 unfold Ck;rw [List.pairwise_map];exact(List.pairwise_lt_range.filter _).imp fun h=>by omega
end Pal
namespace Pal
abbrev Cg(s:Nat):Nat:=(Ck s 16).length
theorem RG(s:Nat):Cg s=(List.range 16).countP fun n=>s.testBit n:=by
 unfold Cg Ck;rw [List.length_map,List.countP_eq_length_filter]
theorem QD{α:Type}{p q:α→Bool}:∀(l:List α),(∀x∈l,¬(p x=true∧q x=true))→l.countP (fun x=>p x || q x)=l.countP p+l.countP q
 | [],_=>rfl
 | x::l,h=>by
  have:=QD l (fun y K=>h y (by simp [K]))
  have O:=h x (by simp)
  simp only [List.countP_cons,this]
  cases U:p x <;> cases V:q x <;> simp_all <;> omega
theorem KH{a b:Nat}(h:∀i,¬(a.testBit i=true∧b.testBit i=true)):Cg (a ||| b)=Cg a+Cg b:=by
 simp only [RG,Nat.testBit_or];exact QD _ fun i _=>h i
theorem Sf{a b:Nat}(h:∀i,a.testBit i=true→b.testBit i=true):Cg a≤Cg b:=by
 simp only [RG];exact List.countP_mono_left fun i _ hi=>h i hi
theorem Rw:∀{a b:List Int},a.Pairwise (·<·)→b.Pairwise (·<·)→(∀x,x∈a↔x∈b)→a=b
 | [],[],_,_,_=>rfl
 | [],y::b,_,_,h=>by have:=(h y).2 (by simp);simp at this
 | x::a,[],_,_,h=>by have:=(h x).1 (by simp);simp at this
 | x::a,y::b,Y,hb,h=>by
  obtain⟨U,Z⟩:=List.pairwise_cons.1 Y
  obtain⟨V,ag⟩:=List.pairwise_cons.1 hb
  have al:x=y:=by
   have am:=(h x).1 (by simp);have ap:=(h y).2 (by simp);rcases List.mem_cons.1 am with e | e
   ·exact e
   ·rcases List.mem_cons.1 ap with K | K
    ·exact K.symm
    ·have:=U y K;have:=V x e;omega
  subst al;rw [Rw Z ag fun z=>?_];have O:=h z;simp only [List.mem_cons] at O;constructor
  ·intro hm;rcases O.1 (.inr hm) with e | e
   ·subst e;have:=U z hm;omega
   ·exact e
  ·intro hm;rcases O.2 (.inr hm) with e | e
   ·subst e;have:=V z hm;omega
   ·exact e
theorem Qk{n q:Nat}{J:JW}(K:VJ n J):Ck (CM (J.1.getD q [])) 16=J.1.getD q []:=Rw (Qm _ _) (K.EX q).IJ fun _=>Ot K
def DD(J:JW)(lk:A8)(h y:Nat)(m:Int):Option Nat:=if Ei J lk y m=true∧(By lk y m lk.length).testBit h=false then some (Cg (By lk y m lk.length)) else none
def ways(J:JW)(lk:A8)(h:Nat):Nat→Nat→Int→Nat→Nat
 | 0,y,m,k=>match DD J lk h y m with
  | some c=>if k=c then 1 else 0
  | none=>0
 | d+1,y,m,k=>match DD J lk h y m with
  | some c=>if c≤k then((J.1.getD m.toNat []).map fun x=>ways J lk h d (y+1) x (k - c)).sum else 0
  | none=>0
theorem QI{α:Type}{p:α→Bool}{l:List α}(h:∀x∈l,p x=false):l.countP p=0:=List.countP_eq_zero.2 fun x K=>by rw [h x K];simp
theorem OJ{J:JW}{lk:A8}{k sm:Nat}{ms:List Int}{fl:Nat}{x:List Int×Nat}(K:x∈Dg J lk k sm ms fl)(i:Nat)(h:fl.testBit i=true):x.2.testBit i=true:=by
 obtain⟨p,_,_,_,e⟩:=(KZ J lk x k sm ms fl).1 K;rw [e,Nat.testBit_or,h];rfl
theorem YA{n h:Nat}{J:JW}{lk:A8}(Z:VJ n J):∀(d sm:Nat) (ms:List Int) (fl c:Nat),sm<2 ^ n→fl.testBit h=false→(∀i,fl.testBit i=true→∃l,lk[i]? =some l∧l.1<(ms.length:Int))→
  (Dg J lk (d+1) sm ms fl).countP (fun x=>decide (Cg x.2=c+Cg fl)&& !x.2.testBit h)=((Ck sm 16).map fun m=>ways J lk h d ms.length m c).sum:=by
 intro d
 induction d with
 | zero=>
  intro sm ms fl c a1 hh Y;unfold Dg;rw [List.countP_flatMap];refine congrArg List.sum (List.map_congr_left fun m hm=>?_);simp only [Function.comp,ways,DD];have ag:∀i,¬(fl.testBit i=true∧(By lk ms.length m lk.length).testBit i=true):=fun i ⟨al,am⟩=>by
   obtain⟨l,O,ap⟩:=Y i al;obtain⟨_,a2,K,av,_⟩:=(Gf _ _ _ _ _).1 am;rw [O] at K;cases K;omega
  by_cases hb:Ei J lk ms.length m=true
  ·rw [if_pos hb];cases hs:(By lk ms.length m lk.length).testBit h with
   | true=>rw [if_neg (by simp)];simp [Dg,Nat.testBit_or,hh,hs]
   | false=>
    rw [if_pos ⟨hb,rfl⟩];simp only [Dg,List.countP_cons,List.countP_nil,Nat.testBit_or,hh,hs,KH ag];by_cases U:c=Cg (By lk ms.length m lk.length)
    ·rw [if_pos U,if_pos (by simp;omega)]
    ·rw [if_neg U,if_neg (by simp;omega)]
  ·rw [if_neg hb,if_neg fun x=>hb x.1];simp
 | succ d a3=>
  intro sm ms fl c a1 hh Y;unfold Dg;rw [List.countP_flatMap];refine congrArg List.sum (List.map_congr_left fun m hm=>?_);simp only [Function.comp,ways,DD];obtain⟨q,_,a6,rfl⟩:=Hk.1 hm;have a4:CM (J.1.getD q [])<2 ^ n:=by
   rcases Nat.lt_or_ge (CM (J.1.getD q [])) (2 ^ n) with h | h
   ·exact h
   ·obtain⟨i,a7,a0⟩:=Nat.exists_ge_and_testBit_of_ge_two_pow h;rw [Jv (fun x V=>((Z.EX q).inr x V).1)] at a0;have:=(Z.EX q).inr _ (of_decide_eq_true a0);omega
  have ag:∀i,¬(fl.testBit i=true∧(By lk ms.length (q:Int) lk.length).testBit i=true):=fun i ⟨al,am⟩=>by
   obtain⟨l,O,ap⟩:=Y i al;obtain⟨_,a2,K,av,_⟩:=(Gf _ _ _ _ _).1 am;rw [O] at K;cases K;omega
  by_cases hb:Ei J lk ms.length (q:Int)=true
  ·rw [if_pos hb];cases hs:(By lk ms.length (q:Int) lk.length).testBit h with
   | true=>
    rw [if_neg (by simp)];refine QI fun x V=>?_;have:=OJ V h (by rw [Nat.testBit_or,hs];simp);simp [this]
   | false=>
    rw [if_pos ⟨hb,rfl⟩];have a5:=KH ag;by_cases U:Cg (By lk ms.length (q:Int) lk.length)≤c
    ·simp only;rw [if_pos U];have:=a3 (CM (J.1.getD q [])) (ms++ [(q:Int)]) (fl ||| By lk ms.length (q:Int) lk.length) (c - Cg (By lk ms.length (q:Int) lk.length)) a4 (by rw [Nat.testBit_or,hh,hs];rfl) (fun i hi=>by
      rw [Nat.testBit_or,Bool.or_eq_true] at hi
      rcases hi with hi | hi
      ·obtain⟨l,O,ap⟩:=Y i hi
       exact⟨l,O,by simp;omega⟩
      ·obtain⟨_,l,K,av,_⟩:=(Gf _ _ _ _ _).1 hi
       exact⟨l,K,by simp;omega⟩)
     rw [Qk Z,a5,show c - Cg (By lk ms.length (q:Int) lk.length)+(Cg fl+Cg (By lk ms.length (q:Int) lk.length))=c+Cg fl by omega] at this;rw [show((q:Int)).toNat=q by omega,this,List.length_append];rfl
    ·simp only;rw [if_neg U];refine QI fun x V=>?_;have:=Sf (OJ V);rw [Bool.and_eq_false_iff];exact .inl (decide_eq_false (by omega))
  ·rw [if_neg hb,if_neg fun x=>hb x.1];simp
def nT(J:JW)(lk:A8)(h a k:Nat):Nat:=(TA J lk a).countP fun t=>decide (CQ t=k)&& !t.2.2.testBit h
theorem OG{n:Nat}{J:JW}{lk:A8}(K:VJ n J)(h a k:Nat):nT J lk h a k=((Ck (AG J a) 16).map fun m=>ways J lk h (BU lk) 0 m k).sum:=by
 have:=YA (h:=h) (lk:=lk) K (BU lk) (AG J a) [] 0 k (Hy K a) (by simp) (by simp);have e:Cg 0=0:=by decide
 rw [e] at this;unfold nT TA;rw [List.countP_map];exact this
theorem XS{n h:Nat}{J:JW}{lk:A8}(K:VJ n J)(O:B4 n lk)(hh:lk.length≤h)(a k:Nat):nT J lk h a k=(TA J lk a).countP fun t=>decide (CQ t=k):=by
 refine List.countP_congr fun t ht=>?_;obtain⟨_,_,_,_,e⟩:=(Nj K O).1 ht;have:t.2.2.testBit h=false:=by
  cases hb:t.2.2.testBit h with
  | false=>rfl
  | true=>
   rw [e] at hb;obtain⟨l,U,_⟩:=(Mx _ _ _ _).1 hb;have:=(List.getElem?_eq_some_iff.1 U).1;omega
 rw [this];simp
theorem Nr{l:List Nat}{b:Nat}(h:∀x∈l,x≤b):l.sum≤l.length*b:=by
 induction l with
 | nil=>simp
 | cons x l K=>
  have U:=h x (by simp);have V:=K fun y O=>h y (by simp [O]);simp only [List.sum_cons,List.length_cons,Nat.succ_mul];omega
theorem RZ{n h:Nat}{J:JW}{lk:A8}(K:VJ n J):∀(d y:Nat) (m:Int) (k:Nat),ways J lk h d y m k≤3 ^ d
 | 0,y,m,k=>by
  unfold ways
  split
  ·split <;> simp
  ·simp
 | d+1,y,m,k=>by
  unfold ways;split
  ·split
   ·refine Nat.le_trans (Nr (b:=3 ^ d) fun x O=>?_) ?_
    ·obtain⟨z,_,rfl⟩:=List.mem_map.1 O;exact RZ K d _ _ _
    ·rw [List.length_map,Nat.pow_succ,Nat.mul_comm];exact Nat.mul_le_mul_left _ (K.EX _).len
   ·simp
  ·simp
end Pal
namespace Pal
open Go Go.Conc Go.Proofs
open Go.Proofs.Tryz
variable {J:Judge Tryz.prog}{E:LH}
def Px(fuel:Nat)(p0:A2):Option Int:= (f113 fuel p0).bind fun K=> (Ll fuel K).bind fun O=> some O
theorem ZY{O:An}{c2:Nat}{U:An}{V:Nat}{p0:A2}(ag:GE E)(al:Am (rL rI) E O c2 p0.1)(am:Am (rL rI) E U V p0.2){fuel:Nat}{r:Int}(Y:Px fuel p0=some r):AM J 67 [.agg #[sV O p0.1 c2,sV U p0.2 V]] E [] (fun w E' B'=>w=iV r∧B'= []):=by
 refine A4 func67 fun Q bb cs H ap av=>?_;unfold Px at Y;refine zg 2 rfl (B7 ap fun bd be K a0 a1=>?_);refine zg 4 rfl (BQ a0 BX BD rfl rfl ?_);obtain⟨bi,a2,a3⟩:=bs Y;refine BO (SE (al.Ah K) (am.Ah K) a2) rfl rfl (AR func113 rfl) a1 ?_;rintro bo bv _ Z ⟨_,rfl,rfl,a4⟩ a5;obtain⟨bw,a6,a7⟩:=bs a3;refine BF (OR (ag.Ah (K.Ac Z)) a4 a6) rfl rfl N4 a5 fun bz a8 a9=>zg 2 rfl ?_;obtain rfl:=oi a7;exact AA func67 rfl rfl (av ((K.Ac Z).Ac a8) rfl ⟨rfl,rfl⟩ a9)
def Hz(fuel:Nat)(p0:A2)(p1:AI):Option Int:= (f113 fuel p0).bind fun K=> if K.isSome=true then((Ll fuel K).bind fun O=> some O) else((f116 fuel p0 p1).bind fun U=> (Ll fuel U).bind fun V=> some V)
theorem K7{U:An}{c2:Nat}{V:An}{Y:Nat}{Z:An}{ag:Nat}{p0:A2}{p1:AI}(al:GE E)(am:Am (rL rI) E U c2 p0.1)(ap:Am (rL rI) E V Y p0.2)(a5:Am Bo E Z ag p1){fuel:Nat}{r:Int}(av:Hz fuel p0 p1=some r):AM J 69 [.agg #[sV U p0.1 c2,sV V p0.2 Y],sV Z p1 ag] E [] (fun w E' B'=>w=iV r∧B'= []):=by
 refine A4 func69 fun Q bI cs H a6 a0=>?_;unfold Hz at av;refine zg 2 rfl (B7 a6 fun bJ bK K a1 a7=>?_);refine zg 5 rfl (BQ a1 BX BD rfl rfl ?_);obtain⟨a8,a9,bb⟩:=bs av;refine BO (SE (am.Ah K) (ap.Ah K) a9) rfl rfl (AR func113 rfl) a7 ?_;rintro bL bM _ O ⟨_,rfl,rfl,a2⟩ a3;refine zg 5 rfl (AE (v:= .bool a8.isSome) rfl (fun ρ h=>Oy underlying149 a2 (h _ _ rfl) (h _ _ rfl)) ?_);refine JL.done (BJ bb (fun bd be=>?_) (fun bd bi=>?_))
 ·obtain⟨bN,bo,bv⟩:=bs be;refine zg 3 rfl (BF (OR (al.Ah (K.Ac O)) a2 bo) rfl rfl N4 a3 fun bO bw bz=>?_);refine zg 2 rfl ?_;obtain rfl:=oi bv;exact AA func69 rfl rfl (a0 ((K.Ac O).Ac bw) rfl ⟨rfl,rfl⟩ bz)
 ·refine zg 3 rfl (BQ (a1.Ah O) BX BD rfl rfl ?_);obtain⟨bP,bA,bB⟩:=bs bi;refine zg 1 rfl (BO (YL (am.Ah (K.Ac O)) (ap.Ah (K.Ac O)) (a5.Ah (K.Ac O)) bA) rfl rfl (AR func116 rfl) a3 ?_);rintro bQ bR _ a4 ⟨_,rfl,rfl,bC⟩ bD;obtain⟨bS,bE,bF⟩:=bs bB;refine BF (OR (al.Ah ((K.Ac O).Ac a4)) bC bE) rfl rfl N4 bD fun bT bG bH=>zg 2 rfl ?_;obtain rfl:=oi bF;exact AA func69 rfl rfl (a0 (((K.Ac O).Ac a4).Ac bG) rfl ⟨rfl,rfl⟩ bH)
def QY(fuel:Nat)(p1:List Int)(K:Int):Option (Bf Int (((Option BZ)×Int)⊕(Unit))):= if K<(p1.length:Int) then((ix p1 K).bind fun O=> (f101 fuel O 0 12).bind fun U=> if U=true then(some (.done (Sum.inl (none,1)))) else((Au (K+1)).bind fun V=> some (.more V))) else(some (.done (Sum.inr ())))
def NI(fuel:Nat)(p0:A2)(p1:List Int):Option ((Option BZ)×Int):= (Px fuel p0).bind fun K=> if K≠0 then(some (none,K)) else(Option.bind (iter (QY fuel p1) fuel 0) fun O=> Sum.elim (fun r=>some r) (fun V=> (f92 fuel p0).bind fun U=> some (U,0)) O)
theorem Sb{ap:An}{c2:Nat}{av:An}{a0:Nat}{Z:An}{ag:Nat}{p0:A2}{p1:List Int}(bz:GE E)(a1:Am (rL rI) E ap c2 p0.1)(a2:Am (rL rI) E av a0 p0.2)(bA:Am rI E Z ag p1){fuel:Nat}{r:(Option BZ)×Int}(a3:NI fuel p0 p1=some r):AM J 106 [.agg #[sV ap p0.1 c2,sV av p0.2 a0],sV Z p1 ag] E [] (fun w E' B'=>∃(a4:Value),w= .tuple #[a4,iV r.2]∧B'= []∧Ki (rP (rL (rL rI)) (rP (rL (rL rI)) (rA 13 (rN .u16)))) E' a4 r.1):=by
 refine A4 func106 fun Q cc cs H bB al=>?_;unfold NI at a3;refine zg 2 rfl (B7 bB fun a5 cd K a6 bC=>?_);refine zg 6 rfl (BQ a6 BX BD rfl rfl ?_);obtain⟨ce,bD,bE⟩:=bs a3;refine BF (ZY (bz.Ah K) (a1.Ah K) (a2.Ah K) bD) rfl rfl (AR func67 rfl) bC fun bF O a7=>zg 7 rfl (AL bE (fun bG bH=>?_) (fun bG bI=>?_))
 ·refine zg 6 rfl ?_;obtain rfl:=oi bH;exact AA func106 rfl rfl (al (K.Ac O) rfl ⟨.pointer none,rfl,rfl,rfl⟩ a7)
 ·refine zg 5 rfl (Be underlying28 rfl rfl rfl ?_);obtain⟨a8,bJ,a9⟩:=bs bI;refine zg 2 rfl (Bp (fun L s=>∃(bb:Unit) (bd:LH),a8=Sum.inr bb∧Jm bF H bd [] [(2,pV a5 0)] L s) ?_ ?_)
  ·rintro _ _ ⟨bb,bd,rfl,rfl,rfl,U,bK⟩;have bL:=elim_inr a9;refine zg 2 rfl (BQ (a6.Ah (O.Ac U)) BX BD rfl rfl ?_);obtain⟨cf,bM,bN⟩:=bs bL;refine BO (NA (a1.Ah ((K.Ac O).Ac U)) (a2.Ah ((K.Ac O).Ac U)) bM) rfl rfl L6 bK ?_;rintro bO cg _ bP ⟨_,rfl,rfl,bQ⟩ bR;refine zg 3 rfl ?_;obtain rfl:=oi bN;exact AA func106 rfl rfl (al (((K.Ac O).Ac U).Ac bP) rfl ⟨bO,rfl,rfl,bQ⟩ bR)
  ·intro bS;refine JL.block (Cz bJ (fun am=> []) (fun am=> [(2,pV a5 0),(14,sV Z p1 ag),(15,iV (p1.length:Int)),(16,iV am)]) Ar a7 ?_);rintro am bT V be bi ⟨ci,Y⟩ bU;have bo:=Y;unfold QY at bo;refine zg 5 rfl (AL bo (fun bV bW=>?_) (fun bV bY=>?_))
   ·obtain⟨ck,bZ,b0⟩:=bs bW;refine zg 5 rfl (BN (bA.Ah ((K.Ac O).Ac V)) bZ underlying28 AU ?_);rintro cm cn _ rfl b1;refine BH 0 b1 Bt rfl rfl rfl ?_;obtain⟨co,b2,b3⟩:=bs b0;refine zg 5 rfl (BF (I6 b2) rfl rfl IL be fun cp bv bw=>?_);refine JL.done (BJ b3 (fun b4 b5=>?_) (fun b4 b6=>?_))
    ·refine zg 5 rfl ?_;obtain rfl:=oi b5;obtain rfl:=bi _ Y;have b7:=elim_inl a9;obtain rfl:=oi b7;exact AA func106 rfl rfl (al (((K.Ac O).Ac V).Ac bv) rfl ⟨.pointer none,rfl,rfl,rfl⟩ bw)
    ·obtain⟨b8,b9,ca⟩:=bs b6;refine zg 3 rfl (Bc b9 rfl rfl rfl ?_);refine zg 2 rfl ?_;obtain rfl:=oi ca;exact bU b8 (V.Ac bv) bw rfl Y
   ·refine JL.exit rfl ?_;obtain rfl:=oi bY;have cb:a8=(Sum.inr ()):=(bi _ Y).symm;exact Ax (bS _ _ ⟨(),bT,cb,rfl,rfl,V,be⟩) rfl
def PC(fuel:Nat)(p0:A2)(p1:Int):Option ((List Int)×Int):= (NI fuel p0 ([p1]:List Int)).bind fun K=> if K.2≠0 then(some ([],K.2)) else((K.1).bind fun O=> (ix O.2.2 p1).bind fun U=> (f89 fuel U).bind fun V=> some (V,0))
theorem ZI{U:An}{c2:Nat}{V:An}{Y:Nat}{p0:A2}{p1:Int}(a2:GE E)(a3:Am (rL rI) E U c2 p0.1)(a4:Am (rL rI) E V Y p0.2){fuel:Nat}{r:(List Int)×Int}(Z:PC fuel p0 p1=some r):AM J 51 [.agg #[sV U p0.1 c2,sV V p0.2 Y],iV p1] E [] (fun w E' B'=>∃(ag:An) (al:Nat),w= .tuple #[sV ag r.1 al,iV r.2]∧B'= []∧Am rI E' ag al r.1):=by
 refine A4 func51 fun Q bS cs H a5 am=>?_;unfold PC at Z;refine zg 2 rfl (B7 a5 fun bT bU K a6 a7=>?_);refine zg 5 rfl (BQ a6 BX BD rfl rfl ?_);refine zg 1 rfl (Dt (pp:=rI) [iV p1] [p1] rfl rfl rfl underlying28 AU CK (by decide) rfl rfl rfl ⟨rfl,trivial⟩ a7 fun bV bW a8 a9=>?_);refine B6 2 a8 a9 rfl fun bY O bb bd=>?_;obtain⟨bZ,be,bi⟩:=bs Z;refine BO (Sb (a2.Ah (K.Ac O)) (a3.Ah (K.Ac O)) (a4.Ah (K.Ac O)) bb be) rfl rfl (AR func106 rfl) bd ?_;rintro _ b0 _ ap ⟨b1,rfl,rfl,bo⟩ av;refine zg 12 rfl (AL bi (fun bv bw=>?_) (fun bv bz=>?_))
 ·refine zg 6 rfl ?_;obtain rfl:=oi bw;exact AA func51 rfl rfl (am ((K.Ac O).Ac ap) rfl ⟨none,0,rfl,rfl,Am.nil⟩ av)
 ·obtain⟨a0,bA,bB⟩:=bs bz;have a1:=bo;refine zg 5 rfl ?_;rw [bA] at a1;obtain⟨b2,b3,_,rfl,bC,⟨_,_,rfl,⟨bD,bE,rfl,b4⟩,⟨_,b5,rfl,⟨bF,bG,rfl,b6⟩,bH⟩⟩⟩:=a1;refine zg 1 rfl (BM underlying141 Gc rfl rfl rfl ?_);obtain⟨b7,bI,bJ⟩:=bs bB;refine OI (l:= [sV bD a0.1 bE,sV bF a0.2.1 bG]) bC bH bI rfl rfl rfl rfl rfl underlying139 Ih ?_;rintro b8 _ rfl bK;refine JL.fl 0 bK underlying138 En GR ?_;obtain⟨b9,bL,bM⟩:=bs bJ;refine BO (Ja bL) rfl rfl IM av ?_;rintro _ ca _ bN ⟨bO,bP,rfl,rfl,bQ⟩ bR;refine zg 3 rfl ?_;obtain rfl:=oi bM;exact AA func51 rfl rfl (am (((K.Ac O).Ac ap).Ac bN) rfl ⟨bO,bP,rfl,rfl,bQ⟩ bR)
def R2(fuel:Nat)(p1:Int)(O:BZ)(K:Int):Option (Bf Int Int):= (f109 fuel O p1 K).bind fun U=> if(!U)=true then((Au (K+1)).bind fun V=> some (.more V)) else(some (.done K))
def PF(fuel:Nat)(p0:A2)(p1:Int):Option (Int×Int):= (NI fuel p0 ([p1]:List Int)).bind fun K=> if K.2≠0 then(some (0,K.2)) else((K.1).bind fun O=> Option.bind (iter (R2 fuel p1 O) fuel 0) fun U=> some (U,0))
theorem Ze{Z:An}{c2:Nat}{ag:An}{al:Nat}{p0:A2}{p1:Int}(a5:GE E)(a6:Am (rL rI) E Z c2 p0.1)(a7:Am (rL rI) E ag al p0.2){fuel:Nat}{r:Int×Int}(am:PF fuel p0 p1=some r):AM J 57 [.agg #[sV Z p0.1 c2,sV ag p0.2 al],iV p1] E [] (fun w E' B'=>w= .tuple #[iV r.1,iV r.2]∧B'= []):=by
 refine A4 func57 fun Q b4 cs H a8 ap=>?_;unfold PF at am;refine zg 2 rfl (B7 a8 fun b5 b6 O a9 bb=>?_);refine zg 5 rfl (BQ a9 BX BD rfl rfl ?_);refine zg 1 rfl (Dt (pp:=rI) [iV p1] [p1] rfl rfl rfl underlying28 AU CK (by decide) rfl rfl rfl ⟨rfl,trivial⟩ bb fun b7 b8 bd be=>?_);refine B6 2 bd be rfl fun b9 U bi bo=>?_;obtain⟨ca,bv,bw⟩:=bs am;refine BO (Sb (a5.Ah (O.Ac U)) (a6.Ah (O.Ac U)) (a7.Ah (O.Ac U)) bi bv) rfl rfl (AR func106 rfl) bo ?_;rintro _ cb _ av ⟨cc,rfl,rfl,bz⟩ a0;refine zg 12 rfl (AL bw (fun bA bB=>?_) (fun bA bC=>?_))
 ·refine zg 6 rfl ?_;obtain rfl:=oi bB;exact AA func57 rfl rfl (ap ((O.Ac U).Ac av) rfl ⟨rfl,rfl⟩ a0)
 ·obtain⟨cd,bD,bE⟩:=bs bC;have a1:=bz;refine zg 6 rfl ?_;rw [bD] at a1;obtain⟨bF,bG,_,rfl,bH,⟨_,_,rfl,⟨ce,cf,rfl,bI⟩,⟨_,cg,rfl,⟨ci,ck,rfl,bJ⟩,bK⟩⟩⟩:=a1;obtain⟨bL,bM,bN⟩:=bs bE;refine C4 [] [(8,iV bL)] (fun cm bO bP=>?_) (fun bQ=>?_)
  ·refine zg 6 rfl ?_;obtain rfl:=oi bN;exact AA func57 rfl rfl (ap (((O.Ac U).Ac av).Ac bO) rfl ⟨rfl,rfl⟩ bP)
  ·refine JL.block (Cz bM (fun V=> []) (fun V=> [(1,iV p1),(6,pV bF bG),(8,iV V)]) Ar a0 ?_);rintro V cn K bR bS ⟨co,Y⟩ bT;have a2:=Y;unfold R2 at a2;obtain⟨bU,bV,bW⟩:=bs a2;refine zg 6 rfl (BF (Zh (bH.Ah K) (bI.Ah K) (bJ.Ah K) (Rp.Ah _ K bK) bV) rfl rfl (AR func109 rfl) bR fun cp a3 a4=>?_);refine AE (v:= .bool (!bU)) rfl (fun ρ h=>Yl.not (h _ _ rfl)) (JL.done ?_);refine BJ bW (fun bY bZ=>?_) (fun bY b0=>?_)
   ·obtain⟨b1,b2,b3⟩:=bs bZ;refine zg 4 rfl (Bc b2 rfl rfl rfl ?_);refine zg 3 rfl ?_;obtain rfl:=oi b3;exact bT b1 (K.Ac a3) a4 rfl Y
   ·refine JL.exit rfl ?_;obtain rfl:=oi b0;obtain rfl:=bS _ Y;exact bQ (K.Ac a3) a4 rfl
end Pal
namespace Pal
open Go Go.Conc Go.Proofs
open Go.Proofs.Tryz
def HA(fuel:Nat)(p0:A2)(p1:AI)(p2:Int)(p3:Bool):Option ((Option BZ)×(Int×(List Ch))×Int):= (Hz fuel p0 p1).bind fun O=> if O≠0 then(some (none,(0,[]),O)) else((Au ((p1.length:Int) - 1)).bind fun V=> (f101 fuel p2 (-1) V).bind fun Y=> if Y=true then(some (none,(0,[]),3)) else((f92 fuel p0).bind fun Z=> (Z).bind fun U=> (f93 fuel U p1).bind fun K=> Option.bind (if(K.2.length:Int)=0 then(some (!p3)) else(some false)) fun ag=> if ag=true then(some (none,K,11)) else(some (some U,K,0))))
theorem No{E:LH}{a5:An}{c2:Nat}{a6:An}{a7:Nat}{a8:An}{a9:Nat}{p0:A2}{p1:AI}{p2:Int}{p3:Bool}(bV:GE E)(bb:Am (rL rI) E a5 c2 p0.1)(bd:Am (rL rI) E a6 a7 p0.2)(be:Am Bo E a8 a9 p1){fuel:Nat}{r:(Option BZ)×(Int×(List Ch))×Int}(bi:HA fuel p0 p1 p2 p3=some r):AM (DZ Tryz.prog) 78 [.agg #[sV a5 p0.1 c2,sV a6 p0.2 a7],sV a8 p1 a9,iV p2,.bool p3] E [] (fun w E' B'=>∃(bo:Value) (bv:An) (bw:Nat),w= .tuple #[bo,.agg #[iV r.2.1.1,sV bv r.2.1.2 bw],iV r.2.2]∧B'= []∧Ki (rP (rL (rL rI)) (rP (rL (rL rI)) (rA 13 (rN .u16)))) E' bo r.1∧Am Dq E' bv bw r.2.1.2):=by
 refine A4 func78 fun Q cI cs H bW ap=>?_;unfold HA at bi;refine zg 2 rfl (B7 bW fun cJ cK O bz bY=>?_);refine zg 1 rfl (CU bY Gb fun bA bZ=>?_);refine zg 5 rfl (BQ bz BX BD rfl rfl ?_);obtain⟨bB,b0,b1⟩:=bs bi;refine zg 1 rfl (BF (K7 (bV.Ah O) (bb.Ah O) (bd.Ah O) (be.Ah O) b0) rfl rfl Kn bZ fun cM V bC=>?_);refine zg 7 rfl (AL b1 (fun b2 b3=>?_) (fun b2 b4=>?_))
 ·refine zg 2 rfl (AE (v:= .agg #[iV 0,nS]) rfl (fun ρ h=>Di [(0,1),(1,1)] h Gb underlying97 ⟨rfl,Bw type3,rfl,Bw type95,trivial⟩ rfl rfl) ?_);refine zg 2 rfl (BY 2 bC Dr fun bD=>?_);refine zg 2 rfl ?_;obtain rfl:=oi b3;refine JL.ret (v:= .tuple #[.pointer none,.agg #[iV 0,nS],iV bB]) rfl rfl (Cs.list func78 rfl (vs:= [.pointer none,.agg #[iV 0,nS],iV bB]) ⟨rfl,⟨_,rfl,Ld.many (vs:= [iV 0,nS]) Ic Dr (FV (off:=0) 2 bD rfl rfl)⟩,rfl,trivial⟩) (Iw 2 bD rfl fun b5=>?_);exact ap (O.Ac V) rfl ⟨.pointer none,none,0,rfl,rfl,rfl,Am.nil⟩ b5
 ·refine zg 6 rfl (Be underlying25 rfl rfl rfl ?_);obtain⟨cN,b6,b7⟩:=bs b4;refine Cd b6 rfl rfl rfl ?_;obtain⟨cO,b8,b9⟩:=bs b7;refine BF (I6 b8) rfl rfl IL bC fun cP al bE=>JL.done (BJ b9 (fun ca cb=>?_) (fun ca cc=>?_))
  ·refine zg 2 rfl (AE (v:= .agg #[iV 0,nS]) rfl (fun ρ h=>Di [(0,1),(1,1)] h Gb underlying97 ⟨rfl,Bw type3,rfl,Bw type95,trivial⟩ rfl rfl) ?_);refine zg 1 rfl (BY 2 bE Dr fun bF=>?_);refine zg 2 rfl ?_;obtain rfl:=oi cb;refine JL.ret (v:= .tuple #[.pointer none,.agg #[iV 0,nS],iV 3]) rfl rfl (Cs.list func78 rfl (vs:= [.pointer none,.agg #[iV 0,nS],iV 3]) ⟨rfl,⟨_,rfl,Ld.many (vs:= [iV 0,nS]) Ic Dr (FV (off:=0) 2 bF rfl rfl)⟩,rfl,trivial⟩) (Iw 2 bF rfl fun cd=>?_);exact ap ((O.Ac V).Ac al) rfl ⟨.pointer none,none,0,rfl,rfl,rfl,Am.nil⟩ cd
  ·refine zg 3 rfl (BQ (bz.Ah (V.Ac al)) BX BD rfl rfl ?_);obtain⟨cQ,ce,cf⟩:=bs cc;refine BO (NA (bb.Ah ((O.Ac V).Ac al)) (bd.Ah ((O.Ac V).Ac al)) ce) rfl rfl L6 bE ?_;rintro cR cT _ a1 ⟨_,rfl,rfl,cg⟩ ci;obtain⟨a2,ck,cm⟩:=bs cf;have bG:=cg;refine zg 6 rfl ?_;rw [ck] at bG;obtain⟨av,a0,_,rfl,bH,⟨_,_,rfl,⟨cn,co,rfl,bI⟩,⟨_,bJ,rfl,⟨bK,bL,rfl,bM⟩,bN⟩⟩⟩:=bG;obtain⟨K,cp,cq⟩:=bs cm;refine BO (NB bH bI bM bN (be.Ah (((O.Ac V).Ac al).Ac a1)) cp) rfl rfl L5 ci ?_;rintro _ cV _ am ⟨Y,Z,rfl,rfl,bO⟩ cr;refine CU cr Gb fun ct cu=>?_;refine BY 7 cu Dr fun cv=>?_;refine C3 7 cv rfl fun a3 ag a4 bP=>zg 4 rfl (JL.fl 1 a4 underlying97 Dv ER ?_);refine Be underlying95 rfl rfl rfl ?_;obtain⟨cw,cy,cz⟩:=bs cq;refine zg 2 rfl (ED [] (fun L s=>∃(bQ:LH),Jm a3 H bQ [bX bA #[iV 0,nS] 97] [(9,pV bA 0),(12,pV av a0),(13,pV ct 0),(39,.bool cw)] L s) ?_ ?_)
   ·rintro _ _ ⟨bQ,rfl,rfl,U,bR⟩;refine JL.done (BJ cz (fun cA cB=>?_) (fun cA cC=>?_))
    ·refine JL.seq (C7 2 fun ht=>?_);refine Fe 0 ht (a4.Ah U) Ic Dr rfl rfl rfl (Cb 1 ht rfl rfl ?_);refine Co [2,3] (BY 0 bR Dr fun bS=>?_);refine zg 2 rfl ?_;obtain rfl:=oi cB;refine JL.ret (v:= .tuple #[.pointer none,.agg #[iV K.1,sV Y K.2 Z],iV 11]) rfl rfl (Cs.list func78 rfl (vs:= [.pointer none,.agg #[iV K.1,sV Y K.2 Z],iV 11]) ⟨rfl,⟨_,rfl,Ld.many (vs:= [iV K.1,sV Y K.2 Z]) Ic Dr (FV (off:=0) 0 bS rfl rfl)⟩,rfl,trivial⟩) (Iw 0 bS rfl fun cD=>?_);exact ap ((((((O.Ac V).Ac al).Ac a1).Ac am).Ac ag).Ac U) rfl ⟨.pointer none,Y,Z,rfl,rfl,rfl,(bO.Ah (ag.Ac U))⟩ cD
    ·refine zg 2 rfl (C7 3 fun ht=>?_);refine Cb 0 ht rfl rfl (Fe 1 ht (a4.Ah U) Ic Dr rfl rfl rfl ?_);refine Cb 2 ht rfl rfl (Co [3,4] ?_);refine BY 0 bR Dr fun bT=>?_;refine zg 2 rfl ?_;obtain rfl:=oi cC;refine JL.ret (v:= .tuple #[pV av a0,.agg #[iV K.1,sV Y K.2 Z],iV 0]) rfl rfl (Cs.list func78 rfl (vs:= [pV av a0,.agg #[iV K.1,sV Y K.2 Z],iV 0]) ⟨rfl,⟨_,rfl,Ld.many (vs:= [iV K.1,sV Y K.2 Z]) Ic Dr (FV (off:=0) 0 bT rfl rfl)⟩,rfl,trivial⟩) (Iw 0 bT rfl fun cE=>?_);exact ap ((((((O.Ac V).Ac al).Ac a1).Ac am).Ac ag).Ac U) rfl ⟨pV av a0,Y,Z,rfl,rfl,⟨_,_,_,rfl,(bH.Ah ((am.Ac ag).Ac U)),⟨[sV cn a2.1 co],(([sV bK a2.2.1 bL]:List Value)++bJ),rfl,⟨_,_,rfl,(bI.Ah ((am.Ac ag).Ac U))⟩,⟨[sV bK a2.2.1 bL],bJ,rfl,⟨_,_,rfl,(bM.Ah ((am.Ac ag).Ac U))⟩,(Rp.Ah _ ((am.Ac ag).Ac U) bN)⟩⟩⟩,(bO.Ah (ag.Ac U))⟩ cE
   ·intro bU;refine Eo 36 cy (fun cF cG=>?_) (fun cF cH=>?_)
    ·refine zg 1 rfl (AE (v:= .bool (!p3)) rfl (fun ρ h=>Yl.not (h _ _ rfl)) ?_);refine zg 1 rfl ?_;obtain rfl:=oi cG;exact Ax (bU _ _ ⟨a3,rfl,rfl,Ar,bP⟩) rfl
    ·refine zg 3 rfl ?_;obtain rfl:=oi cH;exact Ax (bU _ _ ⟨a3,rfl,rfl,Ar,bP⟩) rfl
def Jc(fuel:Nat)(p0:A2)(p1:AI):Option (Int×Int):= (HA fuel p0 p1 (-1) true).bind fun K=> some ((K.2.1.2.length:Int),K.2.2)
theorem Ta{E:LH}{O:An}{c2:Nat}{U:An}{V:Nat}{Y:An}{Z:Nat}{p0:A2}{p1:AI}(al:GE E)(am:Am (rL rI) E O c2 p0.1)(ap:Am (rL rI) E U V p0.2)(av:Am Bo E Y Z p1){fuel:Nat}{r:Int×Int}(ag:Jc fuel p0 p1=some r):AM (DZ Tryz.prog) 28 [.agg #[sV O p0.1 c2,sV U p0.2 V],sV Y p1 Z] E [] (fun w E' B'=>w= .tuple #[iV r.1,iV r.2]∧B'= []):=by
 refine A4 func28 fun Q bi cs H a0 a1=>?_;unfold Jc at ag;refine zg 2 rfl (B7 a0 fun bo bv K a2 a3=>?_);refine zg 5 rfl (BQ a2 BX BD rfl rfl ?_);obtain⟨bw,a4,a5⟩:=bs ag;refine zg 1 rfl (BO (No (al.Ah K) (am.Ah K) (ap.Ah K) (av.Ah K) a4) rfl rfl L4 a3 ?_);rintro _ bz _ a6 ⟨bA,bB,bC,rfl,rfl,bD,bE⟩ a7;refine zg 4 rfl (CU a7 Gb fun bF a8=>?_);refine zg 1 rfl (BY 3 a8 Dr fun a9=>?_);refine C3 3 a9 rfl fun bG bb bd be=>zg 4 rfl (JL.fl 1 bd underlying97 Dv ER ?_);refine Be underlying95 rfl rfl rfl (zg 4 rfl ?_);obtain rfl:=oi a5;exact AA func28 rfl rfl (a1 ((K.Ac a6).Ac bb) rfl ⟨rfl,rfl⟩ be)
def IE(fuel:Nat)(p0:A2)(p1:AI):Option (Int×(List Int)×Int):= (HA fuel p0 p1 (-1) false).bind fun K=> if K.2.2≠0 then(some (0,[],K.2.2)) else((ix K.2.1.2 (0)).bind fun O=> (ix K.2.1.2 (0)).bind fun U=> some (O.1,U.2.1,0))
theorem Su{E:LH}{U:An}{c2:Nat}{V:An}{Y:Nat}{Z:An}{ag:Nat}{p0:A2}{p1:AI}(a4:GE E)(a5:Am (rL rI) E U c2 p0.1)(a6:Am (rL rI) E V Y p0.2)(a7:Am Bo E Z ag p1){fuel:Nat}{r:Int×(List Int)×Int}(al:IE fuel p0 p1=some r):AM (DZ Tryz.prog) 30 [.agg #[sV U p0.1 c2,sV V p0.2 Y],sV Z p1 ag] E [] (fun w E' B'=>∃(am:An) (ap:Nat),w= .tuple #[iV r.1,sV am r.2.1 ap,iV r.2.2]∧B'= []∧Am rI E' am ap r.2.1):=by
 refine A4 func30 fun Q bK cs H a8 av=>?_;unfold IE at al;refine zg 2 rfl (B7 a8 fun bL bM K a9 bb=>?_);refine zg 6 rfl (BQ a9 BX BD rfl rfl ?_);obtain⟨bN,bd,be⟩:=bs al;refine zg 1 rfl (BO (No (a4.Ah K) (a5.Ah K) (a6.Ah K) (a7.Ah K) bd) rfl rfl L4 bb ?_);rintro _ bO _ a0 ⟨bP,bQ,bR,rfl,rfl,bS,a1⟩ bi;refine zg 4 rfl (CU bi Gb fun bT bo=>?_);refine zg 1 rfl (BY 3 bo Dr fun bv=>?_);refine C3 3 bv rfl fun bU O a2 a3=>zg 8 rfl (AL be (fun bw bz=>?_) (fun bw bA=>?_))
 ·refine zg 7 rfl ?_;obtain rfl:=oi bz;exact AA func30 rfl rfl (av ((K.Ac a0).Ac O) rfl ⟨none,0,rfl,rfl,Am.nil⟩ a3)
 ·refine zg 2 rfl (C7 11 fun ht=>?_);refine Cc 0 ht underlying97 Dv rfl rfl rfl rfl (Cy 1 ht 1 a2 ER rfl rfl rfl rfl ?_);obtain⟨bV,bB,bC⟩:=bs bA;refine CG 2 (a1.Ah O) bB ht underlying95 Cv ?_;rintro bW bY _ ⟨_,_,rfl,rfl,⟨_,_,rfl,⟨bZ,b0,rfl,b1⟩,rfl⟩⟩ bD;refine Cc 3 ht underlying104 AU rfl rfl rfl rfl (Cy 4 ht 0 bD Bt rfl rfl rfl rfl ?_);refine Cc 5 ht underlying97 Dv rfl rfl rfl rfl (Cy 6 ht 1 a2 ER rfl rfl rfl rfl ?_);obtain⟨b2,bE,bF⟩:=bs bC;refine CG 7 (a1.Ah O) bE ht underlying95 Cv ?_;rintro b3 b4 _ ⟨_,_,rfl,rfl,⟨_,_,rfl,⟨bG,bH,rfl,bI⟩,rfl⟩⟩ bJ;refine Cc 8 ht underlying104 BT rfl rfl rfl rfl (Cy 9 ht 1 bJ CF rfl rfl rfl rfl ?_);refine Cb 10 ht rfl rfl (Co [11,12] ?_);refine zg 3 rfl ?_;obtain rfl:=oi bF;exact AA func30 rfl rfl (av ((K.Ac a0).Ac O) rfl ⟨bG,bH,rfl,rfl,bI⟩ a3)
def R5(fuel:Nat)(p2:Int)(O:(List Bu))(K:(List Int)×Int):Option (Bf ((List Int)×Int) ((List Int))):= if K.2<(O.length:Int) then((ix O K.2).bind fun U=> Option.bind (if U.2.1≤p2 then((room K.1 U.1).bind fun V=> some V) else(some K.1)) fun Y=> (Au (K.2+1)).bind fun Z=> some (.more (Y,Z))) else(some (.done K.1))
def Pv(fuel:Nat)(p0:A2)(p1:AI)(p2:Int):Option ((List Int)×Int):= (Hz fuel p0 p1).bind fun K=> if K≠0 then(some ([],K)) else((f101 fuel p2 0 4).bind fun U=> if U=true then(some ([],1)) else((f92 fuel p0).bind fun V=> (V).bind fun Y=> (J3 fuel Y p1).bind fun Z=> Option.bind (iter (R5 fuel p2 Z) fuel ([],0)) fun O=> if(O.length:Int)=0 then(some ([],11)) else(some (O,0))))
theorem YY{E:LH}{bv:An}{c2:Nat}{bw:An}{bz:Nat}{bA:An}{bB:Nat}{p0:A2}{p1:AI}{p2:Int}(bY:GE E)(bC:Am (rL rI) E bv c2 p0.1)(bD:Am (rL rI) E bw bz p0.2)(bE:Am Bo E bA bB p1){fuel:Nat}{r:(List Int)×Int}(bF:Pv fuel p0 p1 p2=some r):AM (DZ Tryz.prog) 43 [.agg #[sV bv p0.1 c2,sV bw p0.2 bz],sV bA p1 bB,iV p2] E [] (fun w E' B'=>∃(bG:An) (bH:Nat),w= .tuple #[sV bG r.1 bH,iV r.2]∧B'= []∧Am rI E' bG bH r.1):=by
 refine A4 func43 fun Q dc cs H bZ al=>?_;unfold Pv at bF;refine zg 2 rfl (B7 bZ fun dd de K bI b0=>?_);refine zg 6 rfl (BQ bI BX BD rfl rfl ?_);obtain⟨df,b1,b2⟩:=bs bF;refine zg 1 rfl (BF (K7 (bY.Ah K) (bC.Ah K) (bD.Ah K) (bE.Ah K) b1) rfl rfl Kn b0 fun dg O bJ=>?_);refine zg 7 rfl (AL b2 (fun b3 b4=>?_) (fun b3 b5=>?_))
 ·refine zg 6 rfl ?_;obtain rfl:=oi b4;exact AA func43 rfl rfl (al (K.Ac O) rfl ⟨none,0,rfl,rfl,Am.nil⟩ bJ)
 ·obtain⟨dh,b6,b7⟩:=bs b5;refine zg 5 rfl (BF (I6 b6) rfl rfl IL bJ fun di U bK=>?_);refine JL.done (BJ b7 (fun b8 b9=>?_) (fun b8 ca=>?_))
  ·refine zg 5 rfl ?_;obtain rfl:=oi b9;exact AA func43 rfl rfl (al ((K.Ac O).Ac U) rfl ⟨none,0,rfl,rfl,Am.nil⟩ bK)
  ·refine zg 8 rfl (BQ (bI.Ah (O.Ac U)) BX BD rfl rfl ?_);obtain⟨dj,cb,cc⟩:=bs ca;refine BO (NA (bC.Ah ((K.Ac O).Ac U)) (bD.Ah ((K.Ac O).Ac U)) cb) rfl rfl L6 bK ?_;rintro dk dl _ a5 ⟨_,rfl,rfl,cd⟩ ce;obtain⟨dm,cf,cg⟩:=bs cc;have bL:=cd;refine zg 1 rfl ?_;rw [cf] at bL;obtain⟨dn,dp,_,rfl,ci,⟨_,_,rfl,⟨dq,dr,rfl,ck⟩,⟨_,dt,rfl,⟨du,dv,rfl,cm⟩,cn⟩⟩⟩:=bL;obtain⟨am,co,cp⟩:=bs cg;refine BO (QR ci ck cm cn (bE.Ah (((K.Ac O).Ac U).Ac a5)) co) rfl rfl (AR func102 rfl) ce ?_;rintro _ a6 _ bM ⟨bN,bO,rfl,rfl,cq⟩ cr;refine Be underlying130 rfl rfl rfl ?_;obtain⟨bP,ct,cu⟩:=bs cp;refine zg 2 rfl (Bp (fun L s=>∃(a7:LH) (ap:An) (av:Nat) (a8:Seg),Jn a6 H a7 [a8] [(9,sV ap bP av)] L s (OL 3 rI a7 ap av a8 bP)) ?_ ?_)
   ·rintro _ _ ⟨a7,ap,av,a8,rfl,rfl,bQ,bR,cv⟩;refine zg 4 rfl (Be underlying28 rfl rfl rfl ?_);refine zg 2 rfl (AL cu (fun cw cy=>?_) (fun cw cz=>?_))
    ·refine zg 5 rfl (JS.drop 0 bR rfl fun cA=>?_);obtain rfl:=oi cy;exact AA func43 rfl rfl (al (((((K.Ac O).Ac U).Ac a5).Ac bM).Ac bQ) rfl ⟨none,0,rfl,rfl,Am.nil⟩ cA)
    ·refine zg 7 rfl (B6 0 cv bR rfl fun dw cB cC cD=>?_);obtain rfl:=oi cz;exact AA func43 rfl rfl (al ((((((K.Ac O).Ac U).Ac a5).Ac bM).Ac bQ).Ac cB) rfl ⟨ap,av,rfl,rfl,cC⟩ cD)
   ·intro cE;refine JL.block (CP ct (fun L s Z=>∃(a0:LH) (V:An) (Y:Nat) (ag:Seg),Jn a6 H a0 [ag] [(2,iV p2),(9,sV V Z.1 Y),(23,sV bN am bO),(24,iV (am.length:Int)),(25,iV Z.2)] L s (OL 3 rI a0 V Y ag Z.1)) ⟨a6,none,0,[],rfl,rfl,Ar,cr,OL.nil⟩ ?_);rintro _ _ Z ⟨a0,V,Y,ag,rfl,rfl,a9,bS,bb⟩ cF ⟨dx,bd⟩ cG;have bT:=bd;unfold R5 at bT;refine zg 5 rfl (AL bT (fun cH cI=>?_) (fun cH cJ=>?_))
    ·obtain⟨cK,cM,cN⟩:=bs cI;refine zg 5 rfl (BN (cq.Ah a9) cM underlying130 AS ?_);rintro dy dz _ ⟨_,_,rfl,rfl,⟨_,_,rfl,rfl,⟨dA,dB,rfl,dC⟩⟩⟩ cO;refine BQ cO Ct AS rfl rfl (CU bS Ie fun dD cP=>?_);refine BY 1 cP AS fun cQ=>?_;refine C3 1 cQ rfl fun be bi bU bV=>zg 3 rfl (BM underlying133 Dr rfl rfl rfl ?_);refine JL.fl 1 bU underlying97 AU Bt ?_;obtain⟨bo,cR,cT⟩:=bs cN;refine zg 3 rfl (Bp (fun L s=>∃(a1:LH) (a2:An) (a3:Nat) (a4:Seg),Jn be H a1 [a4] [(2,iV p2),(9,sV a2 bo a3),(23,sV bN am bO),(24,iV (am.length:Int)),(25,iV Z.2)] L s (OL 3 rI a1 a2 a3 a4 bo)) ?_ ?_)
     ·rintro _ _ ⟨a1,a2,a3,a4,rfl,rfl,cV,cW,cX⟩;obtain⟨cY,cZ,c0⟩:=bs cT;refine zg 2 rfl (Bc cZ rfl rfl rfl ?_);refine zg 2 rfl ?_;obtain rfl:=oi c0;exact Ax (cG _ _ (bo,cY) ⟨a1,a2,a3,a4,rfl,rfl,((a9.Ac bi).Ac cV),cW,cX⟩ bd) rfl
     ·intro bW;refine AL cR (fun c1 c3=>?_) (fun c1 c4=>?_)
      ·refine zg 2 rfl (JL.fl 0 bU underlying133 AU Bt ?_);obtain⟨dE,c5,c6⟩:=bs c3;refine JS.app (pp:=rI) (v:=iV cK.1) (a:=V) (c:=Y) 0 c5 rfl rfl rfl rfl (fun _=>rfl) rfl (fun _=>rfl) rfl rfl rfl underlying28 underlying28 underlying28 AU (CS type3) CK rfl (by decide) (by decide) (by decide) (by decide) (bb.Ah bi) rfl bV rfl fun dF c7 c8 c9 da db=>zg 2 rfl ?_;obtain rfl:=oi c6;exact Ax (bW _ _ ⟨be,c7,c8,c9,rfl,rfl,Ar,db,da⟩) rfl
      ·refine JL.skip ?_;obtain rfl:=oi c4;exact Ax (bW _ _ ⟨be,V,Y,ag,rfl,rfl,Ar,bV,(bb.Ah bi)⟩) rfl
    ·refine JL.exit rfl ?_;obtain rfl:=oi cJ;obtain rfl:=cF _ bd;exact Ax (cE _ _ ⟨a0,V,Y,ag,rfl,rfl,a9,bS,bb⟩) rfl
end Pal
namespace Pal
open Go Go.Conc Go.Proofs
open Go.Proofs.Tryz
def RS(fuel:Nat)(p2:Int)(O:(Option BZ)×(Int×(List Ch))×Int)(K:Int×Int):Option (Bf (Int×Int) Int):= if K.2<(O.2.1.2.length:Int) then((ix O.2.1.2 K.2).bind fun U=> (f103 fuel U.2.2 p2).bind fun V=> Option.bind (if V=true then((Au (K.1+1)).bind fun Y=> some Y) else(some K.1)) fun Z=> (Au (K.2+1)).bind fun ag=> some (.more (Z,ag))) else(some (.done K.1))
def Py(fuel:Nat)(p0:A2)(p1:AI)(p2:Int):Option (Int×Int):= (Hz fuel p0 p1).bind fun U=> if U≠0 then(some (0,U)) else((Au ((p1.length:Int) - 1)).bind fun V=> (f101 fuel p2 0 V).bind fun Y=> if Y=true then(some (0,3)) else((HA fuel p0 p1 p2 false).bind fun K=> if K.2.2≠0 then(some (0,K.2.2)) else(Option.bind (iter (RS fuel p2 K) fuel (0,0)) fun O=> Option.bind (Option.bind (Option.bind (if 0<O then(some (decide (O<(K.2.1.2.length:Int)))) else(some false)) fun Z=> if Z=true then((Au (0+1)).bind fun ag=> (Au (ag+1)).bind fun al=> some al) else(if O=0 then((Au (0+1)).bind fun am=> some am) else(some 0))) fun ap=> (Au (ap+1)).bind fun av=> some av) fun a0=> some (a0,0))))
theorem YG{E:LH}{a2:An}{c2:Nat}{a3:An}{a4:Nat}{a5:An}{a6:Nat}{p0:A2}{p1:AI}{p2:Int}(a7:GE E)(a8:Am (rL rI) E a2 c2 p0.1)(a9:Am (rL rI) E a3 a4 p0.2)(bb:Am Bo E a5 a6 p1){fuel:Nat}{r:Int×Int}(bd:Py fuel p0 p1 p2=some r):AM (DZ Tryz.prog) 49 [.agg #[sV a2 p0.1 c2,sV a3 p0.2 a4],sV a5 p1 a6,iV p2] E [] (fun w E' B'=>w= .tuple #[iV r.1,iV r.2]∧B'= []):=by
 refine A4 func49 fun Q di cs H bL Y=>?_;unfold Py at bd;refine zg 2 rfl (B7 bL fun dj dk K be bM=>?_);refine zg 6 rfl (BQ be BX BD rfl rfl ?_);obtain⟨dl,bN,bO⟩:=bs bd;refine zg 1 rfl (BF (K7 (a7.Ah K) (a8.Ah K) (a9.Ah K) (bb.Ah K) bN) rfl rfl Kn bM fun dm O bi=>?_);refine zg 7 rfl (AL bO (fun bP bQ=>?_) (fun bP bR=>?_))
 ·refine zg 6 rfl ?_;obtain rfl:=oi bQ;exact AA func49 rfl rfl (Y (K.Ac O) rfl ⟨rfl,rfl⟩ bi)
 ·refine zg 6 rfl (Be underlying25 rfl rfl rfl ?_);obtain⟨dn,bS,bT⟩:=bs bR;refine Cd bS rfl rfl rfl ?_;obtain⟨dp,bU,bV⟩:=bs bT;refine BF (I6 bU) rfl rfl IL bi fun dq U bo=>JL.done (BJ bV (fun bW bY=>?_) (fun bW bZ=>?_))
  ·refine zg 5 rfl ?_;obtain rfl:=oi bY;exact AA func49 rfl rfl (Y ((K.Ac O).Ac U) rfl ⟨rfl,rfl⟩ bo)
  ·refine zg 3 rfl (BQ (be.Ah (O.Ac U)) BX BD rfl rfl ?_);obtain⟨Z,b0,b1⟩:=bs bZ;refine zg 2 rfl (BO (No (a7.Ah ((K.Ac O).Ac U)) (a8.Ah ((K.Ac O).Ac U)) (a9.Ah ((K.Ac O).Ac U)) (bb.Ah ((K.Ac O).Ac U)) b0) rfl rfl L4 bo ?_);rintro _ dr _ bv ⟨dt,bw,bz,rfl,rfl,du,b2⟩ b3;refine zg 4 rfl (CU b3 Gb fun ag b4=>?_);refine zg 1 rfl (BY 5 b4 Dr fun b5=>?_);refine C3 5 b5 rfl fun dv al bA bB=>zg 8 rfl (AL b1 (fun b6 b7=>?_) (fun b6 b8=>?_))
   ·refine zg 6 rfl ?_;obtain rfl:=oi b7;exact AA func49 rfl rfl (Y ((((K.Ac O).Ac U).Ac bv).Ac al) rfl ⟨rfl,rfl⟩ bB)
   ·refine zg 8 rfl (JL.fl 1 bA underlying97 Dv ER ?_);refine Be underlying95 rfl rfl rfl ?_;obtain⟨bC,b9,ca⟩:=bs b8;refine zg 2 rfl (C4 [] [(10,pV ag 0),(12,iV bC)] (fun dw bD bE=>?_) (fun cb=>?_))
    ·obtain⟨cc,cd,ce⟩:=bs ca;refine zg 5 rfl (C4 [] [(15,iV cc)] (fun dx cf cg=>?_) (fun ci=>?_))
     ·refine zg 6 rfl ?_;obtain rfl:=oi ce;exact AA func49 rfl rfl (Y ((((((K.Ac O).Ac U).Ac bv).Ac al).Ac bD).Ac cf) rfl ⟨rfl,rfl⟩ cg)
     ·obtain⟨ck,cm,cn⟩:=bs cd;refine zg 2 rfl (C4 [] [(15,iV ck)] (fun dy co cp=>?_) (fun am=>?_))
      ·obtain⟨dz,cq,cr⟩:=bs cn;refine zg 3 rfl (Bc cq rfl rfl rfl ?_);refine zg 3 rfl ?_;obtain rfl:=oi cr;exact ci co cp rfl
      ·obtain⟨ct,cu,cv⟩:=bs cm;refine zg 12 rfl (Dp 9 1 [] [(12,iV bC),(15,iV 0),(61,.bool ct)] (fun dA ap av=>?_) (fun bF=>?_))
       ·refine zg 2 rfl (BJ cv (fun cw cy=>?_) (fun cw cz=>?_))
        ·obtain⟨dB,cA,cB⟩:=bs cy;refine zg 3 rfl (Bc cA rfl rfl rfl ?_);obtain⟨dC,cC,cD⟩:=bs cB;refine zg 5 rfl (Bc cC rfl rfl rfl ?_);refine zg 3 rfl ?_;obtain rfl:=oi cD;exact am ap av rfl
        ·refine zg 7 rfl (AL cz (fun cE cF=>?_) (fun cE cG=>?_))
         ·obtain⟨dD,cH,cI⟩:=bs cF;refine zg 3 rfl (Bc cH rfl rfl rfl ?_);refine zg 3 rfl ?_;obtain rfl:=oi cI;exact am ap av rfl
         ·refine zg 2 rfl ?_;obtain rfl:=oi cG;exact am ap av rfl
       ·refine Eo 55 cu (fun cJ cK=>?_) (fun cJ cM=>?_)
        ·refine zg 1 rfl (JL.fl 1 (bA.Ah bD) underlying97 Dv ER ?_);refine Be underlying95 rfl rfl rfl (zg 2 rfl ?_);obtain rfl:=oi cK;exact bF Ar bE rfl
        ·refine zg 6 rfl ?_;obtain rfl:=oi cM;exact bF Ar bE rfl
    ·refine JL.block (Cz b9 (fun V=> []) (fun V=> [(2,iV p2),(10,pV ag 0),(12,iV V.1),(39,sV bw Z.2.1.2 bz),(40,iV (Z.2.1.2.length:Int)),(41,iV V.2)]) Ar bB ?_);rintro V dE a0 bG cN ⟨dF,a1⟩ cO;have bH:=a1;unfold RS at bH;refine zg 5 rfl (AL bH (fun cP cQ=>?_) (fun cP cR=>?_))
     ·obtain⟨dG,cT,cV⟩:=bs cQ;refine zg 5 rfl (BN (b2.Ah (al.Ac a0)) cT underlying95 Cv ?_);rintro dH dI _ ⟨_,_,rfl,rfl,⟨_,_,rfl,⟨dJ,dK,rfl,dL⟩,rfl⟩⟩ cW;refine BQ cW FU Cv rfl rfl (CU bG GV fun dM cX=>?_);refine BY 0 cX Cv fun cY=>?_;refine C3 0 cY rfl fun dN cZ c0 c1=>zg 3 rfl (JL.fl 2 c0 underlying104 En GR ?_);obtain⟨dO,c3,c4⟩:=bs cV;refine zg 1 rfl (BF (OX c3) rfl rfl N3 c1 fun dP c5 bI=>?_);obtain⟨bJ,c6,c7⟩:=bs c4;refine JL.done (C4 [] [(2,iV p2),(10,pV ag 0),(12,iV bJ),(39,sV bw Z.2.1.2 bz),(40,iV (Z.2.1.2.length:Int)),(41,iV V.2)] (fun dQ c8 c9=>?_) (fun bK=>?_))
      ·obtain⟨da,db,dc⟩:=bs c7;refine zg 2 rfl (Bc db rfl rfl rfl ?_);refine zg 2 rfl ?_;obtain rfl:=oi dc;exact cO (bJ,da) (((a0.Ac cZ).Ac c5).Ac c8) c9 rfl a1
      ·refine BJ c6 (fun dd de=>?_) (fun dd df=>?_)
       ·obtain⟨dR,dg,dh⟩:=bs de;refine zg 2 rfl (Bc dg rfl rfl rfl ?_);refine zg 2 rfl ?_;obtain rfl:=oi dh;exact bK Ar bI rfl
       ·refine JL.skip ?_;obtain rfl:=oi df;exact bK Ar bI rfl
     ·refine JL.exit rfl ?_;obtain rfl:=oi cR;obtain rfl:=cN _ a1;exact cb a0 bG rfl
def R9(fuel:Nat)(V:Ch)(U:(List Int))(K:(List Nat)×Int):Option (Bf ((List Nat)×Int) ((List Nat))):= if K.2<(U.length:Int) then((ix U K.2).bind fun O=> (ix K.1 O).bind fun Y=> (f90 fuel Y V.1).bind fun Z=> (ix K.1 O).bind fun al=> (Au (K.2+1)).bind fun ag=> some (.more ((K.1.set (Int.toNat O) Z),ag))) else(some (.done K.1))
def RF(fuel:Nat)(O:(Option BZ)×(Int×(List Ch))×Int)(V:BZ)(Y:Int×Int×Int)(K:(List Nat)×Int):Option (Bf ((List Nat)×Int) ((List Nat))):= if K.2<(O.2.1.2.length:Int) then((ix O.2.1.2 K.2).bind fun U=> (f88 fuel V U Y.2.2).bind fun Z=> (f89 fuel Z).bind fun ag=> Option.bind (iter (R9 fuel U ag) fuel (K.1,0)) fun al=> (Au (K.2+1)).bind fun am=> some (.more (al,am))) else(some (.done K.1))
def Si(fuel:Nat)(O:(List Nat))(K:Int×Int):Option (Bf (Int×Int) Int):= if K.2<8 then((ix O K.2).bind fun U=> (f85 fuel U).bind fun V=> (Au (K.2+1)).bind fun Y=> some (.more (max K.1 V,Y))) else(some (.done K.1))
def RD(fuel:Nat)(V:(Option BZ)×(Int×(List Ch))×Int)(Y:BZ)(K:Int×Int×Int):Option (Bf (Int×Int×Int) (Int×Int)):= if K.2.2<7 then(Option.bind (iter (RF fuel V Y K) fuel ((List.replicate 8 (0:Nat)),0)) fun Z=> Option.bind (iter (Si fuel Z) fuel (0,0)) fun O=> Option.bind (if O<K.2.1 then(some (K.2.2,O)) else(some (K.1,K.2.1))) fun U=> (Au (K.2.2+1)).bind fun ag=> some (.more (U.1,U.2,ag))) else(some (.done (K.1,K.2.1)))
def PD(fuel:Nat)(p0:A2)(p1:AI):Option (Int×Int×Int):= (HA fuel p0 p1 (-1) false).bind fun K=> if K.2.2≠0 then(some (0,0,K.2.2)) else((f87 fuel K.2.1.2).bind fun U=> (f85 fuel U).bind fun V=> (K.1).bind fun Y=> Option.bind (iter (RD fuel K Y) fuel ((-1),V,0)) fun O=> if O.1<0 then(some (0,0,11)) else(some (O.1,O.2,0)))
theorem Zr{E:LH}{bR:An}{c2:Nat}{bS:An}{bT:Nat}{bU:An}{bV:Nat}{p0:A2}{p1:AI}(cu:GE E)(cv:Am (rL rI) E bR c2 p0.1)(cw:Am (rL rI) E bS bT p0.2)(cy:Am Bo E bU bV p1){fuel:Nat}{r:Int×Int×Int}(bW:PD fuel p0 p1=some r):AM (DZ Tryz.prog) 35 [.agg #[sV bR p0.1 c2,sV bS p0.2 bT],sV bU p1 bV] E [] (fun w E' B'=>w= .tuple #[iV r.1,iV r.2.1,iV r.2.2]∧B'= []):=by
 refine A4 func35 fun Q eR cs H cz bD=>?_;unfold PD at bW;refine zg 2 rfl (B7 cz fun eS eT ag cA cB=>?_);refine zg 6 rfl (BQ cA BX BD rfl rfl ?_);obtain⟨av,cC,cD⟩:=bs bW;refine zg 1 rfl (BO (No (cu.Ah ag) (cv.Ah ag) (cw.Ah ag) (cy.Ah ag) cC) rfl rfl L4 cB ?_);rintro _ eU _ bE ⟨eV,bF,bG,rfl,rfl,cE,bY⟩ cF;refine zg 4 rfl (CU cF Gb fun U cG=>?_);refine zg 1 rfl (BY 3 cG Dr fun cH=>?_);refine C3 3 cH rfl fun eW a0 bZ b0=>zg 8 rfl (AL cD (fun cI cJ=>?_) (fun cI cK=>?_))
 ·refine zg 7 rfl ?_;obtain rfl:=oi cJ;exact AA func35 rfl rfl (bD ((ag.Ac bE).Ac a0) rfl ⟨rfl,rfl⟩ b0)
 ·refine zg 8 rfl (JL.fl 1 bZ underlying97 Dv ER ?_);obtain⟨cM,cN,cO⟩:=bs cK;refine BF (aJ (bY.Ah a0) cN) rfl rfl (AR func87 rfl) b0 fun eX a5 cP=>?_;obtain⟨eY,cQ,cR⟩:=bs cO;refine KD (vs:= [uV cM]) (Tu cQ) rfl rfl rfl rfl (AR func85 rfl) rfl cP ?_;rintro _ eZ _ a6 ⟨rfl,rfl⟩ cT;obtain⟨e0,cV,cW⟩:=bs cR;have b1:=(cE.Ah ((a0.Ac a5).Ac a6));refine zg 11 rfl ?_;rw [cV] at b1;obtain⟨V,Y,_,rfl,cX,⟨_,_,rfl,⟨e1,e2,rfl,cY⟩,⟨_,e3,rfl,⟨e4,e5,rfl,cZ⟩,c0⟩⟩⟩:=b1;obtain⟨b2,c1,c3⟩:=bs cW;refine C4 [] [(4,iV b2.1),(10,iV b2.2)] (fun e6 b3 b4=>?_) (fun c4=>?_)
  ·refine zg 6 rfl (AL c3 (fun c5 c6=>?_) (fun c5 c7=>?_))
   ·refine zg 6 rfl ?_;obtain rfl:=oi c6;exact AA func35 rfl rfl (bD (((((ag.Ac bE).Ac a0).Ac a5).Ac a6).Ac b3) rfl ⟨rfl,rfl⟩ b4)
   ·refine zg 9 rfl ?_;obtain rfl:=oi c7;exact AA func35 rfl rfl (bD (((((ag.Ac bE).Ac a0).Ac a5).Ac a6).Ac b3) rfl ⟨rfl,rfl⟩ b4)
  ·refine JL.block (Cz c1 (fun K=> []) (fun K=> [(4,iV K.1),(7,pV V Y),(8,pV U 0),(9,(fV 85)),(10,iV K.2.1),(35,iV K.2.2)]) Ar cT ?_);rintro K be Z b5 c8 ⟨e7,bH⟩ c9;have b6:=bH;unfold RD at b6;refine zg 5 rfl (AL b6 (fun da db=>?_) (fun da dc=>?_))
   ·refine zg 10 rfl (CU b5 (Dw type114) fun O dd=>?_);refine zg 4 rfl (JL.fl 1 (bZ.Ah ((a5.Ac a6).Ac Z)) underlying97 Dv ER ?_);refine Be underlying95 rfl rfl rfl ?_;obtain⟨de,df,dg⟩:=bs db;refine zg 2 rfl (Bp (fun L s=>∃(bI:LH) (a7:List Value),Jn be H bI [bX O (([]:List Value)++a7).toArray 114] [(4,iV K.1),(7,pV V Y),(8,pV U 0),(9,(fV 85)),(10,iV K.2.1),(11,iV K.2.2),(12,pV O 0),(35,iV K.2.2)] L s ((rA 8 (rN .u16)).r bI a7 de)) ?_ ?_)
    ·rintro _ _ ⟨bI,a7,rfl,rfl,dh,b7,b8⟩;refine zg 7 rfl (AE (v:= .agg a7.toArray) rfl (fun ρ h=>KF (kk:=8) (pp:=(rN .u16)) b8 (DM underlying114) (Bw type114) (h _ _ rfl) (Mp (l:= []) 0 b7 rfl)) ?_);obtain⟨di,dj,dk⟩:=bs dg;refine zg 2 rfl (C4 [] [(4,iV K.1),(7,pV V Y),(8,pV U 0),(9,(fV 85)),(10,iV K.2.1),(11,iV K.2.2),(17,iV di),(35,iV K.2.2)] (fun e8 dl b9=>?_) (fun dm=>?_))
     ·obtain⟨bi,dn,dp⟩:=bs dk;refine zg 6 rfl (C4 [] [(4,iV bi.1),(7,pV V Y),(8,pV U 0),(9,(fV 85)),(10,iV bi.2),(35,iV K.2.2)] (fun e9 dq dr=>?_) (fun ca=>?_))
      ·obtain⟨dt,du,dv⟩:=bs dp;refine zg 2 rfl (Bc du rfl rfl rfl ?_);refine zg 2 rfl ?_;obtain rfl:=oi dv;exact c9 (bi.1,bi.2,dt) (((Z.Ac dh).Ac dl).Ac dq) dr rfl bH
      ·refine AL dn (fun dw dx=>?_) (fun dw dy=>?_)
       ·refine zg 6 rfl ?_;obtain rfl:=oi dx;exact ca Ar b9 rfl
       ·refine JL.skip ?_;obtain rfl:=oi dy;exact ca Ar b9 rfl
     ·refine JL.block (JS.drop 0 b7 rfl fun dz=>?_);refine Cz dj (fun a1=> []) (fun a1=> [(4,iV K.1),(7,pV V Y),(8,pV U 0),(9,(fV 85)),(10,iV K.2.1),(11,iV K.2.2),(17,iV a1.1),(35,iV K.2.2),(65,.agg a7.toArray),(66,iV a1.2)]) Ar dz ?_;rintro a1 fa bJ cb dA ⟨fb,bK⟩ dB;have cc:=bK;unfold Si at cc;refine zg 5 rfl (AL cc (fun dC dD=>?_) (fun dC dE=>?_))
      ·obtain⟨dF,dG,dH⟩:=bs dD;refine zg 5 rfl (ai (Rp.Ah _ bJ b8) dG rfl rfl rfl rfl rfl underlying114 En GR ?_ (fun _=>rfl));rintro _ rfl;obtain⟨cd,dI,dJ⟩:=bs dH;refine zg 6 rfl (KD (vs:= [uV dF]) (Tu dI) rfl rfl rfl rfl (AR func85 rfl) rfl cb ?_);rintro _ fc _ dK ⟨rfl,rfl⟩ dL;refine AE (v:=iV (max a1.1 cd)) rfl (fun ρ h=>Yl.max2 (h _ _ rfl) (h _ _ rfl)) ?_;obtain⟨dM,dN,dO⟩:=bs dJ;refine zg 4 rfl (Bc dN rfl rfl rfl ?_);refine zg 2 rfl ?_;obtain rfl:=oi dO;exact dB (max a1.1 cd,dM) (bJ.Ac dK) dL rfl bK
      ·refine JL.exit rfl ?_;obtain rfl:=oi dE;obtain rfl:=dA _ bK;exact dm bJ cb rfl
    ·intro dP;refine JL.block (CP df (fun L s a8=>∃(bo:LH) (a9:List Value),Jn be H bo [bX O (([]:List Value)++a9).toArray 114] [(4,iV K.1),(7,pV V Y),(8,pV U 0),(9,(fV 85)),(10,iV K.2.1),(11,iV K.2.2),(12,pV O 0),(35,iV K.2.2),(39,sV bF av.2.1.2 bG),(40,iV (av.2.1.2.length:Int)),(41,iV a8.2)] L s ((rA 8 (rN .u16)).r bo a9 a8.1)) ⟨be,(List.replicate 8 (uV 0):List Value),rfl,rfl,Ar,dd,(J4 (E:=be) (pp:=(rN .u16)) rfl)⟩ ?_);rintro _ _ a8 ⟨bo,a9,rfl,rfl,al,ce,cf⟩ dQ ⟨fd,bL⟩ dR;have cg:=bL;unfold RF at cg;refine zg 5 rfl (AL cg (fun dS dT=>?_) (fun dS dU=>?_))
     ·obtain⟨dV,dW,dX⟩:=bs dT;refine zg 5 rfl (BN (bY.Ah ((((a0.Ac a5).Ac a6).Ac Z).Ac al)) dW underlying95 Cv ?_);rintro fe ff _ ⟨_,_,rfl,rfl,⟨_,_,rfl,⟨fg,fh,rfl,dY⟩,rfl⟩⟩ dZ;refine BQ dZ FU Cv rfl rfl (CU ce GV fun ea eb=>?_);refine BY 1 eb Cv fun ec=>?_;refine C3 1 ec rfl fun fj am ci ed=>zg 4 rfl (BQ ci FU Cv rfl rfl ?_);obtain⟨fk,ee,ef⟩:=bs dX;refine zg 1 rfl (BF (aO (cX.Ah ((Z.Ac al).Ac am)) (cY.Ah ((Z.Ac al).Ac am)) (cZ.Ah ((Z.Ac al).Ac am)) (Rp.Ah _ ((Z.Ac al).Ac am) c0) (dY.Ah am) ee) rfl rfl (AR func88 rfl) ed fun fm bM eg=>?_);obtain⟨ck,eh,ei⟩:=bs ef;refine BO (Ja eh) rfl rfl IM eg ?_;rintro _ bN _ bO ⟨ej,ek,rfl,rfl,el⟩ em;refine Be underlying28 rfl rfl rfl ?_;obtain⟨cm,en,eo⟩:=bs ei;refine zg 2 rfl (Bp (fun L s=>∃(bv:LH) (bw:List Value),Jn bN H bv [bX O (([]:List Value)++bw).toArray 114] [(4,iV K.1),(7,pV V Y),(8,pV U 0),(9,(fV 85)),(10,iV K.2.1),(11,iV K.2.2),(12,pV O 0),(35,iV K.2.2),(39,sV bF av.2.1.2 bG),(40,iV (av.2.1.2.length:Int)),(41,iV a8.2)] L s ((rA 8 (rN .u16)).r bv bw cm)) ?_ ?_)
      ·rintro _ _ ⟨bv,bw,rfl,rfl,ep,eq,er⟩;obtain⟨et,eu,ew⟩:=bs eo;refine zg 2 rfl (Bc eu rfl rfl rfl ?_);refine zg 2 rfl ?_;obtain rfl:=oi ew;exact Ax (dR _ _ (cm,et) ⟨bv,bw,rfl,rfl,((((al.Ac am).Ac bM).Ac bO).Ac ep),eq,er⟩ bL) rfl
      ·intro ex;refine JL.block (CP en (fun L s bb=>∃(bz:LH) (a2:List Value),Jn bN H bz [bX O (([]:List Value)++a2).toArray 114] [(4,iV K.1),(7,pV V Y),(8,pV U 0),(9,(fV 85)),(10,iV K.2.1),(11,iV K.2.2),(12,pV O 0),(14,pV ea 0),(35,iV K.2.2),(39,sV bF av.2.1.2 bG),(40,iV (av.2.1.2.length:Int)),(41,iV a8.2),(49,sV ej ck ek),(50,iV (ck.length:Int)),(51,iV bb.2)] L s ((rA 8 (rN .u16)).r bz a2 bb.1)) ⟨bN,a9,rfl,rfl,Ar,em,(Rp.Ah _ ((am.Ac bM).Ac bO) cf)⟩ ?_);rintro _ _ bb ⟨bz,a2,rfl,rfl,bA,bd,a3⟩ ey ⟨fo,bP⟩ ez;have cn:=bP;unfold R9 at cn;refine zg 5 rfl (AL cn (fun eA eB=>?_) (fun eA eC=>?_))
       ·obtain⟨a4,eD,eE⟩:=bs eB;refine zg 5 rfl (BN (el.Ah bA) eD underlying28 AU ?_);rintro fp fq _ rfl eF;refine BH 0 eF Bt rfl rfl rfl (zg 2 rfl ?_);refine Dj 7 [O] ⟨⟨0,_,rfl⟩,trivial⟩ bd fun ht=>A0 ht rfl [0,1] rfl ?_;obtain⟨co,cp,eG⟩:=bs eE;obtain⟨_,rfl,_,_,eH⟩:=It (kk:=8) (pp:=(rN .u16)) a3 cp;refine BC (v:= .pointer (some ⟨O,0+Int.toNat (a4)*1,none⟩)) 2 ht rfl rfl (fun ρ h s' hs=>Jz (kk:=8) (pp:=(rN .u16)) a3 cp underlying114 En (h _ _ rfl) (h _ _ rfl)) (BC (v:= uV co) 3 ht rfl rfl (fun ρ h s' hs=>Yl.load GR (h _ _ rfl) (U1 (l:= []) 0 bd rfl (by simp [A5]) hs (eH 0 _ rfl))) ?_);refine Cc 4 ht underlying104 AU rfl rfl rfl rfl (JG.lp 5 ht 0 (ci.Ah ((bM.Ac bO).Ac bA)) bd ⟨⟨0,_,rfl⟩,trivial⟩ Bt ?_);obtain⟨ap,eI,eJ⟩:=bs eG;refine Rb (i:=6) ⟨⟨0,_,rfl⟩,trivial⟩ (vs:= [uV co,iV dV.1]) (NC eI) (by decide+kernel) rfl rfl rfl L3 rfl bd ?_;rintro _ cq _ bB ⟨rfl,rfl⟩ eK;refine Co [7,8] ?_;obtain⟨fs,bQ,eL⟩:=bs eJ;obtain⟨_,rfl,_,_,fu⟩:=It (kk:=8) (pp:=(rN .u16)) (Rp.Ah _ bB a3) bQ;refine AE (v:= .pointer (some ⟨O,0+Int.toNat (a4)*1,none⟩)) rfl (fun ρ h=>Jz (kk:=8) (pp:=(rN .u16)) (Rp.Ah _ bB a3) bQ underlying114 En (h _ _ rfl) (h _ _ rfl)) ?_;have bC:=O4 (us:= [uV ap]) (y:=ap) (Rp.Ah _ bB a3) bQ rfl;refine Kt (v:= uV ap) (l:= []) (ws:=a2) (us:= [uV ap]) (o:=Int.toNat (a4)*1) 0 rfl rfl rfl eK rfl rfl rfl En (by simp [Value.cells,CV]) rfl bC.2 fun cr=>?_;replace bC:=bC.1;generalize eM:HD a2 (Int.toNat (a4)*1) [uV ap]=ct at cr ⊢;have eN:(rA 8 (rN .u16)).r cq ct (bb.1.set (Int.toNat a4) ap):=by rw [← eM];exact bC
        obtain⟨eO,eP,eQ⟩:=bs eL;refine zg 3 rfl (Bc eP rfl rfl rfl ?_);refine zg 2 rfl ?_;obtain rfl:=oi eQ;exact Ax (ez _ _ ((bb.1.set (Int.toNat a4) ap),eO) ⟨cq,ct,rfl,rfl,(bA.Ac bB),cr,eN⟩ bP) rfl
       ·refine JL.exit rfl ?_;obtain rfl:=oi eC;obtain rfl:=ey _ bP;exact Ax (ex _ _ ⟨bz,a2,rfl,rfl,bA,bd,a3⟩) rfl
     ·refine JL.exit rfl ?_;obtain rfl:=oi dU;obtain rfl:=dQ _ bL;exact Ax (dP _ _ ⟨bo,a9,rfl,rfl,al,ce,cf⟩) rfl
   ·refine JL.exit rfl ?_;obtain rfl:=oi dc;obtain rfl:=c8 _ bH;exact c4 Z b5 rfl
def PH(fuel:Nat)(p0:A2)(p1:AI)(p2:AI):Option (Bool×Int):= (Hz fuel p0 p1).bind fun O=> if O≠0 then(some (false,O)) else((Hz fuel p0 p2).bind fun U=> if U≠0 then(some (false,U)) else((f92 fuel p0).bind fun ag=> (ag).bind fun K=> (f93 fuel K p1).bind fun V=> (f93 fuel K p2).bind fun Y=> Option.bind (if(V.2.length:Int)=0 then(some true) else(some (decide ((Y.2.length:Int)=0)))) fun al=> if al=true then(some (false,0)) else((f94 fuel p1 p2).bind fun am=> (f93 fuel K am).bind fun Z=> Option.bind (if 0<(Z.2.length:Int) then((Au (V.1+Y.1)).bind fun ap=> some (decide (Z.1≤ap))) else(some false)) fun av=> some (av,0))))
theorem Y4{E:LH}{bw:An}{c2:Nat}{bz:An}{bA:Nat}{a0:An}{a1:Nat}{a2:An}{a3:Nat}{p0:A2}{p1:AI}{p2:AI}(bB:GE E)(a4:Am (rL rI) E bw c2 p0.1)(a5:Am (rL rI) E bz bA p0.2)(a6:Am Bo E a0 a1 p1)(a7:Am Bo E a2 a3 p2){fuel:Nat}{r:Bool×Int}(bC:PH fuel p0 p1 p2=some r):AM (DZ Tryz.prog) 37 [.agg #[sV bw p0.1 c2,sV bz p0.2 bA],sV a0 p1 a1,sV a2 p2 a3] E [] (fun w E' B'=>w= .tuple #[.bool r.1,iV r.2]∧B'= []):=by
 refine A4 func37 fun Q c1 cs H bQ av=>?_;unfold PH at bC;refine zg 2 rfl (B7 bQ fun c3 c4 K a8 bR=>?_);refine zg 6 rfl (BQ a8 BX BD rfl rfl ?_);obtain⟨c5,bS,bT⟩:=bs bC;refine zg 1 rfl (BF (K7 (bB.Ah K) (a4.Ah K) (a5.Ah K) (a6.Ah K) bS) rfl rfl Kn bR fun c6 O bD=>?_);refine zg 7 rfl (AL bT (fun bU bV=>?_) (fun bU bW=>?_))
 ·refine zg 6 rfl ?_;obtain rfl:=oi bV;exact AA func37 rfl rfl (av (K.Ac O) rfl ⟨rfl,rfl⟩ bD)
 ·refine zg 4 rfl (BQ (a8.Ah O) BX BD rfl rfl ?_);obtain⟨c7,bY,bZ⟩:=bs bW;refine zg 1 rfl (BF (K7 (bB.Ah (K.Ac O)) (a4.Ah (K.Ac O)) (a5.Ah (K.Ac O)) (a7.Ah (K.Ac O)) bY) rfl rfl Kn bD fun c8 V b0=>?_);refine Cu (S':= [[],[],[],[]]) rfl b0 fun bE=>zg 7 rfl (AL bZ (fun b1 b2=>?_) (fun b1 b3=>?_))
  ·refine zg 6 rfl ?_;obtain rfl:=oi b2;exact AA func37 rfl rfl (av ((K.Ac O).Ac V) rfl ⟨rfl,rfl⟩ bE)
  ·refine zg 3 rfl (BQ (a8.Ah (O.Ac V)) BX BD rfl rfl ?_);obtain⟨c9,b4,b5⟩:=bs b3;refine BO (NA (a4.Ah ((K.Ac O).Ac V)) (a5.Ah ((K.Ac O).Ac V)) b4) rfl rfl L6 bE ?_;rintro da db _ ap ⟨_,rfl,rfl,b6⟩ b7;obtain⟨dc,b8,b9⟩:=bs b5;have bF:=b6;refine zg 6 rfl ?_;rw [b8] at bF;obtain⟨ca,cb,_,rfl,a9,⟨_,_,rfl,⟨dd,de,rfl,bb⟩,⟨_,df,rfl,⟨dg,dh,rfl,bd⟩,be⟩⟩⟩:=bF;obtain⟨di,cc,cd⟩:=bs b9;refine BO (NB a9 bb bd be (a6.Ah (((K.Ac O).Ac V).Ac ap)) cc) rfl rfl L5 b7 ?_;rintro _ dj _ U ⟨dk,dl,rfl,rfl,dm⟩ ce;obtain⟨dn,cf,cg⟩:=bs cd;refine zg 2 rfl (BO (NB (a9.Ah U) (bb.Ah U) (bd.Ah U) (Rp.Ah _ U be) (a7.Ah ((((K.Ac O).Ac V).Ac ap).Ac U)) cf) rfl rfl L5 ce ?_);rintro _ dp _ ag ⟨dq,dr,rfl,rfl,dt⟩ ci;refine Cu (S':= [[],[],[],[],[],[],[]]) rfl ci fun ck=>CU ck Gb fun cm cn=>?_;refine CU cn Gb fun bG co=>?_;refine BY 7 co Dr fun cp=>?_;refine C3 7 cp rfl fun du al bH cq=>Cu (S':= [[],[],[],[],[],[],[],[],[(bG,.cells #[iV 0,nS] 97 (0,0))]]) rfl cq fun cr=>BY 8 cr Dr fun ct=>?_;refine C3 8 ct rfl fun bi Y bI bJ=>zg 4 rfl (JL.fl 1 (bH.Ah Y) underlying97 Dv ER ?_);refine Be underlying95 rfl rfl rfl ?_;obtain⟨cu,cv,cw⟩:=bs cg;refine zg 2 rfl (ED [] (fun L s=>∃(bK:LH),Jm bi H bK [] [(1,sV a0 p1 a1),(2,sV a2 p2 a3),(10,pV ca cb),(11,pV cm 0),(12,pV bG 0),(43,.bool cu)] L s) ?_ ?_)
   ·rintro _ _ ⟨bK,rfl,rfl,Z,bL⟩;refine JL.done (BJ cw (fun cy cz=>?_) (fun cy cA=>?_))
    ·refine zg 5 rfl ?_;obtain rfl:=oi cz;exact AA func37 rfl rfl (av ((((((((K.Ac O).Ac V).Ac ap).Ac U).Ac ag).Ac al).Ac Y).Ac Z) rfl ⟨rfl,rfl⟩ bL)
    ·obtain⟨dv,cB,cC⟩:=bs cA;refine zg 6 rfl (BO (aQ (a6.Ah ((((((((K.Ac O).Ac V).Ac ap).Ac U).Ac ag).Ac al).Ac Y).Ac Z)) (a7.Ah ((((((((K.Ac O).Ac V).Ac ap).Ac U).Ac ag).Ac al).Ac Y).Ac Z)) cB) rfl rfl (AR func94 rfl) bL ?_);rintro _ dw _ am ⟨dx,dy,rfl,rfl,cD⟩ cE;obtain⟨dz,cF,cG⟩:=bs cC;refine BO (NB (a9.Ah (((((U.Ac ag).Ac al).Ac Y).Ac Z).Ac am)) (bb.Ah (((((U.Ac ag).Ac al).Ac Y).Ac Z).Ac am)) (bd.Ah (((((U.Ac ag).Ac al).Ac Y).Ac Z).Ac am)) (Rp.Ah _ (((((U.Ac ag).Ac al).Ac Y).Ac Z).Ac am) be) cD cF) rfl rfl L5 cE ?_;rintro _ dA _ bo ⟨dB,dC,rfl,rfl,dD⟩ cH;refine Cu (S':= [[],[]]) rfl cH fun cI=>CU cI Gb fun dE cJ=>?_;refine BY 2 cJ Dr fun cK=>?_;refine C3 2 cK rfl fun dF bv bM bN=>zg 3 rfl (JL.fl 1 bM underlying97 Dv ER ?_);refine Be underlying95 rfl rfl rfl ?_;obtain⟨cM,cN,cO⟩:=bs cG;refine zg 2 rfl (Dp 14 2 [] [(62,.bool cM)] (fun dG cP cQ=>?_) (fun bO=>?_))
     ·refine zg 3 rfl ?_;obtain rfl:=oi cO;exact AA func37 rfl rfl (av ((((((((((((K.Ac O).Ac V).Ac ap).Ac U).Ac ag).Ac al).Ac Y).Ac Z).Ac am).Ac bo).Ac bv).Ac cP) rfl ⟨rfl,rfl⟩ cQ)
     ·refine Eo 53 cN (fun cR cT=>?_) (fun cR cV=>?_)
      ·refine JL.fl 0 bM underlying97 AU Bt ?_;refine JL.fl 0 (bH.Ah ((((Y.Ac Z).Ac am).Ac bo).Ac bv)) underlying97 AU Bt ?_;refine JL.fl 0 (bI.Ah (((Z.Ac am).Ac bo).Ac bv)) underlying97 AU Bt ?_;obtain⟨dH,cW,cX⟩:=bs cT;refine Bc cW rfl rfl rfl (zg 2 rfl ?_);obtain rfl:=oi cX;exact bO Ar bN rfl
      ·refine zg 9 rfl ?_;obtain rfl:=oi cV;exact bO Ar bN rfl
   ·intro bP;refine Eo 38 cv (fun cY cZ=>?_) (fun cY c0=>?_)
    ·refine zg 5 rfl ?_;obtain rfl:=oi cZ;exact Ax (bP _ _ ⟨bi,rfl,rfl,Ar,bJ⟩) rfl
    ·refine JL.fl 1 bI underlying97 Dv ER ?_;refine Be underlying95 rfl rfl rfl (zg 2 rfl ?_);obtain rfl:=oi c0;exact Ax (bP _ _ ⟨bi,rfl,rfl,Ar,bJ⟩) rfl
end Pal
namespace Pal
open Go Go.Conc Go.Proofs
open Go.Proofs.Tryz
def ID(fuel:Nat):Option Bool:= (f71 fuel).bind fun am=> (PC fuel am 4).bind fun U=> (f71 fuel).bind fun ap=> (PF fuel ap 5).bind fun V=> (f71 fuel).bind fun av=> (f72 fuel).bind fun a0=> (Pv fuel av a0 2).bind fun Y=> (f71 fuel).bind fun a1=> (Jc fuel a1 ([])).bind fun Z=> (f71 fuel).bind fun a2=> (f73 fuel).bind fun a3=> (Py fuel a2 a3 1).bind fun ag=> (f71 fuel).bind fun a4=> (PD fuel a4 ([])).bind fun K=> (f71 fuel).bind fun a5=> (f72 fuel).bind fun a6=> (f72 fuel).bind fun a7=> (PH fuel a5 a6 a7).bind fun al=> (f71 fuel).bind fun a8=> (f73 fuel).bind fun a9=> (IE fuel a8 a9).bind fun O=> Option.bind (if U.2=0 then(some (decide (V.2=0))) else(some false)) fun bb=> Option.bind (if bb=true then(some (decide (Y.2=0))) else(some false)) fun bd=> Option.bind (if bd=true then(some (decide (Z.2=0))) else(some false)) fun be=> Option.bind (if be=true then(some (decide (ag.2=0))) else(some false)) fun bi=> Option.bind (if bi=true then(some (decide (K.2.2=0))) else(some false)) fun bo=> Option.bind (if bo=true then(some (decide (al.2=0))) else(some false)) fun bv=> Option.bind (if bv=true then(some (decide (O.2.2=0))) else(some false)) fun bw=> Option.bind (if bw=true then(some (decide (V.1=3))) else(some false)) fun bz=> Option.bind (if bz=true then(some (decide (Z.1=15))) else(some false)) fun bA=> Option.bind (if bA=true then(some (decide (ag.1=1))) else(some false)) fun bB=> Option.bind (if bB=true then(some (decide (K.1=0))) else(some false)) fun bC=> Option.bind (if bC=true then(some (decide (K.2.1=9))) else(some false)) fun bD=> Option.bind (if bD=true then(some al.1) else(some false)) fun bE=> Option.bind (if bE=true then(some (decide (O.1=3))) else(some false)) fun bF=> Option.bind (if bF=true then((f32 fuel U.1 ([4,5]:List Int)).bind fun bG=> some bG) else(some false)) fun bH=> Option.bind (if bH=true then((f32 fuel Y.1 ([2,3,4]:List Int)).bind fun bI=> some bI) else(some false)) fun bJ=> Option.bind (if bJ=true then((f32 fuel O.2.1 ([3,4]:List Int)).bind fun bK=> some bK) else(some false)) fun bL=> some bL
theorem SK{E:LH}(a6:GE E){fuel:Nat}{r:Bool}(bW:ID fuel=some r):AM (DZ Tryz.prog) 22 [] E [] (fun w E' B'=>w= .bool r∧B'= []):=by
 refine A4 func22 fun Q gI cs H cF cG=>?_;unfold ID at bW;obtain⟨gJ,cH,cI⟩:=bs bW;refine zg 6 rfl (BO (Iz cH) rfl rfl Ig cF ?_);rintro _ gK _ a3 ⟨gL,gM,gN,gO,rfl,rfl,cJ,cK⟩ cM;obtain⟨am,cN,cO⟩:=bs cI;refine BO (ZI (a6.Ah a3) cJ cK cN) rfl rfl (AR func51 rfl) cM ?_;rintro _ gP _ a7 ⟨ap,av,rfl,rfl,cP⟩ cQ;obtain⟨gQ,cR,cT⟩:=bs cO;refine zg 8 rfl (BO (Iz cR) rfl rfl Ig cQ ?_);rintro _ gR _ a4 ⟨gS,gT,gU,gV,rfl,rfl,cV,cW⟩ cX;obtain⟨be,cY,cZ⟩:=bs cT;refine BF (Ze (a6.Ah ((a3.Ac a7).Ac a4)) cV cW cY) rfl rfl (AR func57 rfl) cX fun gW a8 c0=>?_;obtain⟨gX,c1,c2⟩:=bs cZ;refine zg 8 rfl (BO (Iz c1) rfl rfl Ig c0 ?_);rintro _ gY _ a9 ⟨gZ,g0,g1,g3,rfl,rfl,c3,c4⟩ c5;obtain⟨g4,c6,c7⟩:=bs c2;refine BO (Po c6) rfl rfl N7 c5 ?_;rintro _ g5 _ a1 ⟨g6,g7,rfl,rfl,c8⟩ c9;obtain⟨V,da,db⟩:=bs c7;refine BO (YY (a6.Ah (((((a3.Ac a7).Ac a4).Ac a8).Ac a9).Ac a1)) (c3.Ah a1) (c4.Ah a1) c8 da) rfl rfl (AR func43 rfl) c9 ?_;rintro _ g8 _ bi ⟨ag,al,rfl,rfl,dc⟩ dd;obtain⟨g9,de,df⟩:=bs db;refine zg 8 rfl (BO (Iz de) rfl rfl Ig dd ?_);rintro _ ha _ bb ⟨hb,hc,hd,he,rfl,rfl,dg,dh⟩ di;obtain⟨a2,dj,dk⟩:=bs df;refine BF (Ta (a6.Ah (((((((a3.Ac a7).Ac a4).Ac a8).Ac a9).Ac a1).Ac bi).Ac bb)) dg dh Am.nil dj) rfl rfl (AR func28 rfl) di fun hf bo dl=>?_;obtain⟨hj,dm,dn⟩:=bs dk;refine zg 8 rfl (BO (Iz dm) rfl rfl Ig dl ?_);rintro _ hk _ bv ⟨hl,hm,hn,ho,rfl,rfl,dp,dq⟩ dr;obtain⟨hp,dt,du⟩:=bs dn;refine BO (TB dt) rfl rfl (AR func73 rfl) dr ?_;rintro _ hq _ a5 ⟨hr,hu,rfl,rfl,dv⟩ dw;obtain⟨a0,dx,dy⟩:=bs du;refine BF (YG (a6.Ah ((((((((((a3.Ac a7).Ac a4).Ac a8).Ac a9).Ac a1).Ac bi).Ac bb).Ac bo).Ac bv).Ac a5)) (dp.Ah a5) (dq.Ah a5) dv dx) rfl rfl (AR func49 rfl) dw fun hv bz dz=>?_;obtain⟨hw,dA,dB⟩:=bs dy;refine zg 8 rfl (BO (Iz dA) rfl rfl Ig dz ?_);rintro _ hx _ bA ⟨hy,hz,hA,hB,rfl,rfl,dC,dD⟩ dE;obtain⟨O,dF,dG⟩:=bs dB;refine BF (Zr (a6.Ah ((((((((((((a3.Ac a7).Ac a4).Ac a8).Ac a9).Ac a1).Ac bi).Ac bb).Ac bo).Ac bv).Ac a5).Ac bz).Ac bA)) dC dD Am.nil dF) rfl rfl (AR func35 rfl) dE fun hC bC dH=>?_;obtain⟨hD,dI,dJ⟩:=bs dG;refine zg 10 rfl (BO (Iz dI) rfl rfl Ig dH ?_);rintro _ hE _ bD ⟨hF,hG,hH,hI,rfl,rfl,dK,dL⟩ dM;obtain⟨hJ,dN,dO⟩:=bs dJ;refine BO (Po dN) rfl rfl N7 dM ?_;rintro _ hK _ bw ⟨hL,hM,rfl,rfl,dP⟩ dQ;obtain⟨hN,dR,dS⟩:=bs dO;refine BO (Po dR) rfl rfl N7 dQ ?_;rintro _ hO _ bd ⟨hP,hQ,rfl,rfl,dT⟩ dU;obtain⟨U,dV,dW⟩:=bs dS;refine BF (Y4 (a6.Ah ((((((((((((((((a3.Ac a7).Ac a4).Ac a8).Ac a9).Ac a1).Ac bi).Ac bb).Ac bo).Ac bv).Ac a5).Ac bz).Ac bA).Ac bC).Ac bD).Ac bw).Ac bd)) (dK.Ah (bw.Ac bd)) (dL.Ah (bw.Ac bd)) (dP.Ah bd) dT dV) rfl rfl (AR func37 rfl) dU fun hR bE dX=>?_;obtain⟨hS,dY,dZ⟩:=bs dW;refine zg 8 rfl (BO (Iz dY) rfl rfl Ig dX ?_);rintro _ hT _ bF ⟨hU,hV,hW,hX,rfl,rfl,ea,eb⟩ ec;obtain⟨hY,ed,ee⟩:=bs dZ;refine BO (TB ed) rfl rfl (AR func73 rfl) ec ?_;rintro _ hZ _ bB ⟨h0,h1,rfl,rfl,ef⟩ eg;obtain⟨K,eh,ei⟩:=bs ee;refine BO (Su (a6.Ah (((((((((((((((((((a3.Ac a7).Ac a4).Ac a8).Ac a9).Ac a1).Ac bi).Ac bb).Ac bo).Ac bv).Ac a5).Ac bz).Ac bA).Ac bC).Ac bD).Ac bw).Ac bd).Ac bE).Ac bF).Ac bB)) (ea.Ah bB) (eb.Ah bB) ef eh) rfl rfl (AR func30 rfl) eg ?_;rintro _ h2 _ bU ⟨Y,Z,rfl,rfl,ej⟩ bY;obtain⟨ek,el,em⟩:=bs ei;refine zg 13 rfl (Dp 6 67 [] [(1,sV ap am.1 av),(3,iV be.1),(5,sV ag V.1 al),(6,iV V.2),(7,iV a2.1),(8,iV a2.2),(9,iV a0.1),(10,iV a0.2),(11,iV O.1),(12,iV O.2.1),(13,iV O.2.2),(14,.bool U.1),(15,iV U.2),(16,iV K.1),(17,sV Y K.2.1 Z),(18,iV K.2.2),(71,.bool ek)] (fun h3 bG bZ=>?_) (fun b0=>?_))
 ·obtain⟨en,eo,ep⟩:=bs em;refine zg 1 rfl (Dp 10 63 [] [(1,sV ap am.1 av),(3,iV be.1),(5,sV ag V.1 al),(7,iV a2.1),(8,iV a2.2),(9,iV a0.1),(10,iV a0.2),(11,iV O.1),(12,iV O.2.1),(13,iV O.2.2),(14,.bool U.1),(15,iV U.2),(16,iV K.1),(17,sV Y K.2.1 Z),(18,iV K.2.2),(75,.bool en)] (fun h4 bH b1=>?_) (fun b2=>?_))
  ·obtain⟨eq,er,et⟩:=bs ep;refine zg 1 rfl (Dp 14 59 [] [(1,sV ap am.1 av),(3,iV be.1),(5,sV ag V.1 al),(7,iV a2.1),(9,iV a0.1),(10,iV a0.2),(11,iV O.1),(12,iV O.2.1),(13,iV O.2.2),(14,.bool U.1),(15,iV U.2),(16,iV K.1),(17,sV Y K.2.1 Z),(18,iV K.2.2),(79,.bool eq)] (fun h5 bI b3=>?_) (fun b4=>?_))
   ·obtain⟨eu,ew,ex⟩:=bs et;refine zg 1 rfl (Dp 18 55 [] [(1,sV ap am.1 av),(3,iV be.1),(5,sV ag V.1 al),(7,iV a2.1),(9,iV a0.1),(11,iV O.1),(12,iV O.2.1),(13,iV O.2.2),(14,.bool U.1),(15,iV U.2),(16,iV K.1),(17,sV Y K.2.1 Z),(18,iV K.2.2),(83,.bool eu)] (fun h6 bJ b5=>?_) (fun b6=>?_))
    ·obtain⟨ey,ez,eA⟩:=bs ex;refine zg 1 rfl (Dp 22 51 [] [(1,sV ap am.1 av),(3,iV be.1),(5,sV ag V.1 al),(7,iV a2.1),(9,iV a0.1),(11,iV O.1),(12,iV O.2.1),(14,.bool U.1),(15,iV U.2),(16,iV K.1),(17,sV Y K.2.1 Z),(18,iV K.2.2),(87,.bool ey)] (fun h7 bK b7=>?_) (fun b8=>?_))
     ·obtain⟨eB,eC,eD⟩:=bs eA;refine zg 1 rfl (Dp 26 47 [] [(1,sV ap am.1 av),(3,iV be.1),(5,sV ag V.1 al),(7,iV a2.1),(9,iV a0.1),(11,iV O.1),(12,iV O.2.1),(14,.bool U.1),(16,iV K.1),(17,sV Y K.2.1 Z),(18,iV K.2.2),(91,.bool eB)] (fun h8 bL b9=>?_) (fun ca=>?_))
      ·obtain⟨eE,eF,eG⟩:=bs eD;refine zg 1 rfl (Dp 30 43 [] [(1,sV ap am.1 av),(3,iV be.1),(5,sV ag V.1 al),(7,iV a2.1),(9,iV a0.1),(11,iV O.1),(12,iV O.2.1),(14,.bool U.1),(16,iV K.1),(17,sV Y K.2.1 Z),(95,.bool eE)] (fun h9 bM cb=>?_) (fun cc=>?_))
       ·obtain⟨eH,eI,eJ⟩:=bs eG;refine zg 1 rfl (Dp 34 39 [] [(1,sV ap am.1 av),(5,sV ag V.1 al),(7,iV a2.1),(9,iV a0.1),(11,iV O.1),(12,iV O.2.1),(14,.bool U.1),(16,iV K.1),(17,sV Y K.2.1 Z),(99,.bool eH)] (fun ia bN cd=>?_) (fun ce=>?_))
        ·obtain⟨eK,eL,eM⟩:=bs eJ;refine zg 1 rfl (Dp 38 35 [] [(1,sV ap am.1 av),(5,sV ag V.1 al),(9,iV a0.1),(11,iV O.1),(12,iV O.2.1),(14,.bool U.1),(16,iV K.1),(17,sV Y K.2.1 Z),(103,.bool eK)] (fun ic bO cf=>?_) (fun cg=>?_))
         ·obtain⟨eN,eO,eP⟩:=bs eM;refine zg 1 rfl (Dp 42 31 [] [(1,sV ap am.1 av),(5,sV ag V.1 al),(11,iV O.1),(12,iV O.2.1),(14,.bool U.1),(16,iV K.1),(17,sV Y K.2.1 Z),(107,.bool eN)] (fun ie bP ci=>?_) (fun ck=>?_))
          ·obtain⟨eQ,eR,eS⟩:=bs eP;refine zg 1 rfl (Dp 46 27 [] [(1,sV ap am.1 av),(5,sV ag V.1 al),(12,iV O.2.1),(14,.bool U.1),(16,iV K.1),(17,sV Y K.2.1 Z),(111,.bool eQ)] (fun ig bQ cm=>?_) (fun cn=>?_))
           ·obtain⟨eT,eU,eV⟩:=bs eS;refine zg 1 rfl (Dp 50 23 [] [(1,sV ap am.1 av),(5,sV ag V.1 al),(14,.bool U.1),(16,iV K.1),(17,sV Y K.2.1 Z),(115,.bool eT)] (fun ih bR co=>?_) (fun cp=>?_))
            ·obtain⟨eW,eX,eY⟩:=bs eV;refine zg 1 rfl (Dp 53 20 [] [(1,sV ap am.1 av),(5,sV ag V.1 al),(16,iV K.1),(17,sV Y K.2.1 Z),(118,.bool eW)] (fun ii bS cq=>?_) (fun cr=>?_))
             ·obtain⟨eZ,e0,e1⟩:=bs eY;refine zg 1 rfl (Dp 57 16 [] [(1,sV ap am.1 av),(5,sV ag V.1 al),(17,sV Y K.2.1 Z),(122,.bool eZ)] (fun ij bT ct=>?_) (fun cu=>?_))
              ·obtain⟨e2,e3,e4⟩:=bs e1;refine zg 1 rfl (Dp 62 11 [] [(5,sV ag V.1 al),(17,sV Y K.2.1 Z),(127,.bool e2)] (fun ik bV cv=>?_) (fun cw=>?_))
               ·obtain⟨e5,e6,e7⟩:=bs e4;refine zg 1 rfl (Dp 67 6 [] [(17,sV Y K.2.1 Z),(132,.bool e5)] (fun il cy cz=>?_) (fun cA=>?_))
                ·obtain⟨e8,e9,fa⟩:=bs e7;refine zg 1 rfl (Dp 72 1 [] [(137,.bool e8)] (fun io fb fc=>?_) (fun cB=>?_))
                 ·refine zg 2 rfl ?_;obtain rfl:=oi fa;exact AA func22 rfl rfl (cG (((((((((((((((((((((((((((((((((((((a3.Ac a7).Ac a4).Ac a8).Ac a9).Ac a1).Ac bi).Ac bb).Ac bo).Ac bv).Ac a5).Ac bz).Ac bA).Ac bC).Ac bD).Ac bw).Ac bd).Ac bE).Ac bF).Ac bB).Ac bU).Ac bG).Ac bH).Ac bI).Ac bJ).Ac bK).Ac bL).Ac bM).Ac bN).Ac bO).Ac bP).Ac bQ).Ac bR).Ac bS).Ac bT).Ac bV).Ac cy).Ac fb) rfl ⟨rfl,rfl⟩ fc)
                 ·refine Dy 133 e9 (fun fd fe=>?_) (fun fd ff=>?_)
                  ·refine zg 1 rfl (Dt (pp:=rI) [iV 3,iV 4] [3,4] rfl rfl rfl underlying28 AU CK (by decide) rfl rfl rfl ⟨rfl,rfl,trivial⟩ cz fun iq ir fg fh=>?_);refine B6 0 fg fh rfl fun it cC fj fk=>?_;obtain⟨iu,fm,fo⟩:=bs fe;refine BF (Lo (ej.Ah ((((((((((((((((bG.Ac bH).Ac bI).Ac bJ).Ac bK).Ac bL).Ac bM).Ac bN).Ac bO).Ac bP).Ac bQ).Ac bR).Ac bS).Ac bT).Ac bV).Ac cy).Ac cC)) fj fm) rfl rfl Kl fk fun iv fp fq=>zg 1 rfl ?_;obtain rfl:=oi fo;exact cB (cC.Ac fp) fq rfl
                  ·refine zg 4 rfl ?_;obtain rfl:=oi ff;exact cB Ar cz rfl
                ·refine Dy 128 e6 (fun fs fu=>?_) (fun fs fv=>?_)
                 ·refine zg 1 rfl (Dt (pp:=rI) [iV 2,iV 3,iV 4] [2,3,4] rfl rfl rfl underlying28 AU CK (by decide) rfl rfl rfl ⟨rfl,rfl,rfl,trivial⟩ cv fun iw iy fw fx=>?_);refine B6 0 fw fx rfl fun iz cD fy fz=>?_;obtain⟨iA,fA,fB⟩:=bs fu;refine BF (Lo (dc.Ah (((((((((((((((((((((((((((((bb.Ac bo).Ac bv).Ac a5).Ac bz).Ac bA).Ac bC).Ac bD).Ac bw).Ac bd).Ac bE).Ac bF).Ac bB).Ac bU).Ac bG).Ac bH).Ac bI).Ac bJ).Ac bK).Ac bL).Ac bM).Ac bN).Ac bO).Ac bP).Ac bQ).Ac bR).Ac bS).Ac bT).Ac bV).Ac cD)) fy fA) rfl rfl Kl fz fun iB fC fD=>zg 1 rfl ?_;obtain rfl:=oi fB;exact cA (cD.Ac fC) fD rfl
                 ·refine zg 4 rfl ?_;obtain rfl:=oi fv;exact cA Ar cv rfl
               ·refine Dy 123 e3 (fun fE fF=>?_) (fun fE fG=>?_)
                ·refine zg 1 rfl (Dt (pp:=rI) [iV 4,iV 5] [4,5] rfl rfl rfl underlying28 AU CK (by decide) rfl rfl rfl ⟨rfl,rfl,trivial⟩ ct fun iC iD fH fI=>?_);refine B6 0 fH fI rfl fun iE cE fJ fK=>?_;obtain⟨iF,fL,fM⟩:=bs fF;refine BF (Lo (cP.Ah (((((((((((((((((((((((((((((((((a4.Ac a8).Ac a9).Ac a1).Ac bi).Ac bb).Ac bo).Ac bv).Ac a5).Ac bz).Ac bA).Ac bC).Ac bD).Ac bw).Ac bd).Ac bE).Ac bF).Ac bB).Ac bU).Ac bG).Ac bH).Ac bI).Ac bJ).Ac bK).Ac bL).Ac bM).Ac bN).Ac bO).Ac bP).Ac bQ).Ac bR).Ac bS).Ac bT).Ac cE)) fJ fL) rfl rfl Kl fK fun iG fN fO=>zg 1 rfl ?_;obtain rfl:=oi fM;exact cw (cE.Ac fN) fO rfl
                ·refine zg 4 rfl ?_;obtain rfl:=oi fG;exact cw Ar ct rfl
              ·refine Dy 119 e0 (fun fP fQ=>?_) (fun fP fR=>?_)
               ·refine zg 3 rfl ?_;obtain rfl:=oi fQ;exact cu Ar cq rfl
               ·refine zg 3 rfl ?_;obtain rfl:=oi fR;exact cu Ar cq rfl
             ·refine Dy 116 eX (fun fS fT=>?_) (fun fS fU=>?_)
              ·refine zg 2 rfl ?_;obtain rfl:=oi fT;exact cr Ar co rfl
              ·refine zg 2 rfl ?_;obtain rfl:=oi fU;exact cr Ar co rfl
            ·refine Dy 112 eU (fun fW fX=>?_) (fun fW fY=>?_)
             ·refine zg 3 rfl ?_;obtain rfl:=oi fX;exact cp Ar cm rfl
             ·refine zg 3 rfl ?_;obtain rfl:=oi fY;exact cp Ar cm rfl
           ·refine Dy 108 eR (fun fZ ga=>?_) (fun fZ gb=>?_)
            ·refine zg 3 rfl ?_;obtain rfl:=oi ga;exact cn Ar ci rfl
            ·refine zg 3 rfl ?_;obtain rfl:=oi gb;exact cn Ar ci rfl
          ·refine Dy 104 eO (fun gc gd=>?_) (fun gc ge=>?_)
           ·refine zg 3 rfl ?_;obtain rfl:=oi gd;exact ck Ar cf rfl
           ·refine zg 3 rfl ?_;obtain rfl:=oi ge;exact ck Ar cf rfl
         ·refine Dy 100 eL (fun gf gg=>?_) (fun gf gh=>?_)
          ·refine zg 3 rfl ?_;obtain rfl:=oi gg;exact cg Ar cd rfl
          ·refine zg 3 rfl ?_;obtain rfl:=oi gh;exact cg Ar cd rfl
        ·refine Dy 96 eI (fun gi gj=>?_) (fun gi gk=>?_)
         ·refine zg 3 rfl ?_;obtain rfl:=oi gj;exact ce Ar cb rfl
         ·refine zg 3 rfl ?_;obtain rfl:=oi gk;exact ce Ar cb rfl
       ·refine Dy 92 eF (fun gl gm=>?_) (fun gl gn=>?_)
        ·refine zg 3 rfl ?_;obtain rfl:=oi gm;exact cc Ar b9 rfl
        ·refine zg 3 rfl ?_;obtain rfl:=oi gn;exact cc Ar b9 rfl
      ·refine Dy 88 eC (fun gp gq=>?_) (fun gp gr=>?_)
       ·refine zg 3 rfl ?_;obtain rfl:=oi gq;exact ca Ar b7 rfl
       ·refine zg 3 rfl ?_;obtain rfl:=oi gr;exact ca Ar b7 rfl
     ·refine Dy 84 ez (fun gt gu=>?_) (fun gt gv=>?_)
      ·refine zg 3 rfl ?_;obtain rfl:=oi gu;exact b8 Ar b5 rfl
      ·refine zg 3 rfl ?_;obtain rfl:=oi gv;exact b8 Ar b5 rfl
    ·refine Dy 80 ew (fun gw gx=>?_) (fun gw gy=>?_)
     ·refine zg 3 rfl ?_;obtain rfl:=oi gx;exact b6 Ar b3 rfl
     ·refine zg 3 rfl ?_;obtain rfl:=oi gy;exact b6 Ar b3 rfl
   ·refine Dy 76 er (fun gz gA=>?_) (fun gz gB=>?_)
    ·refine zg 3 rfl ?_;obtain rfl:=oi gA;exact b4 Ar b1 rfl
    ·refine zg 3 rfl ?_;obtain rfl:=oi gB;exact b4 Ar b1 rfl
  ·refine Dy 72 eo (fun gC gD=>?_) (fun gC gE=>?_)
   ·refine zg 3 rfl ?_;obtain rfl:=oi gD;exact b2 Ar bZ rfl
   ·refine zg 3 rfl ?_;obtain rfl:=oi gE;exact b2 Ar bZ rfl
 ·refine Eo 68 el (fun gF gG=>?_) (fun gF gH=>?_)
  ·refine zg 3 rfl ?_;obtain rfl:=oi gG;exact b0 Ar bY rfl
  ·refine zg 3 rfl ?_;obtain rfl:=oi gH;exact b0 Ar bY rfl
end Pal
namespace Pal
theorem DY{f:Nat→Option Int}{n i:Nat}{c:Int}(K:∀q,q<i→f q=none)(O:f i=some c)(hi:i<n):(List.range n).findSome? f=some c:=by
 have key:∀(k:Nat),i<k→(List.range k).findSome? f=some c:=by
  intro k
  induction k with
  | zero=>intro h;omega
  | succ k U=>
   intro h;rw [List.range_succ,List.findSome?_append];by_cases e:i=k
   ·subst e;have:(List.range i).findSome? f=none:=List.findSome?_eq_none_iff.2 fun q V=>K q (List.mem_range.1 V);rw [this];simp [O]
   ·rw [U (by omega)];rfl
 exact key n hi
theorem F1{f:Nat→Option Int}{n:Nat}(K:∀q,q<n→f q=none):(List.range n).findSome? f=none:=List.findSome?_eq_none_iff.2 fun q O=>K q (List.mem_range.1 O)
def EK(n:Nat)(m:Int)(b:Bool)(l:List Int)(i:Nat):Option Int:=
 if l.getD i 0<0∨(n:Int) - 1<l.getD i 0 then some 3 else if l.getD i 0=m∧b=false then some 8 else if 0<i∧l.getD i 0≤l.getD (i - 1) 0 then some 5 else none
def EI(n:Nat)(m:Int)(b:Bool)(l:List Int):Option Int:=(List.range l.length).findSome? (EK n m b l)
theorem Ee{α:Type}{l:List α}{i:Nat}{d:α}(h:i<l.length):l.getD i d=l[i]:=by rw [List.getD_eq_getElem?_getD,List.getElem?_eq_getElem h];rfl
theorem Q3{F:Nat}{J:JW}{m:Int}{l:List Int}{b:Bool}(am:100<F)(ap:l.length<100)(av:J.1.length<100):AZ (f136 F J m l b) (fun e=>e.map (·.1)=EI J.1.length m b l):=by
 unfold f136;refine AD (S:=fun q=>(∃c,q=Sum.inl (some (c,m))∧EI J.1.length m b l=some c)∨(q=Sum.inr ()∧EI J.1.length m b l=none)) ?_ ?_
 ·refine Cj l.length (fun i s=>s=(i:Int)∧∀q,q<i→EK J.1.length m b l q=none) ⟨rfl,fun q al=>by omega⟩ (by omega) ?_ ?_
  ·rintro i s hi ⟨rfl,O⟩;unfold JF;have hg:l.getD i 0=l[i]:=Ee hi;refine Br (by omega) (Bl (m:=i) rfl hi ?_);refine AV ((J.1.length:Int) - 1) rfl (by omega) (by omega) (AO (I0 F _ _ _) ?_);refine Bn (fun h=>?_) (fun h=>?_)
   ·have U:=of_decide_eq_true h;exact Ak (.inl ⟨3,rfl,DY O (by unfold EK;rw [hg,if_pos U]) hi⟩)
   ·have U:¬(l[i]<0∨(J.1.length:Int) - 1<l[i]):=fun x=>h (decide_eq_true x);refine AD (S:=fun c=>c=decide (l[i]=m∧b=false)) ?_ ?_
    ·refine Bn (fun K=>Ak ?_) (fun K=>Ak ?_)
     ·cases b <;> simp [K]
     ·simp [K]
    ·rintro c rfl;refine Bn (fun K=>?_) (fun K=>?_)
     ·have Y:=of_decide_eq_true K;exact Ak (.inl ⟨8,rfl,DY O (by unfold EK;rw [hg,if_neg U,if_pos Y]) hi⟩)
     ·have Y:¬(l[i]=m∧b=false):=fun x=>K (decide_eq_true x);refine AD (S:=fun c=>c=decide (0<i∧l[i]≤l.getD (i - 1) 0)) ?_ ?_
      ·refine Bn (fun V=>?_) (fun V=>?_)
       ·have ag:i - 1<l.length:=by omega
        refine AV ((i - 1:Nat):Int) (by omega) (by omega) (by omega) (Bl (m:=i - 1) rfl ag ?_);refine Ak ?_;rw [Ee ag];exact decide_eq_decide.2 ⟨fun x=>⟨by omega,x⟩,fun x=>x.2⟩
       ·exact Ak (decide_eq_false (by omega)).symm
      ·rintro c rfl;refine Bn (fun V=>?_) (fun V=>?_)
       ·have Z:=of_decide_eq_true V;exact Ak (.inl ⟨5,rfl,DY O (by unfold EK;rw [hg,if_neg U,if_neg Y,if_pos Z]) hi⟩)
       ·have Z:¬(0<i∧l[i]≤l.getD (i - 1) 0):=fun x=>V (decide_eq_true x);refine AV ((i+1:Nat):Int) (by simp) (by omega) (by omega) ?_;refine Ak ⟨rfl,fun q al=>?_⟩;by_cases e:q=i
        ·subst e;unfold EK;rw [hg,if_neg U,if_neg Y,if_neg Z]
        ·exact O q (by omega)
  ·rintro s ⟨rfl,O⟩;unfold JF;exact A9 (by omega) (Ak ⟨_,rfl,.inr ⟨rfl,F1 O⟩⟩)
 ·rintro q (⟨c,rfl,h⟩ | ⟨rfl,h⟩)
  ·exact Ak h.symm
  ·exact Ak h.symm
theorem MN(F:Nat)(a lo hi:Int):f104 F a lo hi=some (decide (lo≤a∧a≤hi)):=by
 unfold f104;by_cases h:lo≤a
 ·simp [h]
 ·simp [h]
theorem V4{F:Nat}{J:JW}{m:Int}{l:List Int}(ag:100<F)(al:l.length<100)(am:J.1.length<100):f114 F J l=some (if l.length=0 then 7 else if 3<l.length then 6 else(EI J.1.length m true l).getD 0):=by
 refine CO ?_;unfold f114;refine Bn (fun h=>?_) (fun h=>?_)
 ·rw [if_pos (show l.length=0 by omega)];exact Ak rfl
 rw [if_neg (show ¬l.length=0 by omega)];refine Bn (fun h=>?_) (fun h=>?_)
 ·rw [if_pos (show 3<l.length by omega)];exact Ak rfl
 rw [if_neg (show ¬3<l.length by omega)];refine AD (S:=fun q=>(∃c,q=Sum.inl c∧EI J.1.length m true l=some c)∨(q=Sum.inr ()∧EI J.1.length m true l=none)) ?_ ?_
 ·refine Cj l.length (fun i s=>s=(i:Int)∧∀q,q<i→EK J.1.length m true l q=none) ⟨rfl,fun q Z=>by omega⟩ (by omega) ?_ ?_
  ·rintro i s hi ⟨rfl,K⟩;unfold MS;have hg:l.getD i 0=l[i]:=Ee hi;refine Br (by omega) (Bl (m:=i) rfl hi ?_);refine AV ((J.1.length:Int) - 1) rfl (by omega) (by omega) (AO (MN F _ _ _) ?_);refine Bn (fun h=>?_) (fun h=>?_)
   ·have U:l[i]<0∨(J.1.length:Int) - 1<l[i]:=by simp at h;omega
    exact Ak (.inl ⟨3,rfl,DY K (by unfold EK;rw [hg,if_pos U]) hi⟩)
   ·have U:¬(l[i]<0∨(J.1.length:Int) - 1<l[i]):=by simp at h;omega
    refine AD (S:=fun c=>c=decide (0<i∧l[i]≤l.getD (i - 1) 0)) ?_ ?_
    ·refine Bn (fun O=>?_) (fun O=>?_)
     ·have Y:i - 1<l.length:=by omega
      refine Bl (m:=i) rfl hi (AV ((i - 1:Nat):Int) (by omega) (by omega) (by omega) ?_);refine Bl (m:=i - 1) rfl Y (Ak ?_);rw [Ee Y];exact decide_eq_decide.2 ⟨fun x=>⟨by omega,x⟩,fun x=>x.2⟩
     ·exact Ak (decide_eq_false (by omega)).symm
    ·rintro c rfl;refine Bn (fun O=>?_) (fun O=>?_)
     ·have V:=of_decide_eq_true O;exact Ak (.inl ⟨5,rfl,DY K (by unfold EK;rw [hg,if_neg U,if_neg (by simp),if_pos V]) hi⟩)
     ·have V:¬(0<i∧l[i]≤l.getD (i - 1) 0):=fun x=>O (decide_eq_true x);refine AV ((i+1:Nat):Int) (by simp) (by omega) (by omega) ?_;refine Ak ⟨rfl,fun q Z=>?_⟩;by_cases e:q=i
      ·subst e;unfold EK;rw [hg,if_neg U,if_neg (by simp),if_neg V]
      ·exact K q (by omega)
  ·rintro s ⟨rfl,K⟩;unfold MS;exact A9 (by omega) (Ak ⟨_,rfl,.inr ⟨rfl,F1 K⟩⟩)
 ·rintro q (⟨c,rfl,h⟩ | ⟨rfl,h⟩)
  ·exact Ak (by rw [h];rfl)
  ·exact Ak (by rw [h];rfl)
theorem VN{F:Nat}{J:JW}{m:Int}{l:List Int}(am:100<F)(ap:l.length<100)(av:J.1.length<100):f115 F J m l=some (if 3<l.length then 6 else(EI J.1.length m false l).getD 0):=by
 refine CO ?_;unfold f115;refine Bn (fun h=>?_) (fun h=>?_)
 ·rw [if_pos (show 3<l.length by omega)];exact Ak rfl
 rw [if_neg (show ¬3<l.length by omega)];refine AD (S:=fun q=>(∃c,q=Sum.inl c∧EI J.1.length m false l=some c)∨(q=Sum.inr ()∧EI J.1.length m false l=none)) ?_ ?_
 ·refine Cj l.length (fun i s=>s=(i:Int)∧∀q,q<i→EK J.1.length m false l q=none) ⟨rfl,fun q al=>by omega⟩ (by omega) ?_ ?_
  ·rintro i s hi ⟨rfl,K⟩;unfold MF;have hg:l.getD i 0=l[i]:=Ee hi;refine Br (by omega) (Bl (m:=i) rfl hi ?_);refine AV ((J.1.length:Int) - 1) rfl (by omega) (by omega) (AO (MN F _ _ _) ?_);refine Bn (fun h=>?_) (fun h=>?_)
   ·have O:l[i]<0∨(J.1.length:Int) - 1<l[i]:=by simp at h;omega
    exact Ak (.inl ⟨3,rfl,DY K (by unfold EK;rw [hg,if_pos O]) hi⟩)
   ·have O:¬(l[i]<0∨(J.1.length:Int) - 1<l[i]):=by simp at h;omega
    refine Bl (m:=i) rfl hi (Bn (fun V=>?_) (fun V=>?_))
    ·exact Ak (.inl ⟨8,rfl,DY K (by unfold EK;rw [hg,if_neg O,if_pos ⟨V,rfl⟩]) hi⟩)
    have Z:¬(l[i]=m∧false=false):=fun x=>V x.1;refine AD (S:=fun c=>c=decide (0<i∧l[i]≤l.getD (i - 1) 0)) ?_ ?_
    ·refine Bn (fun U=>?_) (fun U=>?_)
     ·have ag:i - 1<l.length:=by omega
      refine Bl (m:=i) rfl hi (AV ((i - 1:Nat):Int) (by omega) (by omega) (by omega) ?_);refine Bl (m:=i - 1) rfl ag (Ak ?_);rw [Ee ag];exact decide_eq_decide.2 ⟨fun x=>⟨by omega,x⟩,fun x=>x.2⟩
     ·exact Ak (decide_eq_false (by omega)).symm
    ·rintro c rfl;refine Bn (fun U=>?_) (fun U=>?_)
     ·have Y:=of_decide_eq_true U;exact Ak (.inl ⟨5,rfl,DY K (by unfold EK;rw [hg,if_neg O,if_neg Z,if_pos Y]) hi⟩)
     ·have Y:¬(0<i∧l[i]≤l.getD (i - 1) 0):=fun x=>U (decide_eq_true x);refine AV ((i+1:Nat):Int) (by simp) (by omega) (by omega) ?_;refine Ak ⟨rfl,fun q al=>?_⟩;by_cases e:q=i
      ·subst e;unfold EK;rw [hg,if_neg O,if_neg Z,if_neg Y]
      ·exact K q (by omega)
  ·rintro s ⟨rfl,K⟩;unfold MF;exact A9 (by omega) (Ak ⟨_,rfl,.inr ⟨rfl,F1 K⟩⟩)
 ·rintro q (⟨c,rfl,h⟩ | ⟨rfl,h⟩)
  ·exact Ak (by rw [h];rfl)
  ·exact Ak (by rw [h];rfl)
def D8(J:JW)(i:Nat):Option Int:=
 if(J.1.getD i []).length=0 then some 7 else if 3<(J.1.getD i []).length then some 6 else match EI J.1.length i true (J.1.getD i []) with
  | some c=>some c
  | none=>if 3<(J.2.getD i []).length then some 6 else EI J.1.length i false (J.2.getD i [])
def CJ(J:JW):Option Int:=if J.1.length=0 then some 7 else if 8<J.1.length then some 6 else if J.2.length≠J.1.length then some 9 else(List.range J.1.length).findSome? (D8 J)
structure NL (J:JW):Prop where
 l1:J.1.length≤20
 l2:J.2.length≤20
 n1:∀l∈J.1,l.length≤20
 n2:∀l∈J.2,l.length≤20
theorem Wu{F:Nat}{J:JW}(Z:100<F)(V:NL J):AZ (f113 F J) (fun e=>e.map (·.1)=CJ J):=by
 have ap:=V.l1;unfold f113 CJ;refine Bn (fun h=>?_) (fun h=>?_)
 ·rw [if_pos (show J.1.length=0 by omega)];exact Ak rfl
 rw [if_neg (show ¬J.1.length=0 by omega)];refine Bn (fun h=>?_) (fun h=>?_)
 ·rw [if_pos (show 8<J.1.length by omega)];exact Ak rfl
 rw [if_neg (show ¬8<J.1.length by omega)];refine Bn (fun h=>?_) (fun h=>?_)
 ·rw [if_pos (show J.2.length≠J.1.length by omega)];exact Ak rfl
 rw [if_neg (show ¬J.2.length≠J.1.length by omega)];refine AD (S:=fun q=>(∃c,q=Sum.inl (some c)∧(List.range J.1.length).findSome? (D8 J)=some c.1)∨(q=Sum.inr ()∧(List.range J.1.length).findSome? (D8 J)=none)) ?_ ?_
 ·refine Cj J.1.length (fun i s=>s=(i:Int)∧∀q,q<i→D8 J q=none) ⟨rfl,fun q am=>by omega⟩ (by omega) ?_ ?_
  ·rintro i s hi ⟨rfl,K⟩;unfold JU;have U:i<J.2.length:=by omega
   have O:J.1.getD i []=J.1[i]:=Ee hi;have g2:J.2.getD i []=J.2[i]:=Ee U;have n1:=V.n1 _ (List.getElem_mem hi);have n2:=V.n2 _ (List.getElem_mem U);refine Br (by omega) ?_;refine Bl (m:=i) rfl hi ?_;refine Bn (fun h=>?_) (fun av=>?_)
   ·exact Ak (.inl ⟨(7,(i:Int)),rfl,DY K (by unfold D8;rw [O,if_pos (by omega)]) hi⟩)
   refine Bn (fun h=>?_) (fun a0=>?_)
   ·exact Ak (.inl ⟨(6,(i:Int)),rfl,DY K (by unfold D8;rw [O,if_neg (by omega),if_pos (by omega)]) hi⟩)
   refine AD (Q3 Z (by omega) (by omega)) ?_;intro e he;refine Bn (fun h=>?_) (fun h=>?_)
   ·obtain⟨c,rfl⟩:=Option.isSome_iff_exists.1 h;refine Ak (.inl ⟨c,rfl,DY K ?_ hi⟩);unfold D8;rw [O,if_neg (by omega),if_neg (by omega),← he];rfl
   ·obtain rfl:e=none:=by cases e <;> simp_all
    have Y:EI J.1.length (i:Int) true J.1[i]=none:=he.symm;refine Bl (m:=i) rfl U ?_;refine Bn (fun h=>?_) (fun a1=>?_)
    ·refine Ak (.inl ⟨(6,(i:Int)),rfl,DY K ?_ hi⟩);unfold D8;rw [O,g2,if_neg (by omega),if_neg (by omega),Y];simp only;rw [if_pos (by omega)]
    refine Bl (m:=i) rfl U (AD (Q3 Z (by omega) (by omega)) ?_);intro ag al;refine Bn (fun h=>?_) (fun h=>?_)
    ·obtain⟨c,rfl⟩:=Option.isSome_iff_exists.1 h;refine Ak (.inl ⟨c,rfl,DY K ?_ hi⟩);unfold D8;rw [O,g2,if_neg (by omega),if_neg (by omega),Y];simp only;rw [if_neg (by omega),← al];rfl
    ·obtain rfl:ag=none:=by cases ag <;> simp_all
     refine AV ((i+1:Nat):Int) (by simp) (by omega) (by omega) (Ak ⟨rfl,fun q am=>?_⟩);by_cases e:q=i
     ·subst e;unfold D8;rw [O,g2,if_neg (by omega),if_neg (by omega),Y];simp only;rw [if_neg (by omega),← al];rfl
     ·exact K q (by omega)
  ·rintro s ⟨rfl,K⟩;unfold JU;exact A9 (by omega) (Ak ⟨_,rfl,.inr ⟨rfl,F1 K⟩⟩)
 ·rintro q (⟨c,rfl,h⟩ | ⟨rfl,h⟩)
  ·exact Ak h.symm
  ·exact Ak h.symm
theorem MG{n:Nat}{m:Int}{b:Bool}{l:List Int}{c:Int}(h:EI n m b l=some c):c≠0:=by
 obtain⟨i,_,hi⟩:=List.exists_of_findSome?_eq_some h;unfold EK at hi;split at hi
 ·cases hi;omega
 ·split at hi
  ·cases hi;omega
  ·split at hi
   ·cases hi;omega
   ·cases hi
theorem W4{J:JW}{i:Nat}{c:Int}(h:D8 J i=some c):c≠0:=by
 unfold D8 at h;split at h
 ·cases h;omega
 ·split at h
  ·cases h;omega
  ·split at h
   ·rename_i e;cases h;exact MG e
   ·split at h
    ·cases h;omega
    ·exact MG h
theorem Tx{J:JW}{c:Int}(h:CJ J=some c):c≠0:=by
 unfold CJ at h;split at h
 ·cases h;omega
 ·split at h
  ·cases h;omega
  ·split at h
   ·cases h;omega
   ·obtain⟨i,_,hi⟩:=List.exists_of_findSome?_eq_some h;exact W4 hi
theorem XL{F:Nat}{J:JW}(ag:100<F)(V:NL J):f68 F J=some ((CJ J).getD 0):=by
 have am:=V.l1;refine CO ?_;unfold f68 CJ;refine Bn (fun h=>?_) (fun h=>?_)
 ·rw [if_pos (show J.1.length=0 by omega)];exact Ak rfl
 rw [if_neg (show ¬J.1.length=0 by omega)];refine Bn (fun h=>?_) (fun h=>?_)
 ·rw [if_pos (show 8<J.1.length by omega)];exact Ak rfl
 rw [if_neg (show ¬8<J.1.length by omega)];refine Bn (fun h=>?_) (fun h=>?_)
 ·rw [if_pos (show J.2.length≠J.1.length by omega)];exact Ak rfl
 rw [if_neg (show ¬J.2.length≠J.1.length by omega)];refine AD (S:=fun q=>(∃c,q=Sum.inl c∧(List.range J.1.length).findSome? (D8 J)=some c)∨(q=Sum.inr ()∧(List.range J.1.length).findSome? (D8 J)=none)) ?_ ?_
 ·refine Cj J.1.length (fun i s=>s=(i:Int)∧∀q,q<i→D8 J q=none) ⟨rfl,fun q al=>by omega⟩ (by omega) ?_ ?_
  ·rintro i s hi ⟨rfl,K⟩;unfold Ni;have Y:i<J.2.length:=by omega
   have U:J.1.getD i []=J.1[i]:=Ee hi;have g2:J.2.getD i []=J.2[i]:=Ee Y;have n1:=V.n1 _ (List.getElem_mem hi);have n2:=V.n2 _ (List.getElem_mem Y);refine Br (by omega) ?_;refine Bl (m:=i) rfl hi ?_;refine AO (V4 (m:=(i:Int)) ag (by omega) (by omega)) ?_;by_cases O:J.1[i].length=0
   ·rw [if_pos O];exact Br (by omega) (Ak (.inl ⟨7,rfl,DY K (by unfold D8;rw [U,if_pos O]) hi⟩))
   rw [if_neg O];by_cases c2:3<J.1[i].length
   ·rw [if_pos c2];exact Br (by omega) (Ak (.inl ⟨6,rfl,DY K (by unfold D8;rw [U,if_neg O,if_pos c2]) hi⟩))
   rw [if_neg c2];cases he:EI J.1.length (i:Int) true J.1[i] with
   | some c=>
    exact Br (MG he) (Ak (.inl ⟨c,rfl,DY K (by unfold D8;rw [U,if_neg O,if_neg c2,he]) hi⟩))
   | none=>
    refine A9 (by simp) (Bl (m:=i) rfl Y ?_);refine AO (VN (m:=(i:Int)) ag (by omega) (by omega)) ?_;by_cases c3:3<J.2[i].length
    ·rw [if_pos c3];refine Br (by omega) (Ak (.inl ⟨6,rfl,DY K ?_ hi⟩));unfold D8;rw [U,g2,if_neg O,if_neg c2,he];simp only;rw [if_pos c3]
    rw [if_neg c3];cases Z:EI J.1.length (i:Int) false J.2[i] with
    | some c=>
     refine Br (MG Z) (Ak (.inl ⟨c,rfl,DY K ?_ hi⟩));unfold D8;rw [U,g2,if_neg O,if_neg c2,he];simp only;rw [if_neg c3,Z]
    | none=>
     refine A9 (by simp) (AV ((i+1:Nat):Int) (by simp) (by omega) (by omega) ?_);refine Ak ⟨rfl,fun q al=>?_⟩;by_cases e:q=i
     ·subst e;unfold D8;rw [U,g2,if_neg O,if_neg c2,he];simp only;rw [if_neg c3,Z]
     ·exact K q (by omega)
  ·rintro s ⟨rfl,K⟩;unfold Ni;exact A9 (by omega) (Ak ⟨_,rfl,.inr ⟨rfl,F1 K⟩⟩)
 ·rintro q (⟨c,rfl,h⟩ | ⟨rfl,h⟩)
  ·exact Ak (by rw [h];rfl)
  ·exact Ak (by rw [h];rfl)
theorem Qn{n:Nat}{m:Int}{b:Bool}{l:List Int}(h:EI n m b l=none):HH n l∧l.Pairwise (·<·)∧(b=false→m ∉ l):=by
 have K:∀i (hi:i<l.length),¬(l[i]<0∨(n:Int) - 1<l[i])∧¬(l[i]=m∧b=false)∧¬(0<i∧l[i]≤l.getD (i - 1) 0):=fun i hi=>by
  have:=List.findSome?_eq_none_iff.1 h i (List.mem_range.2 hi);unfold EK at this;rw [Ee hi] at this;split at this
  ·cases this
  ·split at this
   ·cases this
   ·split at this
    ·cases this
    ·rename_i U V Y;exact⟨U,V,Y⟩
 refine⟨fun x Z=>?_,?_,fun hb hm=>?_⟩
 ·obtain⟨i,hi,rfl⟩:=List.mem_iff_getElem.1 Z;have:=(K i hi).1;omega
 ·have step:∀i (hi:i+1<l.length),l[i]<l[i+1]:=fun i hi=>by
   have:=(K (i+1) hi).2.2;rw [show i+1 - 1=i by omega,Ee (by omega)] at this;omega
  rw [List.pairwise_iff_getElem];intro i j hi ap av;have key:∀k (O:i+1+k<l.length),l[i]<l[i+1+k]:=fun k=>by
   induction k with
   | zero=>intro O;exact step i O
   | succ k ag=>intro O;have al:=ag (by omega);have am:=step (i+1+k) (by omega);exact Int.lt_trans al am
  have:=key (j - i - 1) (by omega);simpa [show i+1+(j - i - 1)=j by omega] using this
 ·obtain⟨i,hi,e⟩:=List.mem_iff_getElem.1 hm;exact(K i hi).2.1 ⟨e,hb⟩
theorem Wv{J:JW}(h:CJ J=none):VJ J.1.length J:=by
 unfold CJ at h;split at h
 ·cases h
 rename_i av;split at h
 ·cases h
 rename_i a0;split at h
 ·cases h
 rename_i a1;have O:∀i,i<J.1.length→(J.1.getD i []).length≠0∧(J.1.getD i []).length≤3∧EI J.1.length i true (J.1.getD i [])=none∧(J.2.getD i []).length≤3∧EI J.1.length i false (J.2.getD i [])=none:=fun i hi=>by
  have:=List.findSome?_eq_none_iff.1 h i (List.mem_range.2 hi);unfold D8 at this;split at this
  ·cases this
  ·split at this
   ·cases this
   ·split at this
    ·cases this
    ·rename_i ag a2 _ al;split at this
     ·cases this
     ·rename_i a3;exact⟨ag,by omega,al,by omega,this⟩
 refine⟨by omega,by omega,rfl,by omega,fun i l K=>?_,fun i l K=>?_⟩
 ·have hi:=(List.getElem?_eq_some_iff.1 K).1;obtain⟨am,U,V,_,_⟩:=O i hi;have e:J.1.getD i []=l:=by rw [List.getD_eq_getElem?_getD,K];rfl
  rw [e] at am U V;obtain⟨v1,v2,_⟩:=Qn V;exact⟨⟨U,v1,v2⟩,by omega⟩
 ·have hi:i<J.1.length:=by have:=(List.getElem?_eq_some_iff.1 K).1;omega
  obtain⟨_,_,_,Y,Z⟩:=O i hi;have e:J.2.getD i []=l:=by rw [List.getD_eq_getElem?_getD,K];rfl
  rw [e] at Y Z;obtain⟨v1,v2,ap⟩:=Qn Z;exact⟨⟨Y,v1,v2⟩,ap rfl⟩
end Pal
namespace Pal
theorem Xk{F n a m:Nat}{J:JW}{due K:List Bool}(a3:100<F)(V:VJ n J)(a0:H4 J n a due)(hm:m<n)(ag:K.length=n):
  AZ (iter (JN F J due (K,(m:Int))) F (K,0)) (fun r=>r.length=n∧∀x:Nat,x<n→(r[x]? =some true↔K[x]? =some true∨((AG J a).testBit m=true∧(x:Int)∈J.1.getD m []))):=by
 have a4:=V.l1;have a5:=V.le;have O:m<J.1.length:=by omega
 obtain⟨al,a6⟩:=V.nx m _ (List.getElem?_eq_getElem O);have hlen:=al.len;have a1:J.1.getD m []=J.1[m]:=Ee O;have am:=a0.2 m hm;cases ap:(AG J a).testBit m with
 | false=>
  refine Cj 0 (fun i st=>st=(K,0)) rfl (by omega) (fun i st hi=>by omega) ?_;rintro st rfl;unfold JN;refine Bl (m:=m) rfl O (AD (S:=fun c=>c=false) ?_ ?_)
  ·refine Bn (fun h=>?_) (fun h=>Ak rfl);exact AO (DC (m:=m) rfl am) (Ak ap)
  ·rintro c rfl;refine A9 (by simp) (Ak ⟨_,rfl,ag,fun x U=>?_⟩);simp
 | true=>
  refine Cj J.1[m].length (fun i st=>∃nx:List Bool,st=(nx,(i:Int))∧nx.length=n∧∀x:Nat,x<n→(nx[x]? =some true↔K[x]? =some true∨(x:Int)∈J.1[m].take i)) ⟨K,rfl,ag,fun x U=>by simp⟩ (by omega) ?_ ?_
  ·rintro i st hi ⟨nx,rfl,Y,Z⟩;unfold JN;refine Bl (m:=m) rfl O (AD (S:=fun c=>c=true) ?_ ?_)
   ·refine Br (by simp only;omega) (AO (DC (m:=m) rfl am) ?_);exact Ak ap
   ·rintro c rfl;refine Br rfl (Bl (m:=m) rfl O ?_);refine Bl (m:=i) rfl hi ?_;have U:=al.inr J.1[m][i] (List.getElem_mem hi);have av:J.1[m][i].toNat<nx.length:=by omega
    refine Bl (m:=J.1[m][i].toNat) (show J.1[m][i]=_ by omega) av (AV ((i+1:Nat):Int) (by simp) (by omega) (by omega) ?_);refine Ak ⟨nx.set J.1[m][i].toNat true,rfl,by simpa using Y,fun x a2=>?_⟩;rw [V5 av,Z x a2,List.take_add_one,List.getElem?_eq_getElem hi];simp only [Option.toList_some,List.mem_append,List.mem_singleton];rw [or_assoc];refine or_congr Iff.rfl (or_congr Iff.rfl ⟨fun h=>by omega,fun h=>by omega⟩)
  ·rintro st ⟨nx,rfl,Y,Z⟩;unfold JN;refine Bl (m:=m) rfl O (AD (S:=fun c=>c=false) (A9 (by simp) (Ak rfl)) ?_);rintro c rfl;refine A9 (by simp) (Ak ⟨_,rfl,Y,fun x U=>?_⟩);rw [Z x U,List.take_length,a1];simp
theorem XO{F n a:Nat}{J:JW}{due:List Bool}(ag:100<F)(Y:VJ n J)(Z:H4 J n a due):AZ (f119 F J due) (H4 J n (a+1)):=by
 have a2:=Y.le;have al:=Z.1;unfold f119;refine AO (b:=List.replicate n false) ?_ ?_
 ·unfold F4;rw [if_pos (by omega),al];rfl
 refine AD (S:=H4 J n (a+1)) ?_ (fun r am=>Ak am);refine Cj n (fun k st=>∃nx:List Bool,st=(nx,(k:Int))∧PL J n a k nx) ⟨_,rfl,by simp,fun x U=>?_⟩ (by omega) ?_ ?_
 ·rw [List.getElem?_replicate,if_pos U];simp
 ·rintro k st ap ⟨nx,rfl,V⟩;unfold MD;refine Br (by simp only;omega) (AD (Xk (m:=k) ag Y Z ap V.1) ?_);rintro av ⟨a0,g2⟩;refine AV ((k+1:Nat):Int) (by simp) (by omega) (by omega) (Ak ⟨av,rfl,a0,fun x U=>?_⟩);rw [g2 x U,V.2 x U];constructor
  ·rintro(⟨m,a1,K,O⟩ | ⟨K,O⟩)
   ·exact⟨m,by omega,K,O⟩
   ·exact⟨k,by omega,K,O⟩
  ·rintro⟨m,a1,K,O⟩;rcases Nat.lt_or_ge m k with h | h
   ·exact .inl ⟨m,h,K,O⟩
   ·obtain rfl:m=k:=by omega
    exact .inr ⟨K,O⟩
 ·rintro st ⟨nx,rfl,V⟩;unfold MD;exact A9 (by simp only;omega) (Ak ⟨_,rfl,V.due Y⟩)
theorem bl{n:Nat}{J:JW}(K:0<n):H4 J n 0 ((List.replicate n false).set 0 true):=by
 refine⟨by simp,fun m hm=>?_⟩;by_cases e:m=0
 ·subst e;rw [List.getElem?_set_self (by simpa using hm)];exact congrArg some (show true=(1:Nat).testBit 0 by decide)
 ·rw [List.getElem?_set_ne (by omega),List.getElem?_replicate,if_pos hm];have:(AG J 0).testBit m=false:=by
   show(1:Nat).testBit m=false;have:=Nat.testBit_two_pow_of_ne (n:=0) (m:=m) (by omega);simpa using this
  rw [this]
theorem S7{F n a:Nat}{J:JW}(V:100<F)(K:VJ n J)(al:a<13):AZ (f82 F J (a:Int)) (H4 J n a):=by
 have am:=K.le;have U:=K.pos;have Y:=K.l1;unfold f82;refine AO (b:=List.replicate n false) ?_ ?_
 ·unfold F4;rw [if_pos (by omega),Y];rfl
 refine Bl (m:=0) rfl (by simpa using U) (AD (S:=H4 J n a) ?_ (fun r Z=>Ak Z));refine Cj a (fun i st=>∃d:List Bool,st=(d,(i:Int))∧H4 J n i d) ⟨_,rfl,bl U⟩ (by omega) ?_ ?_
 ·rintro i st hi ⟨d,rfl,O⟩;unfold MY;refine Br (by simp only;omega) (AD (XO V K O) ?_);intro d2 ag;exact AV ((i+1:Nat):Int) (by simp) (by omega) (by omega) (Ak ⟨d2,rfl,ag⟩)
 ·rintro st ⟨d,rfl,O⟩;unfold MY;exact A9 (by simp) (Ak ⟨_,rfl,O⟩)
theorem S2{F:Nat}{l:List (List Int)}(ag:100<F)(al:l.length≤20)(U:∀x∈l,x.length≤20):f77 F l=some l:=by
 refine CO ?_;unfold f77;refine AO (b:=List.replicate l.length []) ?_ ?_
 ·unfold F4;rw [if_pos (by omega)];rfl
 refine AD (S:=fun r=>r=l) ?_ (fun r V=>Ak V);refine Cj l.length (fun i s=>s.2=(i:Int)∧s.1=l.take i++List.replicate (l.length - i) []) ⟨rfl,by simp⟩ (by omega) ?_ ?_
 ·rintro i ⟨o,c⟩ hi ⟨K,O⟩;simp only at K O;subst K;subst O;unfold MZ;refine Br (by simp only;omega) (Bl (m:=i) rfl hi ?_);refine AO (b:=l[i]) ?_ ?_
  ·unfold f108;have:De ([]:List Int) l[i]=some l[i]:=by unfold De;rw [if_pos (by have:=U _ (List.getElem_mem hi);simp;omega)];rfl
   rw [this];rfl
  have Y:(l.take i).length=i:=by rw [List.length_take];omega
  refine Bl (m:=i) rfl (by simp;omega) (AV ((i+1:Nat):Int) (by simp) (by omega) (by omega) ?_);refine Ak ⟨rfl,?_⟩;simp only;rw [show Int.toNat (i:Int)=i by omega,List.set_append,if_neg (by omega),Y,Nat.sub_self];obtain⟨k,Z⟩:∃k,l.length - i=k+1:=⟨l.length - i - 1,by omega⟩;rw [Z,List.replicate_succ,List.set_cons_zero,List.take_add_one,List.getElem?_eq_getElem hi,show l.length - (i+1)=k by omega];simp only [Option.toList_some,List.append_assoc,List.cons_append,List.nil_append]
 ·rintro⟨o,c⟩ ⟨K,O⟩;simp only at K O;subst K;subst O;unfold MZ;exact A9 (by simp) (Ak ⟨_,rfl,by simp⟩)
theorem Zz{F:Nat}{J:JW}(O:100<F)(K:NL J):f26 F J=some J:=by
 unfold f26;rw [S2 O K.l1 K.n1,Option.bind_some,S2 O K.l2 K.n2];rfl
theorem Sw{F:Nat}{l:List Int}(K:100<F)(O:l.length≤20):f32 F l l=some true:=by
 refine CO ?_;unfold f32;refine AD (S:=fun q=>q=Sum.inr ()) ?_ (by rintro q rfl;exact Ak (by simp));refine Cj l.length (fun i s=>s=(i:Int)) rfl (by omega) ?_ ?_
 ·rintro i s hi rfl;unfold Ns;refine AD (S:=fun c=>c=true) (Br (by omega) (Ak (decide_eq_true (by omega)))) ?_;rintro c rfl;refine Br rfl (Bl (m:=i) rfl hi ?_);refine Bl (m:=i) rfl hi (A9 (by simp) ?_);exact AV ((i+1:Nat):Int) (by simp) (by omega) (by omega) (Ak rfl)
 ·rintro s rfl;unfold Ns;refine AD (S:=fun c=>c=false) (A9 (by omega) (Ak rfl)) ?_;rintro c rfl;exact A9 (by simp) (Ak ⟨_,rfl,rfl⟩)
theorem SP{F:Nat}{l:List (List Int)}(K:100<F)(U:l.length≤20)(O:∀x∈l,x.length≤20):f84 F l l=some true:=by
 refine CO ?_;unfold f84;refine AD (S:=fun q=>q=Sum.inr ()) ?_ (by rintro q rfl;exact Ak (by simp));refine Cj l.length (fun i s=>s=(i:Int)) rfl (by omega) ?_ ?_
 ·rintro i s hi rfl;unfold Nl;refine AD (S:=fun c=>c=true) (Br (by omega) (Ak (decide_eq_true (by omega)))) ?_;rintro c rfl;refine Br rfl (Bl (m:=i) rfl hi ?_);refine Bl (m:=i) rfl hi (AO (Sw K (O _ (List.getElem_mem hi))) ?_);refine A9 (by simp) (AV ((i+1:Nat):Int) (by simp) (by omega) (by omega) ?_);exact Ak rfl
 ·rintro s rfl;unfold Nl;refine AD (S:=fun c=>c=false) (A9 (by omega) (Ak rfl)) ?_;rintro c rfl;exact A9 (by simp) (Ak ⟨_,rfl,rfl⟩)
theorem ZL{F:Nat}{J:JW}(O:100<F)(K:NL J):f33 F J J=some true:=by
 refine CO ?_;unfold f33;refine AO (SP O K.l1 K.n1) (AD (S:=fun c=>c=true) (Br rfl (AO (SP O K.l2 K.n2) (Ak rfl))) ?_);rintro c rfl;exact Ak rfl
theorem VJ.nl{n:Nat}{J:JW}(K:VJ n J):NL J:=by
 have U:=K.l1;have V:=K.l2;have Y:=K.le;refine⟨by omega,by omega,fun l O=>?_,fun l O=>?_⟩
 ·obtain⟨i,hi,rfl⟩:=List.mem_iff_getElem.1 O;have:=(K.nx i _ (List.getElem?_eq_getElem hi)).1.len;omega
 ·obtain⟨i,hi,rfl⟩:=List.mem_iff_getElem.1 O;have:=(K.fl i _ (List.getElem?_eq_getElem hi)).1.len;omega
theorem Ss{F:Nat}{l:List (List Int)}(Z:100<F):AZ (f76 F l) (fun r=>r=false→l.length≤20∧∀x∈l,x.length≤20):=by
 unfold f76;refine AD (S:=fun q=>q=Sum.inl true∨(q=Sum.inr ()∧∀x∈l.take 20,x.length≤20)) ?_ ?_
 ·refine Cj (min l.length 20) (fun i s=>s=(i:Int)∧∀x∈l.take i,x.length≤20) ⟨rfl,by simp⟩ (by omega) ?_ ?_
  ·rintro i s hi ⟨rfl,O⟩;have U:i<l.length:=by omega
   unfold M9;refine AD (S:=fun c=>c=true) (Br (by omega) (Ak (decide_eq_true (by omega)))) ?_;rintro c rfl;refine Br rfl (Bl (m:=i) rfl U ?_);refine Bn (fun h=>Ak (.inl rfl)) (fun h=>?_);refine AV ((i+1:Nat):Int) (by simp) (by omega) (by omega) (Ak ⟨rfl,fun x K=>?_⟩);rw [List.take_add_one,List.getElem?_eq_getElem U] at K;simp only [Option.toList_some,List.mem_append,List.mem_singleton] at K;rcases K with K | rfl
   ·exact O x K
   ·omega
  ·rintro s ⟨rfl,O⟩;unfold M9;refine AD (S:=fun c=>c=false) (Bn (fun h=>Ak (decide_eq_false (by omega))) (fun _=>Ak rfl)) ?_;rintro c rfl;refine A9 (by simp) (Ak ⟨_,rfl,.inr ⟨rfl,fun x K=>O x ?_⟩⟩);rcases Nat.lt_or_ge l.length 20 with h | h
   ·rw [Nat.min_eq_left (by omega),List.take_length];exact List.mem_of_mem_take K
   ·rw [Nat.min_eq_right h];exact K
 ·rintro q (rfl | ⟨rfl,h⟩)
  ·exact Ak fun h=>by cases h
  ·refine Ak fun Y=>?_;have:=of_decide_eq_false Y;have V:l.length≤20:=by omega
   rw [List.take_of_length_le V] at h;exact⟨V,h⟩
theorem YH{F:Nat}{J:JW}(O:100<F):AZ (f21 F J) (fun r=>r=false→NL J):=by
 unfold f21;refine AD (Ss O) ?_;intro r U;refine AD (S:=fun c=>c=false→NL J) ?_ (fun c V=>Ak V);refine Bn (fun h=>Ak fun K=>(by cases K)) (fun h=>?_);obtain⟨Y,g2⟩:=U (by simpa using h);refine AD (Ss O) ?_;intro q Z;refine Ak fun K=>?_;obtain⟨ag,al⟩:=Z K;exact⟨Y,ag,g2,al⟩
theorem ZM{F k:Nat}{b:EB}{J:JW}(O:100<F)(Z:NL J)(hb:BG k b)(U:k<100):AZ (f24 F J b) (fun r=>(∃n K,VJ n K∧r.1= [J,K,K])∧BG (k+301) r.2):=by
 unfold f24;refine AD (ZW (mx:=7) O hb U (by omega) (by omega)) ?_;rintro⟨K,ag⟩ ⟨⟨n,_,V⟩,Y⟩;exact Ak ⟨⟨n,K,V,rfl⟩,Y⟩
end Pal
namespace Pal
theorem QS(F:Nat)(e:Option (Int×Int)):Ll F e=some ((e.map (·.1)).getD 0):=by
 cases e with
 | none=>
  have:=Qa F;unfold Li at this;exact this
 | some q=>rfl
theorem Uh{s n:Nat}(h:s<2 ^ n)(d:Nat):Ck s (n+d)=Ck s n:=by
 induction d with
 | zero=>rfl
 | succ d K=>
  rw [← Nat.add_assoc,Oe,if_neg,K];have:s<2 ^ (n+d):=Nat.lt_of_lt_of_le h (Nat.pow_le_pow_right (by omega) (by omega));rw [Nat.testBit_lt_two_pow this];decide
def EV(n:Nat)(lk:List (Int×Int))(i:Nat):Option Int:=
 if(lk.getD i (0,0)).1<0∨6<(lk.getD i (0,0)).1 then some 1 else if 0<i∧(lk.getD i (0,0)).1<(lk.getD (i - 1) (0,0)).1 then some 5 else if(lk.getD i (0,0)).2<0∨(n:Int) - 1<(lk.getD i (0,0)).2 then some 3 else none
def Ha(n:Nat)(lk:List (Int×Int)):Option Int:=if 4<lk.length then some 6 else(List.range lk.length).findSome? (EV n lk)
def CL(J:JW)(lk:List (Int×Int)):Int:=match CJ J with | some c=>c | none=>(Ha J.1.length lk).getD 0
theorem VQ{F:Nat}{J:JW}{lk:List (Int×Int)}(am:100<F)(ap:J.1.length<100):AZ (f116 F J lk) (fun e=>e.map (·.1)=Ha J.1.length lk):=by
 unfold f116 Ha;refine Bn (fun h=>?_) (fun h=>?_)
 ·rw [if_pos (by omega)];exact Ak rfl
 rw [if_neg (by omega)];refine AD (S:=fun q=>(∃c,q=Sum.inl (some c)∧(List.range lk.length).findSome? (EV J.1.length lk)=some c.1)∨(q=Sum.inr ()∧(List.range lk.length).findSome? (EV J.1.length lk)=none)) ?_ ?_
 ·refine Cj lk.length (fun i s=>s=(i:Int)∧∀q,q<i→EV J.1.length lk q=none) ⟨rfl,fun q al=>by omega⟩ (by omega) ?_ ?_
  ·rintro i s hi ⟨rfl,K⟩;unfold JV;have hg:lk.getD i (0,0)=lk[i]:=Ee hi;refine Br (by omega) (Bl (m:=i) rfl hi ?_);refine AO (I0 F _ _ _) (Bn (fun h=>?_) (fun h=>?_))
   ·have O:=of_decide_eq_true h;exact Ak (.inl ⟨(1,(i:Int)),rfl,DY K (by unfold EV;rw [hg,if_pos O]) hi⟩)
   have O:¬(lk[i].1<0∨6<lk[i].1):=fun x=>h (decide_eq_true x);refine AD (S:=fun c=>c=decide (0<i∧lk[i].1<(lk.getD (i - 1) (0,0)).1)) ?_ ?_
   ·refine Bn (fun U=>?_) (fun U=>?_)
    ·have ag:i - 1<lk.length:=by omega
     refine AV ((i - 1:Nat):Int) (by omega) (by omega) (by omega) (Bl (m:=i - 1) rfl ag ?_);refine Ak ?_;rw [Ee ag];exact decide_eq_decide.2 ⟨fun x=>⟨by omega,x⟩,fun x=>x.2⟩
    ·exact Ak (decide_eq_false (by omega)).symm
   ·rintro c rfl;refine Bn (fun U=>?_) (fun U=>?_)
    ·have V:=of_decide_eq_true U;exact Ak (.inl ⟨(5,(i:Int)),rfl,DY K (by unfold EV;rw [hg,if_neg O,if_pos V]) hi⟩)
    have V:¬(0<i∧lk[i].1<(lk.getD (i - 1) (0,0)).1):=fun x=>U (decide_eq_true x);refine AV ((J.1.length:Int) - 1) rfl (by omega) (by omega) ?_;refine AO (I0 F _ _ _) ?_;refine Bn (fun Y=>?_) (fun Y=>?_)
    ·have Z:=of_decide_eq_true Y;exact Ak (.inl ⟨(3,(i:Int)),rfl,DY K (by unfold EV;rw [hg,if_neg O,if_neg V,if_pos Z]) hi⟩)
    have Z:¬(lk[i].2<0∨(J.1.length:Int) - 1<lk[i].2):=fun x=>Y (decide_eq_true x);refine AV ((i+1:Nat):Int) (by simp) (by omega) (by omega) ?_;refine Ak ⟨rfl,fun q al=>?_⟩;by_cases e:q=i
    ·subst e;unfold EV;rw [hg,if_neg O,if_neg V,if_neg Z]
    ·exact K q (by omega)
  ·rintro s ⟨rfl,K⟩;unfold JV;exact A9 (by omega) (Ak ⟨_,rfl,.inr ⟨rfl,F1 K⟩⟩)
 ·rintro q (⟨c,rfl,h⟩ | ⟨rfl,h⟩)
  ·exact Ak h.symm
  ·exact Ak h.symm
theorem OA{F:Nat}{J:JW}{lk:List (Int×Int)}(K:100<F)(O:NL J):Hz F J lk=some (CL J lk):=by
 have Y:=O.l1;refine CO ?_;unfold Hz CL;refine AD (Wu K O) ?_;intro e he;rw [← he];cases e with
 | some q=>
  exact Br rfl (AO (QS F _) (Ak rfl))
 | none=>
  refine A9 (by simp) (AD (VQ K (by omega)) ?_);intro U V;refine AO (QS F _) (Ak ?_);show(U.map (·.1)).getD 0=(Ha J.1.length lk).getD 0;rw [V]
theorem XU{F:Nat}{J:JW}{lk:List (Int×Int)}(am:100<F)(ag:NL J):f70 F J lk=some (CL J lk):=by
 have av:=ag.l1;refine CO ?_;unfold f70 CL;refine AO (XL am ag) ?_;cases h:CJ J with
 | some c=>exact Br (Tx h) (Ak rfl)
 | none=>
  refine A9 (by simp) ?_;unfold Ha;refine Bn (fun h=>?_) (fun h=>?_)
  ·simp only;rw [if_pos (by omega)];exact Ak rfl
  simp only;rw [if_neg (show ¬4<lk.length by omega)];refine AD (S:=fun q=>(∃c,q=Sum.inl c∧(List.range lk.length).findSome? (EV J.1.length lk)=some c)∨(q=Sum.inr ()∧(List.range lk.length).findSome? (EV J.1.length lk)=none)) ?_ ?_
  ·refine Cj lk.length (fun i s=>s=(i:Int)∧∀q,q<i→EV J.1.length lk q=none) ⟨rfl,fun q ap=>by omega⟩ (by omega) ?_ ?_
   ·rintro i s hi ⟨rfl,K⟩;unfold Nv;have hg:lk.getD i (0,0)=lk[i]:=Ee hi;refine Br (by omega) (Bl (m:=i) rfl hi ?_);refine AO (MN F _ _ _) (Bn (fun h=>?_) (fun h=>?_))
    ·have O:lk[i].1<0∨6<lk[i].1:=by simp at h;omega
     exact Ak (.inl ⟨1,rfl,DY K (by unfold EV;rw [hg,if_pos O]) hi⟩)
    have O:¬(lk[i].1<0∨6<lk[i].1):=by simp at h;omega
    refine AD (S:=fun c=>c=decide (0<i∧lk[i].1<(lk.getD (i - 1) (0,0)).1)) ?_ ?_
    ·refine Bn (fun U=>?_) (fun U=>?_)
     ·have al:i - 1<lk.length:=by omega
      refine Bl (m:=i) rfl hi (AV ((i - 1:Nat):Int) (by omega) (by omega) (by omega) ?_);refine Bl (m:=i - 1) rfl al (Ak ?_);rw [Ee al];exact decide_eq_decide.2 ⟨fun x=>⟨by omega,x⟩,fun x=>x.2⟩
     ·exact Ak (decide_eq_false (by omega)).symm
    ·rintro c rfl;refine Bn (fun U=>?_) (fun U=>?_)
     ·have V:=of_decide_eq_true U;exact Ak (.inl ⟨5,rfl,DY K (by unfold EV;rw [hg,if_neg O,if_pos V]) hi⟩)
     have V:¬(0<i∧lk[i].1<(lk.getD (i - 1) (0,0)).1):=fun x=>U (decide_eq_true x);refine Bl (m:=i) rfl hi ?_;refine AV ((J.1.length:Int) - 1) rfl (by omega) (by omega) ?_;refine AO (MN F _ _ _) ?_;refine Bn (fun Y=>?_) (fun Y=>?_)
     ·have Z:lk[i].2<0∨(J.1.length:Int) - 1<lk[i].2:=by simp at Y;omega
      exact Ak (.inl ⟨3,rfl,DY K (by unfold EV;rw [hg,if_neg O,if_neg V,if_pos Z]) hi⟩)
     have Z:¬(lk[i].2<0∨(J.1.length:Int) - 1<lk[i].2):=by simp at Y;omega
     refine AV ((i+1:Nat):Int) (by simp) (by omega) (by omega) (Ak ⟨rfl,fun q ap=>?_⟩);by_cases e:q=i
     ·subst e;unfold EV;rw [hg,if_neg O,if_neg V,if_neg Z]
     ·exact K q (by omega)
   ·rintro s ⟨rfl,K⟩;unfold Nv;exact A9 (by omega) (Ak ⟨_,rfl,.inr ⟨rfl,F1 K⟩⟩)
  ·rintro q (⟨c,rfl,h⟩ | ⟨rfl,h⟩)
   ·rw [h];exact Ak rfl
   ·rw [h];exact Ak rfl
theorem ah{F:Nat}{lk:List (Int×Int)}(K:100<F)(O:lk.length≤20):f34 F lk lk=some true:=by
 refine CO ?_;unfold f34;refine AD (S:=fun q=>q=Sum.inr ()) ?_ (by rintro q rfl;exact Ak (by simp));refine Cj lk.length (fun i s=>s=(i:Int)) rfl (by omega) ?_ ?_
 ·rintro i s hi rfl;unfold Nb;refine AD (S:=fun c=>c=true) (Br (by omega) (Ak (decide_eq_true (by omega)))) ?_;rintro c rfl;refine Br rfl (Bl (m:=i) rfl hi ?_);refine Bl (m:=i) rfl hi (A9 (by simp) ?_);exact AV ((i+1:Nat):Int) (by simp) (by omega) (by omega) (Ak rfl)
 ·rintro s rfl;unfold Nb;refine AD (S:=fun c=>c=false) (A9 (by omega) (Ak rfl)) ?_;rintro c rfl;exact A9 (by simp) (Ak ⟨_,rfl,rfl⟩)
theorem ZN{F:Nat}{lk:List (Int×Int)}(K:lk.length<1000):f27 F lk=some lk:=by
 unfold f27 De;rw [if_pos (by simp;omega)]
 rfl
end Pal
namespace Pal
open Go Go.Conc
theorem O6{P:Program}{J:Judge P}{Q:Goroutine→St→Prop}{b:Frame}{n:Nat}{ds:List Deferred}{ops:Array Oper}{k:List Item}{cs:List Frame}{m fuel:Nat}{D:Nat→Bool}{listed:Array Bool}{L L':Env}{s:St}(k':AX J Q b n ds ops k cs m D fuel listed L' s)(h:G2 L L'=G6 L'):AX J Q b n ds ops k cs m D fuel listed L s:=CE (M7 h) k'
def HG{α:Type}(p:Rp α):Rp (List α):=⟨1,fun E ws xs=>(xs= []∧ws= [.slice none 0 0])∨(xs≠ []∧(rL p).r E ws xs),
 fun hle h=>h.imp id fun h=>⟨h.1,(rL p).Ah hle h.2⟩,fun h=>by
  rcases h with⟨_,rfl⟩ | ⟨_,h⟩
  ·rfl
  ·exact(rL p).len h,fun h w hw=>by
  rcases h with⟨_,rfl⟩ | ⟨_,h⟩
  ·simp at hw;subst hw;rfl
  ·exact(rL p).one h w hw⟩
theorem Sv{α:Type}{p:Rp α}{E:LH}{ws:List Value}{xs:List α}(h:(HG p).r E ws xs):(rL p).r E ws xs:=by
 rcases h with⟨rfl,rfl⟩ | ⟨_,h⟩
 ·exact⟨none,0,rfl,Am.nil⟩
 ·exact h
theorem Am.bx{α:Type}{p:Rp α}{E:LH}{a:Option Addr}{c:Nat}{xs:List (List α)}(h:Am (HG p) E a c xs):Am (rL p) E a c xs:=by
 obtain⟨K,h⟩:=h;refine⟨K,h.imp id ?_⟩;rintro⟨bk,off,O,U⟩;refine⟨bk,off,O,fun i x V=>?_⟩;obtain⟨ws,Y,Z⟩:=U i x V;exact⟨ws,Sv Y,Z⟩
def LC{α:Type}(xs:List α):Option Unit:=if xs= [] then some () else none
def NZ{α:Type}(xs:List α):Option Unit:=if xs= [] then none else some ()
theorem Vf{α:Type}{xs:List α}{u:Unit}(h:LC xs=some u):xs= []:=by
 unfold LC at h;split at h
 ·assumption
 ·cases h
theorem WX{α:Type}{xs:List α}{u:Unit}(h:NZ xs=some u):xs≠ []:=by
 unfold NZ at h;split at h
 ·cases h
 ·assumption
instance {α:Type} [DecidableEq α] (xs:List α):Decidable (xs= []):=inferInstance
theorem U0{f:Array Value}{y:Nat}{v w:Value}(h:y<f.size):A1 (A1 f y [v]) (y*1) [w]=A1 f y [w]:=by
 simp [A1]
theorem XJ{f:Array Value}{y:Nat}{v:Value}(h:y<f.size):(A1 f y [v])[y*1]? =some v:=by
 simp [A1,h]
theorem W9{f:Array Value}{y z:Nat}{v:Value}(h:z≠y):(A1 f y [v])[z]? =f[z]? :=by
 simp only [A1];exact Array.getElem?_setIfInBounds_ne (by omega)
theorem OL.hole{α:Type}{e:TypeId}{pp:Rp α}{E:LH}{a:Option Addr}{c:Nat}{g:Seg}{xs:List (List α)}{m:Int}{x:List α}{u:Unit}(h:OL e (HG pp) E a c g xs)(hm:ix xs m=some x)(Y:LC x=some u):
  ∃bk f,a=some ⟨bk,0,none⟩∧g= [(bk,.cells (A1 f m.toNat [.slice none 0 0]) e (0,0))]∧m.toNat<f.size∧OL e (HG pp) E (some ⟨bk,0,none⟩) c [(bk,.cells f e (0,0))] xs∧
   ∀E' x' v,Le E E'→x'≠ []→(rL pp).r E' [v] x'→OL e (HG pp) E' (some ⟨bk,0,none⟩) c [(bk,.cells (A1 f m.toNat [v]) e (0,0))] (xs.set m.toNat x'):=by
 have Z:=Vf Y;subst Z;obtain⟨K,rfl,ag⟩:=Gz hm;obtain⟨bk,f,ws,rfl,rfl,al,O,am,_⟩:=OL.get h ag;have U:(HG pp).n=1:=rfl;rw [U] at O am;have ap:ws= [.slice none 0 0]:=by
  rcases al with⟨_,h⟩ | ⟨h,_⟩
  ·exact h
  ·exact absurd rfl h
 subst ap;have av:f[K]? =some (.slice none 0 0):=by have:=O 0 _ rfl;simpa using this
 have a0:A1 f K [.slice none 0 0]=f:=by
  simp only [A1];apply Array.ext_getElem?;intro j;by_cases V:K=j
  ·subst V;rw [Array.getElem?_setIfInBounds_self_of_lt (by omega),av]
  ·rw [Array.getElem?_setIfInBounds_ne V]
 refine⟨bk,f,rfl,?_,by simp;omega,h,fun E' x' v hle a1 a2=>?_⟩
 ·rw [show((K:Int)).toNat=K by omega,a0]
 ·obtain⟨a4,_,_,_,a3⟩:=OL.again (h.Ah hle) hm (o:=K*1) (by simp [U]);have:=a3 x' [v] (.inr ⟨a1,a2⟩);simpa using this
theorem OL.beside{α:Type}{e:TypeId}{pp:Rp α}{E:LH}{bk c:Nat}{f:Array Value}{xs:List (List α)}{m z:Int}{x:List α}(h:OL e (HG pp) E (some ⟨bk,0,none⟩) c [(bk,.cells f e (0,0))] xs){Y:List α}(hm:ix xs m=some Y)(K:Au (m+1)=some z)(Z:ix xs z=some x):
  ∃O U,Am pp E O U x∧∀(v:Value) (q:Nat) w,[Value.slice O x.length U][q]? =some w→(A1 f m.toNat [v])[z.toNat*1+q]? =some w:=by
 obtain⟨ws,ag,al,_,_⟩:=OL.again h Z rfl;obtain⟨O,U,rfl,am⟩:=Sv ag;refine⟨O,U,am,fun v q w V=>?_⟩;obtain⟨ap,rfl,_⟩:=Gz hm;have av:z=(ap:Int)+1:=by
  unfold Au at K;split at K
  ·exact(Option.some.inj K).symm
  ·cases K
 cases q with
 | zero=>
  rw [W9 (by omega)];exact al 0 w V
 | succ q=>simp at V
section
variable {P:Program}{J:Judge P}{Q:Goroutine→St→Prop}{b:Frame}{n:Nat}{L L':Env}{ds:List Deferred}{k:List Item}{cs:List Frame}{s:St}{ops:Array Oper}{E H:LH}{S:List Seg}{i:Nat}{rest:List Nat}
variable {d:Option Tmp}{x y:Operand}{t u ty e:TypeId}{p:String}{af:Array Edge}{g:Option (Nat×Bool)}{v w:Value}
theorem Z1{bk o:Nat}{f:Array Value}(j:Nat)(O:o<f.size)(U:Ay E H S)(V:BE P t=some 1)(Y:EA b n L ops i=some ⟨d,.store t x y,ty,p,af,g⟩)
  (Z:ev L x=some (.pointer (some ⟨bk,o*1,none⟩))) (ag:ev L y=some v) (al:S[j]? =some [(bk,.cells (A1 f o [w]) e (0,0))]) (K:v.cells= #[v]) (am:CV v=true)
  (h:Ay E H (S.set j [(bk,.cells (A1 f o [v]) e (0,0))])→JL J Q b n (AF L d undef) ds (.inRegion ops rest::k) cs (Ao E H (S.set j [(bk,.cells (A1 f o [v]) e (0,0))]))):
  JL J Q b n L ds (.inRegion ops (i::rest)::k) cs (Ao E H S):=by
 have ap:A1 (A1 f o [w]) (o*1) v.cells.toList=A1 f o [v]:=by rw [K];exact U0 O
 refine Pp j U (by rw [K];exact V) Y Z ag al (by rw [ap];exact h) (by rw [K,Mh];simp;omega) (by rw [K];simpa using am)
end
section
variable {P:Program}{J:Judge P}{Q:Goroutine→St→Prop}{b:Frame}{n:Nat}{ds:List Deferred}{ops:Array Oper}{k:List Item}{cs:List Frame}{m fuel:Nat}{listed:Array Bool}{L:Env}{E H:LH}{S:List Seg}
variable {d:Option Tmp}{x y:Operand}{t ty e:TypeId}{p:String}{af:Array Edge}{g:Option (Nat×Bool)}{v:Value}{i:Nat}
end
end Pal
namespace Pal
open Go Go.Conc Go.Proofs
open Go.Proofs.Tryz
variable {J:Judge Tryz.prog}{E:LH}
def Lh(fuel:Nat)(p0:A2)(U:(List (List (List Int)))×Int)(V:(List (List Int))×Int)(Y:Int)(O:(List Int)×Int)(K:(List Int)×Int):Option (Bf ((List Int)×Int) ((List Int))):= (ix p0.1 V.2).bind fun Z=> if K.2<(Z.length:Int) then((ix K.1 O.2).bind fun ag=> (Au (U.2+1)).bind fun al=> (ix U.1 al).bind fun am=> (ix p0.1 V.2).bind fun ap=> (ix ap K.2).bind fun av=> (ix am av).bind fun a0=> (Au (O.2 - Y)).bind fun a1=> (ix a0 a1).bind fun a2=> (Au (ag+a2)).bind fun a3=> (ix K.1 O.2).bind fun a5=> (Au (K.2+1)).bind fun a4=> some (.more ((K.1.set (Int.toNat O.2) a3),a4))) else(some (.done K.1))
def JZ(fuel:Nat)(p0:A2)(p1:AI)(V:Int)(O:(List (List (List Int)))×Int)(Y:(List (List Int))×Int)(U:Int)(K:(List Int)×Int):Option (Bf ((List Int)×Int) ((List Int))):= if K.2≤(p1.length:Int) then(Option.bind (if O.2=V then(Option.bind (if K.2=U then((ix K.1 K.2).bind fun ap=> some (K.1.set (Int.toNat K.2) 1)) else(some K.1)) fun Z=> some Z) else(Option.bind (iter (Lh fuel p0 O Y U K) fuel (K.1,0)) fun ag=> some ag)) fun al=> (Au (K.2+1)).bind fun am=> some (.more (al,am))) else(some (.done K.1))
def Nh(fuel:Nat)(p0:A2)(p1:AI)(p2:Int)(V:Int)(O:(List (List (List Int)))×Int)(K:(List (List Int))×Int):Option (Bf ((List (List Int))×Int) ((List (List Int)))):= if K.2<(p0.1.length:Int) then((Au ((p1.length:Int)+1)).bind fun Y=> (F4 Y (0:Int)).bind fun Z=> (f118 fuel p0 p1 p2 O.2 K.2).bind fun U=> Option.bind (iter (JZ fuel p0 p1 V O K U) fuel (Z,U)) fun ag=> (room K.1 ag).bind fun al=> (Au (K.2+1)).bind fun am=> some (.more (al,am))) else(some (.done K.1))
def O5(fuel:Nat)(p0:A2)(p1:AI)(p2:Int)(U:Int)(K:(List (List (List Int)))×Int):Option (Bf ((List (List (List Int)))×Int) ((List (List (List Int))))):= if 0≤K.2 then((ix K.1 K.2).bind fun V=> (LC V).bind fun Z=> Option.bind (iter (Nh fuel p0 p1 p2 U K) fuel ([],0)) fun O=> (NZ O).bind fun ag=> (Au (K.2 - 1)).bind fun Y=> some (.more ((K.1.set (Int.toNat K.2) O),Y))) else(some (.done K.1))
def f80(fuel:Nat)(p0:A2)(p1:AI)(p2:Int):Option ((List (List (List Int)))):= (f117 fuel p1).bind fun K=> (Au (K+1)).bind fun O=> (F4 O ([]:List (List Int))).bind fun U=> Option.bind (iter (O5 fuel p0 p1 p2 K) fuel (U,K)) fun V=> some V
theorem Ty{bG:An}{c2:Nat}{cy:An}{cz:Nat}{Z:An}{ag:Nat}{p0:A2}{p1:AI}{p2:Int}(b7:Am (rL rI) E bG c2 p0.1)(db:Am (rL rI) E cy cz p0.2)(cA:Am Bo E Z ag p1){fuel:Nat}{r:(List (List (List Int)))}(cB:f80 fuel p0 p1 p2=some r):AM J 80 [.agg #[sV bG p0.1 c2,sV cy p0.2 cz],sV Z p1 ag,iV p2] E [] (fun w E' B'=>∃(cC:An) (cD:Nat),w= sV cC r cD∧B'= []∧Am (rL (rL rI)) E' cC cD r):=by
 refine A4 func80 fun Q gH cs H dc dd=>?_;unfold f80 at cB;refine zg 2 rfl (B7 dc fun al gI bv bH de=>?_);obtain⟨am,df,dg⟩:=bs cB;refine zg 5 rfl (BF (ZD (cA.Ah bv) df) rfl rfl (AR func117 rfl) de fun b8 a4 dh=>?_);obtain⟨gJ,di,dj⟩:=bs dg;refine zg 5 rfl (Bc di rfl rfl rfl ?_);obtain⟨dk,dl,dm⟩:=bs dj;refine JS.make (pp:=(HG (rL rI))) dl rfl rfl rfl rfl rfl underlying105 BP (CS type22) (by decide) (Dw type22) (by decide) (.inl ⟨rfl,rfl⟩) dh fun dn dp dq dr=>?_;obtain⟨cE,dt,du⟩:=bs dm;refine zg 8 rfl (Bp (fun L s=>∃(b9:LH) (bI:An) (bJ:Nat) (ca:Seg),Jn b8 H b9 [ca] [(8,sV bI cE bJ)] L s (OL 22 (HG (rL rI)) b9 bI bJ ca cE)) ?_ ?_)
 ·rintro _ _ ⟨b9,bI,bJ,ca,rfl,rfl,dv,dw,dx⟩;refine zg 5 rfl (B6 0 dx dw rfl fun gK dy cb dz=>?_);replace cb:=Am.bx cb;obtain rfl:=oi du;exact AA func80 rfl rfl (dd (((bv.Ac a4).Ac dv).Ac dy) rfl ⟨bI,bJ,rfl,rfl,cb⟩ dz)
 ·intro dA;refine JL.block (CP dt (fun L s K=>∃(bw:LH) (bK:An) (Y:Nat) (bL:Seg),Jn b8 H bw [bL] [(1,sV Z p1 ag),(2,iV p2),(3,pV al 0),(7,iV am),(8,sV bK K.1 Y),(9,iV K.2)] L s (OL 22 (HG (rL rI)) bw bK Y bL K.1)) ⟨b8,(AY dn),dk.length,dp,rfl,rfl,Ar,dr,dq⟩ ?_);rintro _ _ K ⟨bw,bK,Y,bL,rfl,rfl,a2,cF,cG⟩ dB ⟨gL,cc⟩ dC;have cH:=cc;unfold O5 at cH;refine zg 6 rfl (AL cH (fun dD dE=>?_) (fun dD dF=>?_))
  ·obtain⟨gM,bM,dG⟩:=bs dE;obtain⟨gN,dH,dI⟩:=bs dG;refine zg 7 rfl ?_;obtain⟨U,a9,rfl,rfl,cI,dJ,dK⟩:=OL.hole cG bM dH;obtain⟨be,dL,dM⟩:=bs dI;refine Bp (fun L s=>∃(cd:LH) (bD:An) (bE:Nat) (ce:Seg),Jn bw H cd [bX U (A1 a9 (Int.toNat K.2) [sV bD be bE]) 22,ce] [(1,sV Z p1 ag),(2,iV p2),(3,pV al 0),(7,iV am),(8,.slice (AY U) K.1.length Y),(9,iV K.2)] L s (OL 28 (rL rI) cd bD bE ce be)) ?_ ?_
   ·rintro _ _ ⟨cd,bD,bE,ce,rfl,rfl,cJ,dN,dO⟩;obtain⟨gO,dP,dQ⟩:=bs dM;refine Ma (B6 1 dO dN rfl fun dR cK dS dT=>?_);have dU:=dK _ be (sV bD be bE) (cJ.Ac cK) (WX dP) ⟨_,_,rfl,dS⟩;have dV:(K.1.set (Int.toNat K.2) be).length=K.1.length:=List.length_set;refine Gh (L':= [(1,.slice Z p1.length ag),(2,iV p2),(3,pV al 0),(7,iV am),(8,.slice (AY U) ((K.1.set (Int.toNat K.2) be)).length Y),(9,iV K.2)]) ⟨rfl,rfl,rfl,rfl,by rw [dV];rfl,rfl,trivial⟩ ?_;obtain⟨dW,dX,dY⟩:=bs dQ;refine zg 2 rfl (Cd dX rfl rfl rfl ?_);refine zg 2 rfl ?_;obtain rfl:=oi dY;exact Ax (dC _ _ ((K.1.set (Int.toNat K.2) be),dW) ⟨dR,(AY U),Y,[(U,.cells (A1 a9 (Int.toNat K.2) [sV bD be bE]) 22 (0,0))],rfl,rfl,((a2.Ac cJ).Ac cK),dT,dU⟩ cc) rfl
   ·intro dZ;refine JL.block (CP dL (fun L s V=>∃(bN:LH) (av:An) (a0:Nat) (a5:Seg),Jn bw H bN [bX U (A1 a9 (Int.toNat K.2) [sV av V.1 a0]) 22,a5] [(1,sV Z p1 ag),(2,iV p2),(3,pV al 0),(7,iV am),(8,.slice (AY U) K.1.length Y),(9,iV K.2),(10,iV V.2)] L s (OL 28 (rL rI) bN av a0 a5 V.1)) ⟨bw,none,0,[],rfl,rfl,Ar,cF,OL.nil⟩ ?_);rintro _ _ V ⟨bN,av,a0,a5,rfl,rfl,a1,cM,cN⟩ ea ⟨gP,cf⟩ eb;have cO:=cf;unfold Nh at cO;refine zg 4 rfl (JL.fl 0 (bH.Ah ((a4.Ac a2).Ac a1)) underlying24 BP Cn ?_);refine Be underlying22 rfl rfl rfl (zg 2 rfl ?_);refine AL cO (fun ec ed=>?_) (fun ec ee=>?_)
    ·refine zg 6 rfl (Be underlying25 rfl rfl rfl ?_);obtain⟨gQ,ef,eg⟩:=bs ed;refine Bc ef rfl rfl rfl ?_;obtain⟨eh,ei,ej⟩:=bs eg;refine JS.make (pp:=rI) ei rfl rfl rfl rfl rfl underlying28 AU (CS type3) (by decide) CK (by decide) rfl cM fun ek el em en=>zg 4 rfl (BQ (bH.Ah ((a4.Ac a2).Ac a1)) BX BD rfl rfl ?_);obtain⟨a6,eo,ep⟩:=bs ej;refine zg 4 rfl (BF (Tg (b7.Ah (((bv.Ac a4).Ac a2).Ac a1)) (db.Ah (((bv.Ac a4).Ac a2).Ac a1)) (cA.Ah (((bv.Ac a4).Ac a2).Ac a1)) eo) rfl rfl (AR func118 rfl) en fun cg bi eq=>?_);obtain⟨ci,er,et⟩:=bs ep;refine zg 8 rfl (Bp (fun L s=>∃(ck:LH) (bO:An) (bP:Nat) (cm:Seg),Jn cg H ck [bX U (A1 a9 (Int.toNat K.2) [sV av V.1 a0]) 22,a5,cm] [(1,sV Z p1 ag),(2,iV p2),(3,pV al 0),(7,iV am),(8,.slice (AY U) K.1.length Y),(9,iV K.2),(10,iV V.2),(11,sV bO ci bP)] L s (OL 3 rI ck bO bP cm ci)) ?_ ?_)
     ·rintro _ _ ⟨ck,bO,bP,cm,rfl,rfl,cP,cQ,eu⟩;refine zg 5 rfl (AE (v:= .pointer (some ⟨U,Int.toNat (K.2)*1,none⟩)) rfl (fun ρ h=>Jy bM underlying105 BP (h _ _ rfl) (h _ _ rfl)) ?_);refine AE (v:= sV av V.1 a0) rfl (fun ρ h=>Yl.load Cn (h _ _ rfl) (DX (j:=0) cQ rfl (XJ cI))) (zg 1 rfl ?_);refine B6 2 eu cQ rfl fun ew cR ex ey=>?_;obtain⟨ez,eA,eB⟩:=bs et;refine JS.app (pp:=(rL rI)) (v:= sV bO ci bP) (a:=av) (c:=a0) 1 eA rfl rfl rfl rfl (fun _=>rfl) rfl (fun _=>rfl) rfl rfl rfl underlying22 underlying22 underlying22 BT (CS type28) Fp rfl (by decide) (by decide) (by decide) (by decide) (cN.Ah ((bi.Ac cP).Ac cR)) ⟨_,_,rfl,ex⟩ ey rfl fun gR eC eD eE eF eG=>AE (v:= .pointer (some ⟨U,Int.toNat (K.2)*1,none⟩)) rfl (fun ρ h=>Jy bM underlying105 BP (h _ _ rfl) (h _ _ rfl)) (Z1 0 cI eG BP rfl rfl rfl rfl rfl rfl fun eH=>?_);obtain⟨eI,eJ,eK⟩:=bs eB;refine zg 4 rfl (Bc eJ rfl rfl rfl ?_);refine zg 2 rfl ?_;obtain rfl:=oi eK;exact Ax (eb _ _ (ez,eI) ⟨ew,eC,eD,eE,rfl,rfl,(((a1.Ac bi).Ac cP).Ac cR),eH,eF⟩ cf) rfl
     ·intro eL;refine JL.block (CP er (fun L s O=>∃(a3:LH) (bb:An) (bd:Nat) (bC:Seg),Jn cg H a3 [bX U (A1 a9 (Int.toNat K.2) [sV av V.1 a0]) 22,a5,bC] [(1,sV Z p1 ag),(2,iV p2),(3,pV al 0),(7,iV am),(8,.slice (AY U) K.1.length Y),(9,iV K.2),(10,iV V.2),(11,sV bb O.1 bd),(12,iV a6),(13,iV O.2)] L s (OL 3 rI a3 bb bd bC O.1)) ⟨cg,(AY ek),eh.length,el,rfl,rfl,Ar,eq,(em.Ah bi)⟩ ?_);rintro _ _ O ⟨a3,bb,bd,bC,rfl,rfl,bz,bQ,bR⟩ eM ⟨gS,cn⟩ eN;have cT:=cn;unfold JZ at cT;refine zg 5 rfl (Be underlying25 rfl rfl rfl ?_);refine zg 2 rfl (AL cT (fun eO eP=>?_) (fun eO eQ=>?_))
      ·obtain⟨co,eR,eS⟩:=bs eP;refine zg 2 rfl (Bp (fun L s=>∃(bS:LH) (bT:An) (bU:Nat) (bV:Seg),Jn a3 H bS [bX U (A1 a9 (Int.toNat K.2) [sV av V.1 a0]) 22,a5,bV] [(1,sV Z p1 ag),(2,iV p2),(3,pV al 0),(7,iV am),(8,.slice (AY U) K.1.length Y),(9,iV K.2),(10,iV V.2),(11,sV bT co bU),(12,iV a6),(13,iV O.2)] L s (OL 3 rI bS bT bU bV co)) ?_ ?_)
       ·rintro _ _ ⟨bS,bT,bU,bV,rfl,rfl,eT,eU,eV⟩;obtain⟨eW,eX,eY⟩:=bs eS;refine zg 2 rfl (Bc eX rfl rfl rfl ?_);refine zg 2 rfl ?_;obtain rfl:=oi eY;exact Ax (eN _ _ (co,eW) ⟨bS,bT,bU,bV,rfl,rfl,(bz.Ac eT),eU,eV⟩ cn) rfl
       ·intro cV;refine zg 8 rfl (AL eR (fun eZ e0=>?_) (fun eZ e1=>?_))
        ·obtain⟨cW,e2,e3⟩:=bs e0;refine zg 7 rfl (Bp (fun L s=>∃(bW:LH) (bY:An) (bZ:Nat) (b0:Seg),Jn a3 H bW [bX U (A1 a9 (Int.toNat K.2) [sV av V.1 a0]) 22,a5,b0] [(1,sV Z p1 ag),(2,iV p2),(3,pV al 0),(7,iV am),(8,.slice (AY U) K.1.length Y),(9,iV K.2),(10,iV V.2),(11,sV bY cW bZ),(12,iV a6),(13,iV O.2)] L s (OL 3 rI bW bY bZ b0 cW)) ?_ ?_)
         ·rintro _ _ ⟨bW,bY,bZ,b0,rfl,rfl,e4,e5,e6⟩;refine JL.exit rfl ?_;obtain rfl:=oi e3;exact Ax (cV _ _ ⟨bW,bY,bZ,b0,rfl,rfl,e4,e5,e6⟩) rfl
         ·intro cX;refine AL e2 (fun e7 e8=>?_) (fun e7 e9=>?_)
          ·obtain⟨gT,fa,fb⟩:=bs e8;refine zg 3 rfl (I3 2 bR fa rfl rfl rfl rfl rfl rfl underlying28 AU ?_);rintro cY cp f241 _ fc rfl gU fd fe gV gW;refine JS.store (v:=iV 1) (off:=cp) 2 rfl rfl rfl bQ rfl rfl AU (by simp [Value.cells,CV]) fc (by have:=fd;simp only [Rp.n,rK,rN,rB,rP,rL] at this;show _+1≤_;omega) fun ff=>?_;have fg:=fe (1) [iV 1] rfl;have cZ:(O.1.set (Int.toNat O.2) 1).length=O.1.length:=List.length_set;refine Gh (L':= [(1,.slice Z p1.length ag),(2,iV p2),(3,pV al 0),(7,iV am),(8,.slice (AY U) K.1.length Y),(9,iV K.2),(10,iV V.2),(11,.slice bb ((O.1.set (Int.toNat O.2) 1)).length bd),(12,iV a6),(13,iV O.2),(43,iV O.2),(44,.slice Z p1.length ag),(45,iV (p1.length:Int)),(46,.bool (decide (O.2≤(p1.length:Int)))),(49,iV K.2),(50,iV am),(51,.bool (decide (K.2=am))),(52,iV O.2),(53,iV a6),(54,.bool (decide (O.2=a6))),(55,.slice bb ((O.1.set (Int.toNat O.2) 1)).length bd),(56,iV O.2),(57,pV cY cp)]) ⟨rfl,rfl,rfl,rfl,rfl,rfl,rfl,by rw [cZ];rfl,rfl,rfl,rfl,rfl,rfl,rfl,rfl,rfl,rfl,rfl,rfl,rfl,by rw [cZ];rfl,rfl,rfl,trivial⟩ ?_;refine JL.done ?_;obtain rfl:=oi fb;exact Ax (cX _ _ ⟨a3,bb,bd,[(cY,.cells (A1 f241 cp [iV 1]) 3 (0,0))],rfl,rfl,Ar,ff,fg⟩) rfl
          ·refine JL.skip ?_;obtain rfl:=oi e9;exact Ax (cX _ _ ⟨a3,bb,bd,bC,rfl,rfl,Ar,bQ,bR⟩) rfl
        ·obtain⟨c0,fh,fj⟩:=bs e1;refine zg 5 rfl (Bp (fun L s=>∃(b1:LH) (b2:An) (b3:Nat) (b4:Seg),Jn a3 H b1 [bX U (A1 a9 (Int.toNat K.2) [sV av V.1 a0]) 22,a5,b4] [(1,sV Z p1 ag),(2,iV p2),(3,pV al 0),(7,iV am),(8,.slice (AY U) K.1.length Y),(9,iV K.2),(10,iV V.2),(11,sV b2 c0 b3),(12,iV a6),(13,iV O.2)] L s (OL 3 rI b1 b2 b3 b4 c0)) ?_ ?_)
         ·rintro _ _ ⟨b1,b2,b3,b4,rfl,rfl,fk,fm,fo⟩;refine Ma ?_;obtain rfl:=oi fj;exact Ax (cV _ _ ⟨b1,b2,b3,b4,rfl,rfl,fk,fm,fo⟩) rfl
         ·intro fp;refine JL.block (CP fh (fun L s ap=>∃(bF:LH) (b5:An) (bo:Nat) (b6:Seg),Jn a3 H bF [bX U (A1 a9 (Int.toNat K.2) [sV av V.1 a0]) 22,a5,b6] [(1,sV Z p1 ag),(2,iV p2),(3,pV al 0),(7,iV am),(8,.slice (AY U) K.1.length Y),(9,iV K.2),(10,iV V.2),(11,sV b5 ap.1 bo),(12,iV a6),(13,iV O.2),(14,iV ap.2)] L s (OL 3 rI bF b5 bo b6 ap.1)) ⟨a3,bb,bd,bC,rfl,rfl,Ar,bQ,bR⟩ ?_);rintro _ _ ap ⟨bF,b5,bo,b6,rfl,rfl,bA,a7,cq⟩ fq ⟨gX,cr⟩ fs;have c1:=cr;unfold Lh at c1;refine zg 4 rfl (JL.fl 0 (bH.Ah (((((a4.Ac a2).Ac a1).Ac bi).Ac bz).Ac bA)) underlying24 BP Cn ?_);obtain⟨ct,fu,fv⟩:=bs c1;refine zg 1 rfl (BN (b7.Ah ((((((bv.Ac a4).Ac a2).Ac a1).Ac bi).Ac bz).Ac bA)) fu underlying22 BT ?_);rintro fw fx _ ⟨fy,fz,rfl,gY⟩ fA;refine BH 0 fA CF rfl rfl rfl (Be underlying28 rfl rfl rfl ?_);refine zg 2 rfl (AL fv (fun fB fC=>?_) (fun fB fD=>?_))
          ·obtain⟨c3,c4,fE⟩:=bs fC;refine zg 3 rfl ?_;obtain⟨bB,gZ,_,rfl,rfl,rfl,fF⟩:=OL.TL cq c4;obtain⟨cu,c5,fG⟩:=bs fE;obtain⟨c6,c7,fH⟩:=bs fG;obtain⟨c8,c9,fI,fJ⟩:=OL.beside (dJ.Ah (((a1.Ac bi).Ac bz).Ac bA)) bM c5 c7;refine Dj 27 [bB,U] ⟨⟨2,_,rfl⟩,⟨0,_,rfl⟩,trivial⟩ a7 fun ht=>A0 ht rfl [0,1,2,3] rfl (BC (v:= .pointer (some ⟨bB,(Int.toNat (O.2)*1),none⟩)) 4 ht rfl rfl (fun ρ h s' hs=>Jy c4 underlying28 AU (h _ _ rfl) (h _ _ rfl)) ?_);refine BC (v:=iV c3) 5 ht rfl rfl (fun ρ h s' hs=>Yl.load Bt (h _ _ rfl) (Im 2 a7 rfl (by simp [A5]) hs (fF 0 _ rfl))) (A0 ht rfl [6,7] rfl ?_);refine BC 8 ht rfl rfl (fun ρ h s' hs=>Mz (h _ _ rfl) (h _ _ rfl) c5) (BC (v:= .pointer (some ⟨U,(Int.toNat (cu)*1),none⟩)) 9 ht rfl rfl (fun ρ h s' hs=>Jy c7 underlying105 BP (h _ _ rfl) (h _ _ rfl)) ?_);refine BC (v:= sV c8 c6 c9) 10 ht rfl rfl (fun ρ h s' hs=>Yl.load Cn (h _ _ rfl) (Im 0 a7 rfl (by simp [A5]) hs ((fJ (sV av V.1 a0)) 0 _ rfl))) (Cc 11 ht underlying24 BP rfl rfl rfl rfl ?_);refine JG.lp 12 ht 0 (bH.Ah (((((a4.Ac a2).Ac a1).Ac bi).Ac bz).Ac bA)) a7 ⟨⟨2,_,rfl⟩,⟨0,_,rfl⟩,trivial⟩ Cn ?_;refine Cb 13 ht rfl rfl ?_;obtain⟨fK,fL,fM⟩:=bs fH;refine CG 14 (b7.Ah ((((((bv.Ac a4).Ac a2).Ac a1).Ac bi).Ac bz).Ac bA)) fL ht underlying22 BT ?_;rintro fN fO _ ⟨fP,fQ,rfl,fR⟩ fS;refine JG.lp 15 ht 0 fS a7 ⟨⟨2,_,rfl⟩,⟨0,_,rfl⟩,trivial⟩ CF ?_;refine Cb 16 ht rfl rfl ?_;obtain⟨fT,fU,fW⟩:=bs fM;refine CG 17 fR fU ht underlying28 AU ?_;rintro fX fY _ rfl fZ;refine JG.lp 18 ht 0 fZ a7 ⟨⟨2,_,rfl⟩,⟨0,_,rfl⟩,trivial⟩ Bt ?_;obtain⟨ga,gb,gc⟩:=bs fW;refine CG 19 fI gb ht underlying22 BT ?_;rintro gd ge _ ⟨gf,gg,rfl,gh⟩ gi;refine JG.lp 20 ht 0 gi a7 ⟨⟨2,_,rfl⟩,⟨0,_,rfl⟩,trivial⟩ CF ?_;refine A0 ht rfl [21,22] rfl ?_;obtain⟨gj,gk,gl⟩:=bs gc;refine BC 23 ht rfl rfl (fun ρ h s' hs=>Dc (h _ _ rfl) (h _ _ rfl) gk) ?_;obtain⟨gm,gn,gp⟩:=bs gl;refine CG 24 gh gn ht underlying28 AU ?_;rintro gq gr _ rfl gt;refine JG.lp 25 ht 0 gt a7 ⟨⟨2,_,rfl⟩,⟨0,_,rfl⟩,trivial⟩ Bt ?_;obtain⟨a8,gu,gv⟩:=bs gp;refine BC 26 ht rfl rfl (fun ρ h s' hs=>Mz (h _ _ rfl) (h _ _ rfl) gu) (Co [27,28] ?_);obtain⟨g0,gw,gx⟩:=bs gv;refine I3 2 cq gw rfl rfl rfl rfl rfl rfl underlying28 AU ?_;rintro da cv gy _ gz rfl g1 gA gB g3 g4;refine JS.store (v:=iV a8) (off:=cv) 2 rfl rfl rfl a7 rfl rfl AU (by simp [Value.cells,CV]) gz (by have:=gA;simp only [Rp.n,rK,rN,rB,rP,rL] at this;show _+1≤_;omega) fun gC=>?_;have gD:=gB a8 [iV a8] rfl;have cw:(ap.1.set (Int.toNat O.2) a8).length=ap.1.length:=List.length_set;refine Gh (L':= [(1,.slice Z p1.length ag),(2,iV p2),(3,pV al 0),(7,iV am),(8,.slice (AY U) K.1.length Y),(9,iV K.2),(10,iV V.2),(11,.slice (AY bB) ((ap.1.set (Int.toNat O.2) a8)).length bo),(12,iV a6),(13,iV O.2),(14,iV ap.2),(58,iV ap.2),(59,pV al 0),(60,.slice bG p0.1.length c2),(61,iV V.2),(62,pV fw fx),(63,.slice fy ct.length fz),(64,iV (ct.length:Int)),(65,.bool (decide (ap.2<(ct.length:Int)))),(68,.slice (AY bB) ((ap.1.set (Int.toNat O.2) a8)).length bo),(69,iV O.2),(70,.slice (AY bB) ((ap.1.set (Int.toNat O.2) a8)).length bo),(71,iV O.2),(72,.pointer (some ⟨bB,(Int.toNat (O.2)*1),none⟩)),(73,iV c3),(74,.slice (AY U) K.1.length Y),(75,iV K.2),(76,iV cu),(77,.pointer (some ⟨U,(Int.toNat (cu)*1),none⟩)),(78,.slice c8 c6.length c9),(79,pV al 0),(80,.slice bG p0.1.length c2),(81,iV V.2),(82,pV fN fO),(83,.slice fP fK.length fQ),(84,iV ap.2),(85,pV fX fY),(86,iV fT),(87,pV gd ge),(88,.slice gf ga.length gg),(89,iV O.2),(90,iV a6),(91,iV gj),(92,pV gq gr),(93,iV gm),(94,iV a8),(95,pV da cv)]) ⟨rfl,rfl,rfl,rfl,rfl,rfl,rfl,by rw [cw];rfl,rfl,rfl,rfl,rfl,rfl,rfl,rfl,rfl,rfl,rfl,rfl,by rw [cw];rfl,rfl,by rw [cw];rfl,rfl,rfl,rfl,rfl,rfl,rfl,rfl,rfl,rfl,rfl,rfl,rfl,rfl,rfl,rfl,rfl,rfl,rfl,rfl,rfl,rfl,rfl,rfl,rfl,rfl,trivial⟩ ?_;obtain⟨gE,gF,gG⟩:=bs gx;refine zg 4 rfl (Bc gF rfl rfl rfl ?_);refine zg 2 rfl ?_;obtain rfl:=oi gG;exact Ax (fs _ _ ((ap.1.set (Int.toNat O.2) a8),gE) ⟨bF,(AY bB),bo,[(da,.cells (A1 gy cv [iV a8]) 3 (0,0))],rfl,rfl,bA,gC,gD⟩ cr) rfl
          ·refine JL.exit rfl ?_;obtain rfl:=oi fD;obtain rfl:=fq _ cr;exact Ax (fp _ _ ⟨bF,b5,bo,b6,rfl,rfl,bA,a7,cq⟩) rfl
      ·refine JL.exit rfl ?_;obtain rfl:=oi eQ;obtain rfl:=eM _ cn;exact Ax (eL _ _ ⟨a3,bb,bd,bC,rfl,rfl,bz,bQ,bR⟩) rfl
    ·refine JL.exit rfl ?_;obtain rfl:=oi ee;obtain rfl:=ea _ cf;exact Ax (dZ _ _ ⟨bN,av,a0,a5,rfl,rfl,a1,cM,cN⟩) rfl
  ·refine JL.exit rfl ?_;obtain rfl:=oi dF;obtain rfl:=dB _ cc;exact Ax (dA _ _ ⟨bw,bK,Y,bL,rfl,rfl,a2,cF,cG⟩) rfl
end Pal
namespace Pal
open Go Go.Conc Go.Proofs
open Go.Proofs.Tryz
variable {J:Judge Tryz.prog}{E:LH}
def La(fuel:Nat)(U:(List (List (List Int))))(V:(List Bool))(O:(List Int)×Int)(K:(List Int)×Int):Option (Bf ((List Int)×Int) ((List Int))):= Option.bind (if K.2<(K.1.length:Int) then((ix V O.2).bind fun Y=> some Y) else(some false)) fun Z=> if Z=true then((ix K.1 K.2).bind fun ag=> (ix U (0)).bind fun al=> (ix al O.2).bind fun am=> (ix am K.2).bind fun ap=> (Au (ag+ap)).bind fun av=> (ix K.1 K.2).bind fun a1=> (Au (K.2+1)).bind fun a0=> some (.more ((K.1.set (Int.toNat K.2) av),a0))) else(some (.done K.1))
def Np(fuel:Nat)(U:(List (List (List Int))))(O:(List Bool))(K:(List Int)×Int):Option (Bf ((List Int)×Int) ((List Int))):= if K.2<(O.length:Int) then(Option.bind (iter (La fuel U O K) fuel (K.1,0)) fun V=> (Au (K.2+1)).bind fun Y=> some (.more (V,Y))) else(some (.done K.1))
def M8(fuel:Nat)(p0:A2)(p1:AI)(O:(List (List (List Int))))(K:(List (List Int))×Int):Option (Bf ((List (List Int))×Int) ((List (List Int)))):= if K.2≤12 then((Au ((p1.length:Int)+1)).bind fun U=> (F4 U (0:Int)).bind fun V=> (f82 fuel p0 K.2).bind fun Y=> Option.bind (iter (Np fuel O Y) fuel (V,0)) fun Z=> (room K.1 Z).bind fun ag=> (Au (K.2+1)).bind fun al=> some (.more (ag,al))) else(some (.done K.1))
def f79(fuel:Nat)(p0:A2)(p1:AI)(p2:Int):Option ((List (List Int))):= (f80 fuel p0 p1 p2).bind fun K=> Option.bind (iter (M8 fuel p0 p1 K) fuel ([],0)) fun O=> some O
theorem Pr{b3:An}{c2:Nat}{b4:An}{b5:Nat}{Z:An}{ag:Nat}{p0:A2}{p1:AI}{p2:Int}(b6:Am (rL rI) E b3 c2 p0.1)(b7:Am (rL rI) E b4 b5 p0.2)(cw:Am Bo E Z ag p1){fuel:Nat}{r:(List (List Int))}(b8:f79 fuel p0 p1 p2=some r):AM J 79 [.agg #[sV b3 p0.1 c2,sV b4 p0.2 b5],sV Z p1 ag,iV p2] E [] (fun w E' B'=>∃(b9:An) (ca:Nat),w= sV b9 r ca∧B'= []∧Am (rL rI) E' b9 ca r):=by
 refine A4 func79 fun Q eK cs H cy cz=>?_;unfold f79 at b8;refine zg 2 rfl (B7 cy fun a2 eL a6 cb cA=>?_);refine zg 4 rfl (BQ cb BX BD rfl rfl ?_);obtain⟨av,cB,cC⟩:=bs b8;refine zg 2 rfl (BO (Ty (b6.Ah a6) (b7.Ah a6) (cw.Ah a6) cB) rfl rfl (AR func80 rfl) cA ?_);rintro _ bO _ bA ⟨a0,a1,rfl,rfl,cD⟩ cE;obtain⟨cc,cF,cG⟩:=bs cC;refine zg 11 rfl (Bp (fun L s=>∃(bP:LH) (bB:An) (bC:Nat) (bQ:Seg),Jn bO H bP [bQ] [(8,sV bB cc bC)] L s (OL 28 (rL rI) bP bB bC bQ cc)) ?_ ?_)
 ·rintro _ _ ⟨bP,bB,bC,bQ,rfl,rfl,cH,cI,cJ⟩;refine zg 5 rfl (B6 0 cJ cI rfl fun eM cK cM cN=>?_);obtain rfl:=oi cG;exact AA func79 rfl rfl (cz (((a6.Ac bA).Ac cH).Ac cK) rfl ⟨bB,bC,rfl,rfl,cM⟩ cN)
 ·intro cO;refine JL.block (CP cF (fun L s O=>∃(bD:LH) (U:An) (V:Nat) (al:Seg),Jn bO H bD [al] [(1,sV Z p1 ag),(3,pV a2 0),(7,sV a0 av a1),(8,sV U O.1 V),(9,iV O.2)] L s (OL 28 (rL rI) bD U V al O.1)) ⟨bO,none,0,[],rfl,rfl,Ar,cE,OL.nil⟩ ?_);rintro _ _ O ⟨bD,U,V,al,rfl,rfl,a7,cd,ce⟩ cP ⟨eN,bR⟩ cQ;have cf:=bR;unfold M8 at cf;refine zg 6 rfl (AL cf (fun cR cT=>?_) (fun cR cV=>?_))
  ·refine zg 6 rfl (Be underlying25 rfl rfl rfl ?_);obtain⟨eO,cW,cX⟩:=bs cT;refine Bc cW rfl rfl rfl ?_;obtain⟨cY,cZ,c0⟩:=bs cX;refine JS.make (pp:=rI) cZ rfl rfl rfl rfl rfl underlying28 AU (CS type3) (by decide) CK (by decide) rfl cd fun c1 c3 c4 c5=>zg 4 rfl (BQ (cb.Ah (bA.Ac a7)) BX BD rfl rfl ?_);obtain⟨bb,c6,c7⟩:=bs c0;refine zg 1 rfl (BO (Tm (b6.Ah ((a6.Ac bA).Ac a7)) (b7.Ah ((a6.Ac bA).Ac a7)) c6) rfl rfl (AR func82 rfl) c5 ?_);rintro _ bS _ bE ⟨bd,be,rfl,rfl,c8⟩ c9;obtain⟨bT,da,db⟩:=bs c7;refine zg 7 rfl (Bp (fun L s=>∃(bU:LH) (bF:An) (bG:Nat) (bV:Seg),Jn bS H bU [al,bV] [(1,sV Z p1 ag),(3,pV a2 0),(7,sV a0 av a1),(8,sV U O.1 V),(9,iV O.2),(10,sV bF bT bG)] L s (OL 3 rI bU bF bG bV bT)) ?_ ?_)
   ·rintro _ _ ⟨bU,bF,bG,bV,rfl,rfl,cg,dc,dd⟩;refine zg 3 rfl (B6 1 dd dc rfl fun de ci df dg=>?_);obtain⟨dh,di,dj⟩:=bs db;refine JS.app (pp:=(rL rI)) (v:= sV bF bT bG) (a:=U) (c:=V) 0 di rfl rfl rfl rfl (fun _=>rfl) rfl (fun _=>rfl) rfl rfl rfl underlying22 underlying22 underlying22 BT (CS type28) Fp rfl (by decide) (by decide) (by decide) (by decide) (ce.Ah ((bE.Ac cg).Ac ci)) ⟨_,_,rfl,df⟩ dg rfl fun eP dk dl dm dn dp=>?_;obtain⟨dq,dr,dt⟩:=bs dj;refine zg 5 rfl (Bc dr rfl rfl rfl ?_);refine zg 2 rfl ?_;obtain rfl:=oi dt;exact Ax (cQ _ _ (dh,dq) ⟨de,dk,dl,dm,rfl,rfl,(((a7.Ac bE).Ac cg).Ac ci),dp,dn⟩ bR) rfl
   ·intro du;refine JL.block (CP da (fun L s am=>∃(a3:LH) (bi:An) (bo:Nat) (bv:Seg),Jn bS H a3 [al,bv] [(1,sV Z p1 ag),(3,pV a2 0),(7,sV a0 av a1),(8,sV U O.1 V),(9,iV O.2),(10,sV bi am.1 bo),(11,sV bd bb be),(12,iV am.2)] L s (OL 3 rI a3 bi bo bv am.1)) ⟨bS,(AY c1),cY.length,c3,rfl,rfl,Ar,c9,(c4.Ah bE)⟩ ?_);rintro _ _ am ⟨a3,bi,bo,bv,rfl,rfl,bH,ck,cm⟩ dv ⟨eQ,bW⟩ dw;have cn:=bW;unfold Np at cn;refine zg 5 rfl (Be underlying68 rfl rfl rfl ?_);refine zg 2 rfl (AL cn (fun dx dy=>?_) (fun dx dz=>?_))
    ·obtain⟨bY,dA,dB⟩:=bs dy;refine zg 7 rfl (Bp (fun L s=>∃(bI:LH) (bJ:An) (bK:Nat) (bL:Seg),Jn a3 H bI [al,bL] [(1,sV Z p1 ag),(3,pV a2 0),(7,sV a0 av a1),(8,sV U O.1 V),(9,iV O.2),(10,sV bJ bY bK),(11,sV bd bb be),(12,iV am.2)] L s (OL 3 rI bI bJ bK bL bY)) ?_ ?_)
     ·rintro _ _ ⟨bI,bJ,bK,bL,rfl,rfl,dC,dD,dE⟩;obtain⟨dF,dG,dH⟩:=bs dB;refine zg 3 rfl (Bc dG rfl rfl rfl ?_);refine zg 2 rfl ?_;obtain rfl:=oi dH;exact Ax (dw _ _ (bY,dF) ⟨bI,bJ,bK,bL,rfl,rfl,(bH.Ac dC),dD,dE⟩ bW) rfl
     ·intro dI;refine JL.block (CP dA (fun L s K=>∃(a8:LH) (bw:An) (ap:Nat) (bz:Seg),Jn a3 H a8 [al,bz] [(1,sV Z p1 ag),(3,pV a2 0),(7,sV a0 av a1),(8,sV U O.1 V),(9,iV O.2),(10,sV bw K.1 ap),(11,sV bd bb be),(12,iV am.2),(13,iV K.2)] L s (OL 3 rI a8 bw ap bz K.1)) ⟨a3,bi,bo,bv,rfl,rfl,Ar,ck,cm⟩ ?_);rintro _ _ K ⟨a8,bw,ap,bz,rfl,rfl,bM,co,bZ⟩ dJ ⟨eR,b0⟩ dK;have cp:=b0;unfold La at cp;refine zg 5 rfl (Be underlying28 rfl rfl rfl ?_);obtain⟨cq,dL,dM⟩:=bs cp;refine zg 2 rfl (ED [] (fun L s=>∃(bN:LH),Jm a8 H bN [al,bz] [(1,sV Z p1 ag),(3,pV a2 0),(7,sV a0 av a1),(8,sV U O.1 V),(9,iV O.2),(10,sV bw K.1 ap),(11,sV bd bb be),(12,iV am.2),(13,iV K.2),(44,.bool cq)] L s) ?_ ?_)
      ·rintro _ _ ⟨bN,rfl,rfl,a9,a4⟩;refine JL.done (BJ dM (fun dN dO=>?_) (fun dN dP=>?_))
       ·obtain⟨cr,ct,dQ⟩:=bs dO;refine zg 3 rfl ?_;obtain⟨a5,f193,_,rfl,rfl,rfl,dR⟩:=OL.TL (bZ.Ah a9) ct;refine Dj 16 [a5] ⟨⟨1,_,rfl⟩,trivial⟩ a4 fun ht=>A0 ht rfl [0,1,2,3] rfl (BC (v:= .pointer (some ⟨a5,(Int.toNat (K.2)*1),none⟩)) 4 ht rfl rfl (fun ρ h s' hs=>Jy ct underlying28 AU (h _ _ rfl) (h _ _ rfl)) ?_);refine BC (v:=iV cr) 5 ht rfl rfl (fun ρ h s' hs=>Yl.load Bt (h _ _ rfl) (Im 1 a4 rfl (by simp [A5]) hs (dR 0 _ rfl))) (Cb 6 ht rfl rfl ?_);obtain⟨dS,dT,dU⟩:=bs dQ;refine CG 7 (cD.Ah ((((a7.Ac bE).Ac bH).Ac bM).Ac a9)) dT ht underlying105 BP ?_;rintro dV dW _ ⟨dX,dY,rfl,dZ⟩ ea;refine JG.lp 8 ht 0 ea a4 ⟨⟨1,_,rfl⟩,trivial⟩ Cn ?_;refine Cb 9 ht rfl rfl ?_;obtain⟨eb,ec,ed⟩:=bs dU;refine CG 10 dZ ec ht underlying22 BT ?_;rintro ee ef _ ⟨eg,eh,rfl,ei⟩ ej;refine JG.lp 11 ht 0 ej a4 ⟨⟨1,_,rfl⟩,trivial⟩ CF ?_;refine Cb 12 ht rfl rfl ?_;obtain⟨ek,el,em⟩:=bs ed;refine CG 13 ei el ht underlying28 AU ?_;rintro en eo _ rfl ep;refine JG.lp 14 ht 0 ep a4 ⟨⟨1,_,rfl⟩,trivial⟩ Bt ?_;obtain⟨Y,eq,er⟩:=bs em;refine BC 15 ht rfl rfl (fun ρ h s' hs=>Mz (h _ _ rfl) (h _ _ rfl) eq) (Co [16,17] ?_);obtain⟨eS,et,eu⟩:=bs er;refine I3 1 (bZ.Ah a9) et rfl rfl rfl rfl rfl rfl underlying28 AU ?_;rintro cu b1 f222 _ ew rfl eT ex ey eU eV;refine JS.store (v:=iV Y) (off:=b1) 1 rfl rfl rfl a4 rfl rfl AU (by simp [Value.cells,CV]) ew (by have:=ex;simp only [Rp.n,rK,rN,rB,rP,rL] at this;show _+1≤_;omega) fun ez=>?_;have eA:=ey Y [iV Y] rfl;have b2:(K.1.set (Int.toNat K.2) Y).length=K.1.length:=List.length_set;refine Gh (L':= [(1,.slice Z p1.length ag),(3,pV a2 0),(7,.slice a0 av.length a1),(8,.slice U O.1.length V),(9,iV O.2),(10,.slice (AY a5) ((K.1.set (Int.toNat K.2) Y)).length ap),(11,.slice bd bb.length be),(12,iV am.2),(13,iV K.2),(44,.bool cq),(47,.slice (AY a5) ((K.1.set (Int.toNat K.2) Y)).length ap),(48,iV K.2),(49,.slice (AY a5) ((K.1.set (Int.toNat K.2) Y)).length ap),(50,iV K.2),(51,.pointer (some ⟨a5,(Int.toNat (K.2)*1),none⟩)),(52,iV cr),(53,.slice a0 av.length a1),(54,pV dV dW),(55,.slice dX dS.length dY),(56,iV am.2),(57,pV ee ef),(58,.slice eg eb.length eh),(59,iV K.2),(60,pV en eo),(61,iV ek),(62,iV Y),(63,pV cu b1)]) ⟨rfl,rfl,rfl,rfl,rfl,by rw [b2];rfl,rfl,rfl,rfl,rfl,by rw [b2];rfl,rfl,by rw [b2];rfl,rfl,rfl,rfl,rfl,rfl,rfl,rfl,rfl,rfl,rfl,rfl,rfl,rfl,rfl,trivial⟩ ?_;obtain⟨eB,eC,eD⟩:=bs eu;refine zg 4 rfl (Bc eC rfl rfl rfl ?_);refine zg 2 rfl ?_;obtain rfl:=oi eD;exact Ax (dK _ _ ((K.1.set (Int.toNat K.2) Y),eB) ⟨bN,(AY a5),ap,[(cu,.cells (A1 f222 b1 [iV Y]) 3 (0,0))],rfl,rfl,(bM.Ac a9),ez,eA⟩ b0) rfl
       ·refine JL.exit rfl ?_;obtain rfl:=oi dP;obtain rfl:=dJ _ b0;exact Ax (dI _ _ ⟨bN,bw,ap,bz,rfl,rfl,(bM.Ac a9),a4,(bZ.Ah a9)⟩) rfl
      ·intro cv;refine Eo 39 dL (fun eE eF=>?_) (fun eE eG=>?_)
       ·obtain⟨eW,eH,eI⟩:=bs eF;refine zg 2 rfl (BN (c8.Ah (bH.Ac bM)) eH underlying68 HN ?_);rintro eX eY _ rfl eJ;refine BH 0 eJ N2 rfl rfl rfl (zg 1 rfl ?_);obtain rfl:=oi eI;exact Ax (cv _ _ ⟨a8,rfl,rfl,Ar,co⟩) rfl
       ·refine zg 5 rfl ?_;obtain rfl:=oi eG;exact Ax (cv _ _ ⟨a8,rfl,rfl,Ar,co⟩) rfl
    ·refine JL.exit rfl ?_;obtain rfl:=oi dz;obtain rfl:=dv _ bW;exact Ax (du _ _ ⟨a3,bi,bo,bv,rfl,rfl,bH,ck,cm⟩) rfl
  ·refine JL.exit rfl ?_;obtain rfl:=oi cV;obtain rfl:=cP _ bR;exact Ax (cO _ _ ⟨bD,U,V,al,rfl,rfl,a7,cd,ce⟩) rfl
def Nu(fuel:Nat)(U:(List (List Int)))(O:Int)(K:Int):Option (Bf Int ((Int)⊕(Unit))):= if K≤12 then((ix U K).bind fun V=> (ix V O).bind fun Y=> if 0<Y then(some (.done (Sum.inl O))) else((Au (K+1)).bind fun Z=> some (.more Z))) else(some (.done (Sum.inr ())))
def Nk(fuel:Nat)(p1:AI)(O:(List (List Int)))(K:Int):Option (Bf Int ((Int)⊕(Unit))):= if K≤(p1.length:Int) then(Option.bind (iter (Nu fuel O K) fuel 0) fun U=> Sum.elim (fun r=>some (.done (Sum.inl r))) (fun Y=> (Au (K+1)).bind fun V=> some (.more V)) U) else(some (.done (Sum.inr ())))
def f95(fuel:Nat)(p0:A2)(p1:AI):Option Int:= (f79 fuel p0 p1 (-1)).bind fun K=> Option.bind (iter (Nk fuel p1 K) fuel 0) fun O=> Sum.elim (fun r=>some r) (fun U=> some (-1)) O
theorem aA{a2:An}{c2:Nat}{a3:An}{a4:Nat}{K:An}{O:Nat}{p0:A2}{p1:AI}(bE:Am (rL rI) E a2 c2 p0.1)(bF:Am (rL rI) E a3 a4 p0.2)(bG:Am Bo E K O p1){fuel:Nat}{r:Int}(a5:f95 fuel p0 p1=some r):AM J 95 [.agg #[sV a2 p0.1 c2,sV a3 p0.2 a4],sV K p1 O] E [] (fun w E' B'=>w=iV r∧B'= []):=by
 refine A4 func95 fun Q cy cs H bH a6=>?_;unfold f95 at a5;refine zg 2 rfl (B7 bH fun cz cA U bI bJ=>?_);refine zg 4 rfl (BQ bI BX BD rfl rfl ?_);obtain⟨am,bK,bL⟩:=bs a5;refine zg 1 rfl (BO (Pr (bE.Ah U) (bF.Ah U) (bG.Ah U) bK) rfl rfl N9 bJ ?_);rintro _ bM _ a7 ⟨ap,av,rfl,rfl,bN⟩ bO;obtain⟨a8,bP,a9⟩:=bs bL;refine zg 7 rfl (Bp (fun L s=>∃(bb:Unit) (bd:LH),a8=Sum.inr bb∧Jm bM H bd [] [] L s) ?_ ?_)
 ·rintro _ _ ⟨bb,bd,rfl,rfl,rfl,bQ,bR⟩;have bS:=elim_inr a9;refine zg 4 rfl ?_;obtain rfl:=oi bS;exact AA func95 rfl rfl (a6 ((U.Ac a7).Ac bQ) rfl ⟨rfl,rfl⟩ bR)
 ·intro bT;refine JL.block (Cz bP (fun V=> []) (fun V=> [(1,sV K p1 O),(5,sV ap am av),(6,iV V)]) Ar bO ?_);rintro V be Y bi bo ⟨cB,Z⟩ bU;have bv:=Z;unfold Nk at bv;refine zg 5 rfl (Be underlying25 rfl rfl rfl ?_);refine zg 2 rfl (AL bv (fun bV bW=>?_) (fun bV bY=>?_))
  ·obtain⟨bw,bZ,bz⟩:=bs bW;refine zg 7 rfl (Bp (fun L s=>∃(bA:Unit) (bB:LH),bw=Sum.inr bA∧Jm be H bB [] [(1,sV K p1 O),(5,sV ap am av),(6,iV V)] L s) ?_ ?_)
   ·rintro _ _ ⟨bA,bB,rfl,rfl,rfl,b0,b1⟩;have b2:=elim_inr bz;obtain⟨b3,b4,b5⟩:=bs b2;refine zg 3 rfl (Bc b4 rfl rfl rfl ?_);refine zg 2 rfl ?_;obtain rfl:=oi b5;exact bU b3 (Y.Ac b0) b1 rfl Z
   ·intro b6;refine JL.block (Cz bZ (fun a0=> []) (fun a0=> [(1,sV K p1 O),(5,sV ap am av),(6,iV V),(7,iV a0)]) Ar bi ?_);rintro a0 b7 ag a1 bC ⟨cC,al⟩ b8;have bD:=al;unfold Nu at bD;refine zg 6 rfl (AL bD (fun b9 ca=>?_) (fun b9 cb=>?_))
    ·obtain⟨cD,cc,cd⟩:=bs ca;refine zg 7 rfl (BN (bN.Ah (Y.Ac ag)) cc underlying22 BT ?_);rintro cE cF _ ⟨cG,cH,rfl,ce⟩ cf;refine BH 0 cf CF rfl rfl rfl ?_;obtain⟨cI,cg,ci⟩:=bs cd;refine zg 1 rfl (BN ce cg underlying28 AU ?_);rintro cJ cK _ rfl ck;refine BH 0 ck Bt rfl rfl rfl (zg 2 rfl ?_);refine AL ci (fun cm cn=>?_) (fun cm co=>?_)
     ·refine zg 5 rfl ?_;obtain rfl:=oi cn;obtain rfl:=bC _ al;have cp:=elim_inl bz;obtain rfl:=oi cp;obtain rfl:=bo _ Z;have cq:=elim_inl a9;obtain rfl:=oi cq;exact AA func95 rfl rfl (a6 (((U.Ac a7).Ac Y).Ac ag) rfl ⟨rfl,rfl⟩ a1)
     ·obtain⟨cr,ct,cu⟩:=bs co;refine zg 4 rfl (Bc ct rfl rfl rfl ?_);refine zg 2 rfl ?_;obtain rfl:=oi cu;exact b8 cr ag a1 rfl al
    ·refine JL.exit rfl ?_;obtain rfl:=oi cb;have cv:bw=(Sum.inr ()):=(bC _ al).symm;exact Ax (b6 _ _ ⟨(),b7,cv,rfl,rfl,ag,a1⟩) rfl
  ·refine JL.exit rfl ?_;obtain rfl:=oi bY;have cw:a8=(Sum.inr ()):=(bo _ Z).symm;exact Ax (bT _ _ ⟨(),be,cw,rfl,rfl,Y,bi⟩) rfl
def f48(fuel:Nat)(p0:A2)(p1:AI):Option (Int×Int):= (f70 fuel p0 p1).bind fun K=> if K≠0 then(some (0,K)) else((f95 fuel p0 p1).bind fun O=> if O<0 then(some (0,11)) else(some (O,0)))
theorem Tv{V:An}{c2:Nat}{Y:An}{Z:Nat}{ag:An}{al:Nat}{p0:A2}{p1:AI}(am:Am (rL rI) E V c2 p0.1)(ap:Am (rL rI) E Y Z p0.2)(av:Am Bo E ag al p1){fuel:Nat}{r:Int×Int}(a0:f48 fuel p0 p1=some r):AM J 48 [.agg #[sV V p0.1 c2,sV Y p0.2 Z],sV ag p1 al] E [] (fun w E' B'=>w= .tuple #[iV r.1,iV r.2]∧B'= []):=by
 refine A4 func48 fun Q bz cs H a5 U=>?_;unfold f48 at a0;refine zg 2 rfl (B7 a5 fun bA bB K a1 a6=>?_);refine zg 6 rfl (BQ a1 BX BD rfl rfl ?_);obtain⟨bC,a7,a8⟩:=bs a0;refine zg 1 rfl (BF (aF (am.Ah K) (ap.Ah K) (av.Ah K) a7) rfl rfl (AR func70 rfl) a6 fun bD O a2=>?_);refine zg 7 rfl (AL a8 (fun a9 bb=>?_) (fun a9 bd=>?_))
 ·refine zg 6 rfl ?_;obtain rfl:=oi bb;exact AA func48 rfl rfl (U (K.Ac O) rfl ⟨rfl,rfl⟩ a2)
 ·refine zg 3 rfl (BQ (a1.Ah O) BX BD rfl rfl ?_);obtain⟨bE,be,bi⟩:=bs bd;refine zg 1 rfl (BF (aA (am.Ah (K.Ac O)) (ap.Ah (K.Ac O)) (av.Ah (K.Ac O)) be) rfl rfl (AR func95 rfl) a2 fun bF a3 a4=>?_);refine zg 8 rfl (AL bi (fun bo bv=>?_) (fun bo bw=>?_))
  ·refine zg 5 rfl ?_;obtain rfl:=oi bv;exact AA func48 rfl rfl (U ((K.Ac O).Ac a3) rfl ⟨rfl,rfl⟩ a4)
  ·refine zg 7 rfl ?_;obtain rfl:=oi bw;exact AA func48 rfl rfl (U ((K.Ac O).Ac a3) rfl ⟨rfl,rfl⟩ a4)
def Sq(fuel:Nat)(U:Int×Int)(O:(List (List Int)))(K:Int×Int):Option (Bf (Int×Int) Int):= if K.2<(O.length:Int) then((ix O K.2).bind fun V=> (ix V U.1).bind fun Y=> (Au (K.1+Y)).bind fun Z=> (Au (K.2+1)).bind fun ag=> some (.more (Z,ag))) else(some (.done K.1))
def f29(fuel:Nat)(p0:A2)(p1:AI):Option (Int×Int):= (f48 fuel p0 p1).bind fun K=> if K.2=11 then(some (0,0)) else(if K.2≠0 then(some (0,K.2)) else((f79 fuel p0 p1 (-1)).bind fun O=> Option.bind (iter (Sq fuel K O) fuel (0,0)) fun U=> some (U,0)))
theorem aB{al:An}{c2:Nat}{am:An}{ap:Nat}{av:An}{a0:Nat}{p0:A2}{p1:AI}(a1:Am (rL rI) E al c2 p0.1)(a2:Am (rL rI) E am ap p0.2)(a3:Am Bo E av a0 p1){fuel:Nat}{r:Int×Int}(a4:f29 fuel p0 p1=some r):AM J 29 [.agg #[sV al p0.1 c2,sV am p0.2 ap],sV av p1 a0] E [] (fun w E' B'=>w= .tuple #[iV r.1,iV r.2]∧B'= []):=by
 refine A4 func29 fun Q b8 cs H a8 V=>?_;unfold f29 at a4;refine zg 2 rfl (B7 a8 fun b9 ca K a5 a9=>?_);refine zg 5 rfl (BQ a5 BX BD rfl rfl ?_);obtain⟨bb,bd,be⟩:=bs a4;refine zg 1 rfl (BF (Tv (a1.Ah K) (a2.Ah K) (a3.Ah K) bd) rfl rfl (AR func48 rfl) a9 fun cb O Y=>?_);refine zg 12 rfl (AL be (fun bi bo=>?_) (fun bi bv=>?_))
 ·refine zg 5 rfl ?_;obtain rfl:=oi bo;exact AA func29 rfl rfl (V (K.Ac O) rfl ⟨rfl,rfl⟩ Y)
 ·refine zg 7 rfl (AL bv (fun bw bz=>?_) (fun bw bA=>?_))
  ·refine zg 6 rfl ?_;obtain rfl:=oi bz;exact AA func29 rfl rfl (V (K.Ac O) rfl ⟨rfl,rfl⟩ Y)
  ·refine zg 7 rfl (BQ (a5.Ah O) BX BD rfl rfl ?_);obtain⟨bB,bC,bD⟩:=bs bA;refine zg 1 rfl (BO (Pr (a1.Ah (K.Ac O)) (a2.Ah (K.Ac O)) (a3.Ah (K.Ac O)) bC) rfl rfl N9 Y ?_);rintro _ cc _ bE ⟨bF,bG,rfl,rfl,bH⟩ bI;obtain⟨bJ,bK,bL⟩:=bs bD;refine zg 7 rfl (C4 [] [(8,iV bJ)] (fun cd bM bN=>?_) (fun bO=>?_))
   ·refine zg 6 rfl ?_;obtain rfl:=oi bL;exact AA func29 rfl rfl (V (((K.Ac O).Ac bE).Ac bM) rfl ⟨rfl,rfl⟩ bN)
   ·refine JL.block (Cz bK (fun U=> []) (fun U=> [(6,iV bb.1),(8,iV U.1),(9,sV bF bB bG),(10,iV U.2)]) Ar bI ?_);rintro U ce Z a6 bP ⟨cf,ag⟩ bQ;have a7:=ag;unfold Sq at a7;refine zg 5 rfl (Be underlying22 rfl rfl rfl ?_);refine zg 2 rfl (AL a7 (fun bR bS=>?_) (fun bR bT=>?_))
    ·obtain⟨cg,bU,bV⟩:=bs bS;refine zg 7 rfl (BN (bH.Ah Z) bU underlying22 BT ?_);rintro ci ck _ ⟨cm,cn,rfl,bW⟩ bY;refine BH 0 bY CF rfl rfl rfl ?_;obtain⟨co,bZ,b0⟩:=bs bV;refine zg 1 rfl (BN bW bZ underlying28 AU ?_);rintro cp cq _ rfl b1;refine BH 0 b1 Bt rfl rfl rfl ?_;obtain⟨b2,b3,b4⟩:=bs b0;refine Bc b3 rfl rfl rfl ?_;obtain⟨b5,b6,b7⟩:=bs b4;refine zg 5 rfl (Bc b6 rfl rfl rfl ?_);refine zg 2 rfl ?_;obtain rfl:=oi b7;exact bQ (b2,b5) Z a6 rfl ag
    ·refine JL.exit rfl ?_;obtain rfl:=oi bT;obtain rfl:=bP _ ag;exact bO Z a6 rfl
def O9(fuel:Nat)(p0:A2)(p1:AI)(O:Int×Int)(U:(List (List (List Int))))(Y:Int)(V:(List Bool))(K:Int):Option (Bf Int ((Int×(List Int)×Int)⊕(Unit))):= if K<(V.length:Int) then((ix V K).bind fun Z=> Option.bind (if Z=true then((ix U (0)).bind fun ag=> (ix ag K).bind fun al=> (ix al O.1).bind fun am=> some (decide (0<am))) else(some false)) fun ap=> if ap=true then((f83 fuel p0 p1 U K O.1).bind fun av=> some (.done (Sum.inl (Y,av,0)))) else((Au (K+1)).bind fun a0=> some (.more a0))) else(some (.done (Sum.inr ())))
def f31(fuel:Nat)(p0:A2)(p1:AI):Option (Int×(List Int)×Int):= (f48 fuel p0 p1).bind fun K=> if K.2≠0 then(some (0,[],K.2)) else((f80 fuel p0 p1 (-1)).bind fun U=> (f79 fuel p0 p1 (-1)).bind fun V=> (f81 fuel V K.1 K.1).bind fun Y=> (ix Y (0)).bind fun O=> (f82 fuel p0 O).bind fun Z=> Option.bind (iter (O9 fuel p0 p1 K U O Z) fuel 0) fun ag=> Sum.elim (fun r=>some r) (fun al=> some (0,[],11)) ag)
theorem ar{a8:An}{c2:Nat}{a9:An}{bb:Nat}{a0:An}{a1:Nat}{p0:A2}{p1:AI}(am:Am (rL rI) E a8 c2 p0.1)(ap:Am (rL rI) E a9 bb p0.2)(a2:Am Bo E a0 a1 p1){fuel:Nat}{r:Int×(List Int)×Int}(bd:f31 fuel p0 p1=some r):AM J 31 [.agg #[sV a8 p0.1 c2,sV a9 p0.2 bb],sV a0 p1 a1] E [] (fun w E' B'=>∃(be:An) (bi:Nat),w= .tuple #[iV r.1,sV be r.2.1 bi,iV r.2.2]∧B'= []∧Am rI E' be bi r.2.1):=by
 refine A4 func31 fun Q c8 cs H bQ a6=>?_;unfold f31 at bd;refine zg 2 rfl (B7 bQ fun bo c9 O av bR=>?_);refine zg 6 rfl (BQ av BX BD rfl rfl ?_);obtain⟨bv,bS,bT⟩:=bs bd;refine zg 1 rfl (BF (Tv (am.Ah O) (ap.Ah O) (a2.Ah O) bS) rfl rfl (AR func48 rfl) bR fun da K bw=>?_);refine zg 12 rfl (AL bT (fun bU bV=>?_) (fun bU bW=>?_))
 ·refine zg 7 rfl ?_;obtain rfl:=oi bV;exact AA func31 rfl rfl (a6 (O.Ac K) rfl ⟨none,0,rfl,rfl,Am.nil⟩ bw)
 ·refine zg 3 rfl (BQ (av.Ah K) BX BD rfl rfl ?_);obtain⟨bz,bY,bZ⟩:=bs bW;refine zg 1 rfl (BO (Ty (am.Ah (O.Ac K)) (ap.Ah (O.Ac K)) (a2.Ah (O.Ac K)) bY) rfl rfl (AR func80 rfl) bw ?_);rintro _ db _ U ⟨bA,bB,rfl,rfl,bC⟩ b0;refine zg 4 rfl (BQ (av.Ah (K.Ac U)) BX BD rfl rfl ?_);obtain⟨dc,b1,b2⟩:=bs bZ;refine zg 1 rfl (BO (Pr (am.Ah ((O.Ac K).Ac U)) (ap.Ah ((O.Ac K).Ac U)) (a2.Ah ((O.Ac K).Ac U)) b1) rfl rfl N9 b0 ?_);rintro _ dd _ V ⟨de,df,rfl,rfl,b3⟩ b4;obtain⟨dg,b5,b6⟩:=bs b2;refine zg 2 rfl (BO (aq b3 b5) rfl rfl (AR func81 rfl) b4 ?_);rintro _ dh _ Y ⟨di,dj,rfl,rfl,b7⟩ b8;obtain⟨bD,b9,ca⟩:=bs b6;refine BN b7 b9 underlying28 AU ?_;rintro dk dl _ rfl cb;refine BH 0 cb Bt rfl rfl rfl (zg 4 rfl ?_);refine BQ (av.Ah (((K.Ac U).Ac V).Ac Y)) BX BD rfl rfl ?_;obtain⟨bE,cc,cd⟩:=bs ca;refine zg 1 rfl (BO (Tm (am.Ah ((((O.Ac K).Ac U).Ac V).Ac Y)) (ap.Ah ((((O.Ac K).Ac U).Ac V).Ac Y)) cc) rfl rfl (AR func82 rfl) b8 ?_);rintro _ ce _ ag ⟨bF,bG,rfl,rfl,cf⟩ cg;obtain⟨bH,ci,bI⟩:=bs cd;refine zg 7 rfl (Bp (fun L s=>∃(bJ:Unit) (bK:LH),bH=Sum.inr bJ∧Jm ce H bK [] [] L s) ?_ ?_)
  ·rintro _ _ ⟨bJ,bK,rfl,rfl,rfl,ck,cm⟩;have cn:=elim_inr bI;refine zg 6 rfl ?_;obtain rfl:=oi cn;exact AA func31 rfl rfl (a6 ((((((O.Ac K).Ac U).Ac V).Ac Y).Ac ag).Ac ck) rfl ⟨none,0,rfl,rfl,Am.nil⟩ cm)
  ·intro co;refine JL.block (Cz ci (fun a3=> []) (fun a3=> [(1,sV a0 p1 a1),(2,pV bo 0),(7,iV bv.1),(9,sV bA bz bB),(10,iV bD),(11,sV bF bE bG),(12,iV a3)]) Ar cg ?_);rintro a3 a4 Z a7 bL ⟨dm,a5⟩ cp;have bM:=a5;unfold O9 at bM;refine zg 5 rfl (Be underlying68 rfl rfl rfl ?_);refine zg 2 rfl (AL bM (fun cq cr=>?_) (fun cq ct=>?_))
   ·obtain⟨dn,cu,cv⟩:=bs cr;refine zg 7 rfl (BN (cf.Ah Z) cu underlying68 HN ?_);rintro dp dq _ rfl cw;refine BH 0 cw N2 rfl rfl rfl ?_;obtain⟨cy,cz,cA⟩:=bs cv;refine zg 1 rfl (ED [] (fun L s=>∃(bN:LH),Jm a4 H bN [] [(1,sV a0 p1 a1),(2,pV bo 0),(7,iV bv.1),(9,sV bA bz bB),(10,iV bD),(11,sV bF bE bG),(12,iV a3),(57,.bool cy)] L s) ?_ ?_)
    ·rintro _ _ ⟨bN,rfl,rfl,al,bO⟩;refine JL.done (BJ cA (fun cB cC=>?_) (fun cB cD=>?_))
     ·refine zg 3 rfl (BQ (av.Ah ((((((K.Ac U).Ac V).Ac Y).Ac ag).Ac Z).Ac al)) BX BD rfl rfl ?_);obtain⟨dr,cE,cF⟩:=bs cC;refine zg 4 rfl (BO (aN (am.Ah (((((((O.Ac K).Ac U).Ac V).Ac Y).Ac ag).Ac Z).Ac al)) (ap.Ah (((((((O.Ac K).Ac U).Ac V).Ac Y).Ac ag).Ac Z).Ac al)) (a2.Ah (((((((O.Ac K).Ac U).Ac V).Ac Y).Ac ag).Ac Z).Ac al)) (bC.Ah ((((V.Ac Y).Ac ag).Ac Z).Ac al)) cE) rfl rfl (AR func83 rfl) bO ?_);rintro _ dt _ cG ⟨cH,cI,rfl,rfl,cJ⟩ cK;refine zg 4 rfl ?_;obtain rfl:=oi cF;obtain rfl:=bL _ a5;have cM:=elim_inl bI;obtain rfl:=oi cM;exact AA func31 rfl rfl (a6 ((((((((O.Ac K).Ac U).Ac V).Ac Y).Ac ag).Ac Z).Ac al).Ac cG) rfl ⟨cH,cI,rfl,rfl,cJ⟩ cK)
     ·obtain⟨cN,cO,cP⟩:=bs cD;refine zg 4 rfl (Bc cO rfl rfl rfl ?_);refine zg 2 rfl ?_;obtain rfl:=oi cP;exact cp cN (Z.Ac al) bO rfl a5
    ·intro bP;refine Dy 46 cz (fun cQ cR=>?_) (fun cQ cT=>?_)
     ·obtain⟨du,cV,cW⟩:=bs cR;refine zg 1 rfl (BN (bC.Ah (((V.Ac Y).Ac ag).Ac Z)) cV underlying105 BP ?_);rintro dv dw _ ⟨dx,dy,rfl,cX⟩ cY;refine BH 0 cY Cn rfl rfl rfl ?_;obtain⟨dz,cZ,c0⟩:=bs cW;refine zg 1 rfl (BN cX cZ underlying22 BT ?_);rintro dA dB _ ⟨dC,dD,rfl,c1⟩ c3;refine BH 0 c3 CF rfl rfl rfl ?_;obtain⟨dE,c4,c5⟩:=bs c0;refine zg 1 rfl (BN c1 c4 underlying28 AU ?_);rintro dF dG _ rfl c6;refine BH 0 c6 Bt rfl rfl rfl (zg 2 rfl ?_);obtain rfl:=oi c5;exact Ax (bP _ _ ⟨a4,rfl,rfl,Ar,a7⟩) rfl
     ·refine zg 11 rfl ?_;obtain rfl:=oi cT;exact Ax (bP _ _ ⟨a4,rfl,rfl,Ar,a7⟩) rfl
   ·refine JL.exit rfl ?_;obtain rfl:=oi ct;have c7:bH=(Sum.inr ()):=(bL _ a5).symm;exact Ax (co _ _ ⟨(),a4,c7,rfl,rfl,Z,a7⟩) rfl
end Pal
namespace Pal
theorem Yv{F n:Nat}{lk:A8}(O:B4 n lk):f117 F lk=some ((BU lk:Nat):Int):=by
 have U:=O.len;refine CO ?_;unfold f117 BU;refine Bn (fun h=>?_) (fun h=>?_)
 ·have:lk= []:=List.length_eq_zero_iff.1 (by omega);subst this;exact Ak rfl
 ·have K:lk.length - 1<lk.length:=by omega
  refine AV ((lk.length - 1:Nat):Int) (by omega) (by omega) (by omega) (Bl (m:=lk.length - 1) rfl K ?_);rw [List.getLast?_eq_getElem?,List.getElem?_eq_getElem K];have:=O.yr _ (List.getElem_mem K);refine Ak ?_;simp only;omega
theorem XV{F:Nat}{l:List Int}{x:Int}(O:100<F)(U:l.length<100):f137 F l x=some (decide (x∈l)):=by
 refine CO ?_;unfold f137;refine AD (S:=fun q=>(q=Sum.inl true∧x∈l)∨(q=Sum.inr ()∧x ∉ l)) ?_ ?_
 ·refine Cj l.length (fun i s=>s=(i:Int)∧x ∉ l.take i) ⟨rfl,by simp⟩ (by omega) ?_ ?_
  ·rintro i s hi ⟨rfl,K⟩;unfold MO;refine Br (by omega) (Bl (m:=i) rfl hi ?_);refine Bn (fun h=>?_) (fun h=>?_)
   ·exact Ak (.inl ⟨rfl,h▸List.getElem_mem hi⟩)
   ·refine AV ((i+1:Nat):Int) (by simp) (by omega) (by omega) (Ak ⟨rfl,?_⟩);rw [List.take_add_one,List.getElem?_eq_getElem hi];simp only [Option.toList_some,List.mem_append,List.mem_singleton,not_or];exact⟨K,fun e=>h e.symm⟩
  ·rintro s ⟨rfl,K⟩;unfold MO;rw [List.take_length] at K;exact A9 (by omega) (Ak ⟨_,rfl,.inr ⟨rfl,K⟩⟩)
 ·rintro q (⟨rfl,h⟩ | ⟨rfl,h⟩)
  ·exact Ak (decide_eq_true h).symm
  ·exact Ak (decide_eq_false h).symm
theorem Wj:∀k,k<16→Cg (1<<<k)=1:=by decide
def PN(h:Int)(q:Nat):Prop:=(h= -1∧q=16)∨(h=(q:Int)∧q<8)
theorem RM{lk:A8}{n y k:Nat}{m:Int}(K:B4 n lk):(By lk y m k).testBit 16=false:=by
 cases h:(By lk y m k).testBit 16 with
 | false=>rfl
 | true=>
  obtain⟨_,l,O,_⟩:=(Gf lk y m 16 k).1 h;have:=(List.getElem?_eq_some_iff.1 O).1;have:=K.len;omega
theorem Xf(lk:A8)(y:Nat)(m:Int)(k:Nat):∀i,(By lk y m k).testBit i=true→i<k:=fun i h=>((Gf lk y m i k).1 h).1
def Jf(J:JW)(lk:A8)(q y:Nat)(m:Int)(k:Nat):Prop:=(∀l∈lk.take k,l.1=(y:Int)→Fg J m l=true)∧(By lk y m k).testBit q=false
theorem RH{F n m y q:Nat}{J:JW}{lk:A8}{h:Int}(a6:100<F)(al:VJ n J)(a7:B4 n lk)(hm:m<n)(a1:PN h q):
  f118 F J lk h (y:Int) (m:Int)=some (match DD J lk q y (m:Int) with | some c=>(c:Int) | none=>100):=by
 have bD:=a7.len;refine CO ?_;unfold f118;refine AD (S:=fun r=>(∃c:Nat,r=Sum.inr (c:Int)∧DD J lk q y (m:Int)=some c)∨(r=Sum.inl 100∧DD J lk q y (m:Int)=none)) ?_ ?_
 ·refine Cj lk.length (fun i s=>s=(((Cg (By lk y (m:Int) i):Nat):Int),(i:Int))∧Jf J lk q y (m:Int) i) ⟨by simp [By,show Cg 0=0 by decide],by simp,by simp [By]⟩ (by omega) ?_ ?_
  ·rintro i s hi ⟨rfl,V,Y⟩;unfold MK;have bE:Cg (By lk y (m:Int) i)≤16:=Mk _;have a8:DD J lk q y (m:Int)≠none→Jf J lk q y (m:Int) (i+1):=fun am=>by
    unfold DD at am;split at am
    ·rename_i hh;refine⟨fun l O=>OH.1 hh.1 l (List.mem_of_mem_take O),?_⟩;cases hb:(By lk y (m:Int) (i+1)).testBit q with
     | false=>rfl
     | true=>
      obtain⟨bF,l,g2,a9,bb⟩:=(Gf _ _ _ _ _).1 hb;have:=(Gf lk y (m:Int) q lk.length).2 ⟨by omega,l,g2,a9,bb⟩;rw [hh.2] at this;cases this
    ·exact absurd rfl am
   refine Br (by simp only;omega) ?_;have next:∀(c:Int),c=((Cg (By lk y (m:Int) (i+1)):Nat):Int)→Jf J lk q y (m:Int) (i+1)→AZ ((Au ((i:Int)+1)).bind fun x=>some (Bf.more (A:=Int⊕Int) (c,x))) (Bf.sat (fun s=>s=(((Cg (By lk y (m:Int) (i+1)):Nat):Int),((i+1:Nat):Int))∧Jf J lk q y (m:Int) (i+1)) fun r=>(∃c:Nat,r=Sum.inr (c:Int)∧DD J lk q y (m:Int)=some c)∨(r=Sum.inl 100∧DD J lk q y (m:Int)=none)):=fun c bd be=>by
    exact AV ((i+1:Nat):Int) (by simp) (by omega) (by omega) (Ak ⟨by rw [bd],be⟩)
   have U:By lk y (m:Int) (i+1)=if lk[i].1=(y:Int)∧(m:Int)≠lk[i].2 then By lk y (m:Int) i ||| 1<<<i else By lk y (m:Int) i:=by
    rw [By,List.getElem?_eq_getElem hi]
   have a2:∀l∈lk.take (i+1),l∈lk.take i∨l=lk[i]:=fun l O=>by
    rw [List.take_add_one,List.getElem?_eq_getElem hi] at O;simp only [Option.toList_some,List.mem_append,List.mem_singleton] at O;exact O
   by_cases K:lk[i].1=(y:Int)∧(m:Int)≠lk[i].2
   ·rw [if_pos K] at U;refine AD (S:=fun r=>(r=Sum.inl 100∧¬Jf J lk q y (m:Int) (i+1))∨(r=Sum.inr ((Cg (By lk y (m:Int) (i+1)):Nat):Int)∧Jf J lk q y (m:Int) (i+1))) ?_ ?_
    ·refine Bl (m:=i) rfl hi (AD (S:=fun b=>b=false) ?_ ?_)
     ·exact A9 (by simp [K.1]) (Ak (decide_eq_false fun e=>K.2 e.symm))
     ·rintro b rfl;refine A9 (by simp) ?_;have bi:(By lk y (m:Int) (i+1)).testBit i=true:=(Gf _ _ _ _ _).2 ⟨by omega,lk[i],List.getElem?_eq_getElem hi,K.1,K.2⟩;have bo:Cg (By lk y (m:Int) (i+1))=Cg (By lk y (m:Int) i)+1:=by
       rw [U,KH,Wj i (by omega)];rintro j ⟨bv,bw⟩;have:=Xf _ _ _ _ _ bv;rw [Nat.one_shiftLeft,Nat.testBit_two_pow,decide_eq_true_iff] at bw;omega
      by_cases hh:(i:Int)=h
      ·refine AD (S:=fun b=>b=true) (Br hh (Ak rfl)) ?_;rintro b rfl;refine Br rfl (Ak (.inl ⟨rfl,fun ap=>?_⟩));have:q=i:=by rcases a1 with⟨g,_⟩ | ⟨g,_⟩ <;> omega
       have a3:=ap.2;rw [this,bi] at a3;cases a3
      ·have bz:(By lk y (m:Int) (i+1)).testBit q=false:=by
        rw [U,Nat.testBit_or,Y,Nat.one_shiftLeft,Nat.testBit_two_pow];simp only [Bool.false_or,decide_eq_false_iff_not];intro e;rcases a1 with⟨_,g⟩ | ⟨g,_⟩
        ·omega
        ·exact hh (by omega)
       have ap:=Ee (d:=([]:List Int)) (l:=J.2) (i:=m) (by have:=al.l2;omega);have bG:=(al.PQ m).len;refine AD (S:=fun b=>b= !decide (lk[i].2∈J.2.getD m [])) ?_ ?_
       ·refine A9 hh (Bl (m:=m) rfl (by have:=al.l2;omega) ?_);rw [← ap];exact AO (XV a6 (by omega)) (Ak rfl)
       ·rintro b rfl;have a4:Fg J (m:Int) lk[i]=decide (lk[i].2∈J.2.getD m []):=by
         unfold Fg;rw [decide_eq_false K.2];simp
        by_cases Z:lk[i].2∈J.2.getD m []
        ·refine A9 (by rw [decide_eq_true Z];simp) (AV ((Cg (By lk y (m:Int) i)+1:Nat):Int) (by simp) (by omega) (by omega) ?_);refine Ak (.inr ⟨by rw [bo],fun l O ag=>?_,bz⟩);rcases a2 l O with av | rfl
         ·exact V l av ag
         ·rw [a4];exact decide_eq_true Z
        ·refine Br (by rw [decide_eq_false Z];rfl) (Ak (.inl ⟨rfl,fun bA=>?_⟩));have:=bA.1 lk[i] (by rw [List.take_add_one,List.getElem?_eq_getElem hi];simp only [Option.toList_some,List.mem_append,List.mem_singleton];exact .inr trivial) K.1;rw [a4] at this;exact Z (of_decide_eq_true this)
    ·rintro r (⟨rfl,a0⟩ | ⟨rfl,a0⟩)
     ·rw [Sum.elim_inl];refine Ak (.inr ⟨rfl,?_⟩);cases e:DD J lk q y (m:Int) with
      | none=>rfl
      | some c=>exact absurd (a8 (by rw [e];simp)) a0
     ·rw [Sum.elim_inr];exact next _ rfl a0
   ·rw [if_neg K] at U;have bB:Jf J lk q y (m:Int) (i+1):=⟨fun l O ag=>by
     rcases a2 l O with av | rfl
     ·exact V l av ag
     ·unfold Fg
      by_cases e:(m:Int)=lk[i].2
      ·rw [decide_eq_true e];rfl
      ·exact absurd ⟨ag,e⟩ K,by rw [U];exact Y⟩
    refine AO (b:=Sum.inr ((Cg (By lk y (m:Int) i):Nat):Int)) ?_ (by rw [Sum.elim_inr];exact next _ (by rw [U]) bB)
    refine CO (Bl (m:=i) rfl hi ?_);refine AD (S:=fun b=>b=true) ?_ (by rintro b rfl;exact Br rfl (Ak rfl));refine Bn (fun _=>Ak rfl) (fun e=>Ak (decide_eq_true ?_));have bC:lk[i].1=(y:Int):=by simpa using e
    by_cases a5:(m:Int)=lk[i].2
    ·exact a5.symm
    ·exact absurd ⟨bC,a5⟩ K
  ·rintro s ⟨rfl,V,Y⟩;unfold MK;refine A9 (by simp) (Ak ⟨_,rfl,.inl ⟨_,rfl,?_⟩⟩);rw [List.take_length] at V;unfold DD;rw [if_pos ⟨OH.2 V,Y⟩]
 ·rintro r (⟨c,rfl,h⟩ | ⟨rfl,h⟩)
  ·rw [h];exact Ak rfl
  ·rw [h];exact Ak rfl
end Pal
namespace Pal
theorem J1{α:Type}{f:Nat→α}{N i:Nat}(h:i<N):((List.range N).map f)[i]? =some (f i):=by simp [h]
theorem Lb{α:Type}{f:Nat→α}{N:Nat}(i:Nat)(v:α):((List.range N).map f).set i v=(List.range N).map (fun j=>if j=i then v else f j):=by
 apply List.ext_getElem?;intro j;by_cases K:j<N
 ·by_cases e:i=j
  ·subst e;rw [List.getElem?_set_self (by simpa using K),J1 K,if_pos rfl]
  ·rw [List.getElem?_set_ne e,J1 K,J1 K,if_neg (fun h=>e h.symm)]
 ·rw [List.getElem?_eq_none (by simpa using K),List.getElem?_eq_none (by simpa using K)]
theorem FK{α:Type}{f g:Nat→α}{N:Nat}(h:∀i,i<N→f i=g i):(List.range N).map f=(List.range N).map g:=List.map_congr_left fun i hi=>h i (List.mem_range.1 hi)
theorem Nn{α:Type}{z:α}{N:Nat}:List.replicate N z=(List.range N).map fun _=>z:=by
 apply List.ext_getElem?;intro j;by_cases K:j<N
 ·rw [J1 K,List.getElem?_replicate,if_pos K]
 ·rw [List.getElem?_eq_none (by simpa using K),List.getElem?_eq_none (by simpa using K)]
theorem D1{α β:Type}{Q:α→Prop}{f:β→Option α}{g:Nat→β}{N i:Nat}{j:Int}(h:j=(i:Int))(hi:i<N)(k:AZ (f (g i)) Q):AZ ((ix ((List.range N).map g) j).bind f) Q:=AO (DC h (J1 hi)) k
def NR(J:JW)(lk:A8)(q d y:Nat)(m:Int):List Int:=(List.range (lk.length+1)).map fun k=>((ways J lk q d y m k:Nat):Int)
def WR(J:JW)(lk:A8)(q d y:Nat):List (List Int):=(List.range J.1.length).map fun(m:Nat)=>NR J lk q d y (m:Int)
def GM(J:JW)(lk:A8)(q t:Nat):List (List (List Int)):=(List.range (BU lk+1)).map fun j=>if j<t then [] else WR J lk q (BU lk - j) j
def GI(J:JW)(lk:A8)(q d y:Nat)(m:Int)(t:Nat):List Int:=(List.range (lk.length+1)).map fun k=>if k<t then((ways J lk q d y m k:Nat):Int) else 0
theorem OS{J:JW}{lk:A8}{q d y c k:Nat}{m:Int}(h:DD J lk q y m=some c)(K:k<c):ways J lk q d y m k=0:=by
 cases d with
 | zero=>unfold ways;rw [h];simp only;rw [if_neg (by omega)]
 | succ d=>unfold ways;rw [h];simp only;rw [if_neg (by omega)]
theorem OM{J:JW}{lk:A8}{q d y k:Nat}{m:Int}(h:DD J lk q y m=none):ways J lk q d y m k=0:=by
 cases d with
 | zero=>unfold ways;rw [h]
 | succ d=>unfold ways;rw [h]
theorem ZZ{J:JW}{lk:A8}{q d y c:Nat}{m:Int}(h:DD J lk q y m=some c):List.replicate (lk.length+1) (0:Int)=GI J lk q d y m c:=by
 rw [Nn];refine FK fun i _=>?_;split
 ·rename_i hi;rw [OS h hi];rfl
 ·rfl
theorem Wc{J:JW}{lk:A8}{q d y t:Nat}{m:Int}(h:lk.length<t):GI J lk q d y m t=NR J lk q d y m:=FK fun i hi=>if_pos (by omega)
theorem bq{d:Nat}(h:d≤6):3 ^ d≤729:=Nat.le_trans (Nat.pow_le_pow_right (by omega) h) (by decide)
theorem OU{n q d y k:Nat}{J:JW}{lk:A8}{m:Int}(K:VJ n J)(O:d≤6):ways J lk q d y m k≤729:=Nat.le_trans (RZ K d y m k) (bq O)
theorem U2{F n q y m c k d:Nat}{J:JW}{lk:A8}{cur:List (List Int)×Int}{st:List Int×Int}(a6:100<F)(Y:VJ n J)(ag:B4 n lk)(hm:m<n)(a7:y+(d+1)=BU lk)(a8:k≤lk.length)(a2:c≤k)(a3:DD J lk q y (m:Int)=some c)(al:cur.2=(m:Int))(am:st.2=(k:Int)):
  iter (Lh F J (GM J lk q (y+1),(y:Int)) cur (c:Int) st) F (GI J lk q (d+1) y (m:Int) k,0)=some (GI J lk q (d+1) y (m:Int) (k+1)):=by
 have a9:=Y.l1;have bb:=ag.len;have bd:=Hp ag;have K:=Y.EX m;have be:=K.len;have O:m<J.1.length:=by omega
 have Z:J.1.getD m []=J.1[m]:=Ee O;have ap:∀i,((((J.1.getD m []).take i).map fun x=>ways J lk q d (y+1) x (k - c)).sum)≤3*729:=fun i=>by
  refine Nat.le_trans (Nr (b:=729) fun z a4=>?_) ?_
  ·obtain⟨x,_,rfl⟩:=List.mem_map.1 a4;exact OU Y (by omega)
  ·rw [List.length_map,List.length_take];exact Nat.mul_le_mul_right _ (by have:=K.len;omega)
 have U:∀v:Int,(GI J lk q (d+1) y (m:Int) k).set k v=(List.range (lk.length+1)).map fun j=>if j=k then v else if j<k then((ways J lk q (d+1) y (m:Int) j:Nat):Int) else 0:=fun v=>Lb k v
 refine CO (Cj (J.1.getD m []).length (fun i s=>s=((GI J lk q (d+1) y (m:Int) k).set k ((((((J.1.getD m []).take i).map fun x=>ways J lk q d (y+1) x (k - c)).sum:Nat)):Int),(i:Int))) ?_ (by have:=K.len;omega) ?_ ?_)
 ·rw [U];refine Prod.ext (FK fun j av=>?_) rfl;by_cases e:j=k
  ·subst e;simp
  ·rw [if_neg e]
 ·rintro i s hi rfl;unfold Lh;simp only [al,am];have bi:=K.inr _ (List.getElem_mem hi);obtain⟨V,a0⟩:∃V:Nat,(J.1.getD m [])[i]=(V:Int):=⟨((J.1.getD m [])[i]).toNat,by omega⟩;have bo:=ap i;have bv:=ap (i+1);have a5:(((J.1.getD m []).take (i+1)).map fun x=>ways J lk q d (y+1) x (k - c)).sum=(((J.1.getD m []).take i).map fun x=>ways J lk q d (y+1) x (k - c)).sum+ways J lk q d (y+1) (V:Int) (k - c):=by
   rw [List.take_add_one,List.getElem?_eq_getElem hi,a0];simp
  refine Bl (m:=m) rfl O ?_;rw [← Z];refine Br (by omega) ?_;rw [U];refine D1 (i:=k) rfl (by omega) ?_;rw [if_pos rfl];refine AV ((y+1:Nat):Int) (by simp) (by omega) (by omega) (D1 (i:=y+1) rfl (by omega) ?_);rw [if_neg (by omega)];refine Bl (m:=m) rfl O ?_;rw [← Z];refine Bl (m:=i) rfl hi ?_;rw [a0];refine D1 (i:=V) rfl (by omega) (AV ((k - c:Nat):Int) (by omega) (by omega) (by omega) ?_);refine D1 (i:=k - c) rfl (by omega) ?_;rw [show BU lk - (y+1)=d by omega];refine AV ((((((J.1.getD m []).take (i+1)).map fun x=>ways J lk q d (y+1) x (k - c)).sum:Nat)):Int) (by rw [a5];simp only [Int.natCast_add]) (by omega) (by omega) (D1 (i:=k) rfl (by omega) ?_);refine AV ((i+1:Nat):Int) (by simp) (by omega) (by omega) (Ak (Prod.ext ?_ rfl));simp only;rw [show Int.toNat (k:Int)=k by omega,Lb,U];refine FK fun j av=>?_;by_cases e:j=k
  ·rw [if_pos e,if_pos e]
  ·rw [if_neg e,if_neg e,if_neg e]
 ·rintro s rfl;unfold Lh;simp only [al,am];refine Bl (m:=m) rfl O ?_;rw [← Z];refine A9 (by omega) (Ak ⟨_,rfl,?_⟩);rw [U,List.take_length];refine FK fun j av=>?_;by_cases e:j=k
  ·subst e;rw [if_pos rfl,if_pos (by omega)]
   conv=>rhs;unfold ways
   rw [a3];simp only;rw [if_pos a2,show((m:Int)).toNat=m by omega]
  ·rw [if_neg e];by_cases a1:j<k
   ·rw [if_pos a1,if_pos (by omega)]
   ·rw [if_neg a1,if_neg (by omega)]
theorem Vh{F n q y m d:Nat}{J:JW}{lk:A8}{cur:List (List Int)×Int}(Y:100<F)(Z:VJ n J)(O:B4 n lk)(hm:m<n)(ag:y+d=BU lk)(al:cur.2=(m:Int)):
  iter (JZ F J lk ((BU lk:Nat):Int) (GM J lk q (y+1),(y:Int)) cur (match DD J lk q y (m:Int) with | some c=>(c:Int) | none=>100)) F (List.replicate (lk.length+1) 0,match DD J lk q y (m:Int) with | some c=>(c:Int) | none=>100)=some (NR J lk q d y (m:Int)):=by
 have av:=O.len;have a0:=Hp O;refine CO ?_;cases K:DD J lk q y (m:Int) with
 | none=>
  simp only;refine Cj 0 (fun i s=>s=(List.replicate (lk.length+1) 0,100)) rfl (by omega) (fun i s hi=>by omega) ?_;rintro s rfl;unfold JZ;refine A9 (by simp only;omega) (Ak ⟨_,rfl,?_⟩);rw [Nn];exact FK fun j U=>by rw [OM K];rfl
 | some c=>
  simp only;rw [ZZ (d:=d) K];have a1:c≤16:=by
   unfold DD at K;split at K
   ·cases K;exact Mk _
   ·cases K
  refine Cj (lk.length+1 - c) (fun i s=>s=(GI J lk q d y (m:Int) (c+i),((c+i:Nat):Int))) rfl (by omega) ?_ ?_
  ·rintro i s hi rfl;unfold JZ;refine Br (by simp only;omega) (AD (S:=fun r=>r=GI J lk q d y (m:Int) (c+(i+1))) ?_ ?_)
   ·cases d with
    | zero=>
     refine Br (by simp only;omega) (AD (S:=fun r=>r=GI J lk q 0 y (m:Int) (c+(i+1))) ?_ (fun r am=>Ak am));have key:∀v:Int,v=((ways J lk q 0 y (m:Int) (c+i):Nat):Int)→(List.range (lk.length+1)).map (fun j=>if j=c+i then v else if j<c+i then((ways J lk q 0 y (m:Int) j:Nat):Int) else 0)=GI J lk q 0 y (m:Int) (c+(i+1)):=fun v ap=>FK fun j U=>by
      by_cases e:j=c+i
      ·rw [if_pos e,if_pos (by omega),e,ap]
      ·rw [if_neg e];by_cases V:j<c+i
       ·rw [if_pos V,if_pos (by omega)]
       ·rw [if_neg V,if_neg (by omega)]
     refine Bn (fun h=>?_) (fun h=>?_)
     ·simp only at h;refine D1 (i:=c+i) rfl (by omega) (Ak ?_);simp only;rw [show Int.toNat ((c+i:Nat):Int)=c+i by omega];unfold GI;rw [Lb];refine key 1 ?_;unfold ways;rw [K];simp only;rw [if_pos (by omega)];rfl
     ·simp only at h;refine Ak ?_;rw [← key 0 (by unfold ways;rw [K];simp only;rw [if_neg (by omega)];rfl)];refine FK fun j U=>?_;by_cases e:j=c+i
      ·rw [if_pos e,if_neg (by omega)]
      ·rw [if_neg e]
    | succ d=>
     refine A9 (by simp only;omega) (AO (U2 (st:=(GI J lk q (d+1) y (m:Int) (c+i),((c+i:Nat):Int))) Y Z O hm ag (by omega) (by omega) K al rfl) (Ak rfl))
   ·rintro r rfl;exact AV ((c+(i+1):Nat):Int) (by simp only;omega) (by omega) (by omega) (Ak rfl)
  ·rintro s rfl;unfold JZ;refine A9 (by simp only;omega) (Ak ⟨_,rfl,Wc (by omega)⟩)
theorem Sy{F n q:Nat}{J:JW}{lk:A8}{h:Int}(U:100<F)(K:VJ n J)(O:B4 n lk)(Y:PN h q):f80 F J lk h=some (GM J lk q 0):=by
 have Z:=K.l1;have am:=O.len;have ap:=Hp O;have av:=K.le;have a0:=K.pos;refine CO ?_;unfold f80;refine AO (Yv O) ?_;refine AV ((BU lk+1:Nat):Int) (by simp) (by omega) (by omega) ?_;refine AO (b:=GM J lk q (BU lk+1)) ?_ ?_
 ·unfold F4;rw [if_pos (by omega),show Int.toNat ((BU lk+1:Nat):Int)=BU lk+1 by omega,Nn];exact congrArg some (FK fun i hi=>(if_pos hi).symm)
 refine AD (S:=fun r=>r=GM J lk q 0) ?_ (fun r ag=>Ak ag);refine Mv (fun t s=>t≤BU lk+1∧s=(GM J lk q t,(t:Int) - 1)) ?_ (m:=BU lk+1) ⟨Nat.le_refl _,by simp⟩ (by omega);rintro t s ⟨ht,rfl⟩;unfold O5;cases t with
 | zero=>exact A9 (by simp) (Ak rfl)
 | succ y=>
  have al:((y+1:Nat):Int) - 1=(y:Int):=by omega
  simp only [al];refine Br (by omega) (D1 (i:=y) rfl (by omega) ?_);rw [if_pos (by omega)];refine AO (b:=()) (by simp [LC]) (AD (S:=fun r=>r=WR J lk q (BU lk - y) y) ?_ ?_)
  ·refine Cj n (fun i s=>s=((List.range i).map (fun m=>NR J lk q (BU lk - y) y ((m:Nat):Int)),(i:Int))) rfl (by omega) ?_ ?_
   ·rintro i s hi rfl;unfold Nh;refine Br (by simp only;omega) (AV ((lk.length+1:Nat):Int) (by simp) (by omega) (by omega) ?_);refine AO (b:=List.replicate (lk.length+1) (0:Int)) (by unfold F4;rw [if_pos (by omega)];rfl) (AO (RH U K O hi Y) ?_);refine AO (Vh (d:=BU lk - y) U K O hi (by omega) rfl) (IN (by simp;omega) ?_);refine AV ((i+1:Nat):Int) (by simp) (by omega) (by omega) (Ak (Prod.ext ?_ rfl));simp only;rw [List.range_succ,List.map_append];rfl
   ·rintro s rfl;unfold Nh;refine A9 (by simp only;omega) (Ak ⟨_,rfl,?_⟩);unfold WR;rw [Z]
  ·rintro r rfl;refine AO (b:=()) ?_ ?_
   ·unfold NZ;rw [if_neg];intro e;have:=congrArg List.length e;unfold WR at this;rw [List.length_map,List.length_range] at this;simp only [List.length_nil] at this;omega
   refine AV ((y:Int) - 1) rfl (by omega) (by omega) (Ak ⟨y,Nat.lt_succ_self y,by omega,Prod.ext ?_ rfl⟩);simp only;rw [show Int.toNat (y:Int)=y by omega];unfold GM;rw [Lb];refine FK fun j a1=>?_;by_cases e:j=y
   ·rw [if_pos e,e,if_neg (by omega)]
   ·rw [if_neg e];by_cases V:j<y
    ·rw [if_pos (by omega),if_pos V]
    ·rw [if_neg (by omega),if_neg V]
end Pal
namespace Pal
def Gp(J:JW)(lk:A8)(q a m k:Nat):Nat:=((Ck (AG J a) m).map fun x=>ways J lk q (BU lk) 0 x k).sum
theorem R3{n q a m k:Nat}{J:JW}{lk:A8}(K:VJ n J)(O:B4 n lk)(hm:m≤8):Gp J lk q a m k≤8*729:=by
 refine Nat.le_trans (Nr (b:=729) fun z U=>?_) ?_
 ·obtain⟨x,_,rfl⟩:=List.mem_map.1 U;exact OU K (Hp O)
 ·rw [List.length_map];exact Nat.mul_le_mul_right _ (Nat.le_trans (Mf _ _) hm)
theorem Sm{n q a k:Nat}{J:JW}{lk:A8}(K:VJ n J):Gp J lk q a n k=nT J lk q a k:=by
 have O:=K.le;rw [OG K];unfold Gp;have:=Uh (Hy K a) (16 - n);rw [show n+(16 - n)=16 by omega] at this;rw [this]
theorem TD{n q a k:Nat}{J:JW}{lk:A8}(K:VJ n J)(O:B4 n lk):nT J lk q a k≤8*729:=by
 rw [← Sm K];exact R3 K O K.le
def TR(J:JW)(lk:A8)(q a:Nat):List Int:=(List.range (lk.length+1)).map fun k=>((nT J lk q a k:Nat):Int)
def H7(J:JW)(lk:A8)(q:Nat):List (List Int):=(List.range 13).map (TR J lk q)
theorem TC{J:JW}{lk:A8}{q:Nat}:(GM J lk q 0)[0]? =some (WR J lk q (BU lk) 0):=by
 unfold GM;rw [J1 (by omega),if_neg (by omega)];rfl
theorem O1{F n q:Nat}{J:JW}{lk:A8}{h:Int}(U:100<F)(K:VJ n J)(O:B4 n lk)(al:PN h q):f79 F J lk h=some (H7 J lk q):=by
 have a1:=K.l1;have a2:=O.len;have a3:=K.le;refine CO ?_;unfold f79;refine AO (Sy U K O al) ?_;refine AD (S:=fun r=>r=H7 J lk q) ?_ (fun r am=>Ak am);refine Cj 13 (fun a s=>s=((List.range a).map (TR J lk q),(a:Int))) rfl (by omega) ?_ ?_
 ·rintro a s ap rfl;unfold M8;refine Br (by simp only;omega) (AV ((lk.length+1:Nat):Int) (by simp) (by omega) (by omega) ?_);refine AO (b:=List.replicate (lk.length+1) (0:Int)) (by unfold F4;rw [if_pos (by omega)];rfl) (AD (S7 U K ap) ?_);rintro l ⟨a4,av⟩;refine AD (S:=fun r=>r=TR J lk q a) ?_ ?_
  ·refine Cj n (fun m s=>s=((List.range (lk.length+1)).map (fun k=>((Gp J lk q a m k:Nat):Int)),(m:Int))) ?_ (by omega) ?_ ?_
   ·rw [Nn];rfl
   ·rintro m s hm rfl;unfold Np;refine Br (by simp only;omega) ?_;have V:ix l (m:Int)=some ((AG J a).testBit m):=DC rfl (av m hm);have Y:∀k,Gp J lk q a (m+1) k=if(AG J a).testBit m=true then Gp J lk q a m k+ways J lk q (BU lk) 0 (m:Int) k else Gp J lk q a m k:=fun k=>by
     unfold Gp;rw [Oe];split
     ·simp
     ·rfl
    refine AD (S:=fun r=>r=(List.range (lk.length+1)).map (fun k=>((Gp J lk q a (m+1) k:Nat):Int))) ?_ ?_
    ·cases hb:(AG J a).testBit m with
     | false=>
      refine Cj 0 (fun i s=>s=((List.range (lk.length+1)).map (fun k=>((Gp J lk q a m k:Nat):Int)),(0:Int))) rfl (by omega) (fun i s hi=>by omega) ?_;rintro s rfl;unfold La;refine AO (b:=false) ?_ ?_
      ·simp only;rw [if_pos (by simp),V,hb];rfl
      ·refine A9 (by simp) (Ak ⟨_,rfl,FK fun k _=>?_⟩);rw [Y,hb,if_neg (by simp)]
     | true=>
      refine Cj (lk.length+1) (fun i s=>s=((List.range (lk.length+1)).map (fun k=>if k<i then((Gp J lk q a (m+1) k:Nat):Int) else((Gp J lk q a m k:Nat):Int)),(i:Int))) ?_ (by omega) ?_ ?_
      ·exact Prod.ext (FK fun k _=>(if_neg (by omega)).symm) rfl
      ·rintro i s hi rfl;unfold La;refine AO (b:=true) ?_ ?_
       ·simp only;rw [if_pos (by simp;omega),V,hb];rfl
       refine Br rfl (D1 (i:=i) rfl hi ?_);rw [if_neg (by omega)];refine AO (DC (m:=0) rfl TC) (D1 (i:=m) rfl (by omega) ?_);refine D1 (i:=i) rfl hi ?_;have a5:=R3 (q:=q) (a:=a) (m:=m) (k:=i) K O (by omega);have a6:=OU (q:=q) (d:=BU lk) (y:=0) (k:=i) (m:=(m:Int)) (lk:=lk) K (Hp O);have Z:=Y i;rw [hb,if_pos rfl] at Z;refine AV ((Gp J lk q a (m+1) i:Nat):Int) (by rw [Z];simp only [Int.natCast_add]) (by omega) (by omega) (D1 (i:=i) rfl hi ?_);refine AV ((i+1:Nat):Int) (by simp) (by omega) (by omega) (Ak (Prod.ext ?_ rfl));simp only;rw [show Int.toNat (i:Int)=i by omega,Lb];refine FK fun j a7=>?_;by_cases e:j=i
       ·rw [if_pos e,if_pos (by omega),e]
       ·rw [if_neg e];by_cases ag:j<i
        ·rw [if_pos ag,if_pos (by omega)]
        ·rw [if_neg ag,if_neg (by omega)]
      ·rintro s rfl;unfold La;refine AO (b:=false) ?_ ?_
       ·rw [if_neg (by simp)]
       ·refine A9 (by simp) (Ak ⟨_,rfl,FK fun k a0=>if_pos a0⟩)
    ·rintro r rfl;exact AV ((m+1:Nat):Int) (by simp) (by omega) (by omega) (Ak rfl)
   ·rintro s rfl;unfold Np;refine A9 (by simp only;omega) (Ak ⟨_,rfl,FK fun k _=>?_⟩);rw [Sm K]
  ·rintro r rfl;refine IN (by simp;omega) (AV ((a+1:Nat):Int) (by simp) (by omega) (by omega) ?_);refine Ak (Prod.ext ?_ rfl);simp only;rw [List.range_succ,List.map_append];rfl
 ·rintro s rfl;unfold M8;exact A9 (by simp) (Ak ⟨_,rfl,rfl⟩)
theorem QW{n a:Nat}{J:JW}{lk:A8}(K:VJ n J)(O:B4 n lk){t:CR}(ht:t∈TA J lk a):CQ t≤lk.length:=by
 rw [W5 K O ht];exact List.length_filter_le _ _
def Jj(J:JW)(lk:A8)(q k:Nat):Nat:=(TT J lk).countP fun t=>decide (CQ t=k)&& !t.2.2.testBit q
theorem Yi(J:JW)(lk:A8)(q k:Nat):Jj J lk q k=((List.range 13).map fun a=>nT J lk q a k).sum:=by
 unfold Jj TT;rw [List.countP_flatMap];rfl
theorem ZU{n q a k:Nat}{J:JW}{lk:A8}(K:VJ n J)(O:B4 n lk)(U:lk.length≤q):0<nT J lk q a k↔∃t∈TA J lk a,CQ t=k:=by
 rw [XS K O U,List.countP_pos_iff];simp only [decide_eq_true_iff]
theorem YI{F n:Nat}{J:JW}{lk:A8}(av:100<F)(Z:VJ n J)(V:B4 n lk):AZ (f95 F J lk) (fun r=>(TT J lk= []∧r= -1)∨∃k,Fw J lk k∧r=(k:Int)):=by
 have a2:=V.len;have al:∀a k,0<nT J lk 16 a k↔∃t∈TA J lk a,CQ t=k:=fun a k=>ZU Z V (by omega);unfold f95;refine AO (O1 av Z V (.inl ⟨rfl,rfl⟩)) ?_;refine AD (S:=fun r=>(r=Sum.inr ()∧TT J lk= [])∨∃k,Fw J lk k∧r=Sum.inl (k:Int)) ?_ ?_
 ·refine Cj (lk.length+1) (fun k s=>s=(k:Int)∧∀k',k'<k→∀a,a<13→∀t∈TA J lk a,CQ t≠k') ⟨rfl,fun k' am=>by omega⟩ (by omega) ?_ ?_
  ·rintro k s am ⟨rfl,Y⟩;unfold Nk;refine Br (by omega) (AD (S:=fun r=>(r=Sum.inr ()∧∀a,a<13→∀t∈TA J lk a,CQ t≠k)∨(r=Sum.inl (k:Int)∧∃a,a<13∧∃t∈TA J lk a,CQ t=k)) ?_ ?_)
   ·refine Cj 13 (fun a s=>s=(a:Int)∧∀U,U<a→∀t∈TA J lk U,CQ t≠k) ⟨rfl,fun U K=>by omega⟩ (by omega) ?_ ?_
    ·rintro a s K ⟨rfl,ag⟩;unfold Nu;refine Br (by omega) (D1 (i:=a) rfl K ?_);refine D1 (i:=k) rfl am (Bn (fun h=>?_) (fun h=>?_))
     ·exact Ak (.inr ⟨rfl,a,K,(al a k).1 (by omega)⟩)
     ·refine AV ((a+1:Nat):Int) (by simp) (by omega) (by omega) (Ak ⟨rfl,fun U a3 t ht e=>?_⟩);rcases Nat.lt_or_ge U a with O | O
      ·exact ag U O t ht e
      ·obtain rfl:U=a:=by omega
       have:=(al U k).2 ⟨t,ht,e⟩;omega
    ·rintro s ⟨rfl,ag⟩;unfold Nu;exact A9 (by omega) (Ak ⟨_,rfl,.inl ⟨rfl,ag⟩⟩)
   ·rintro r (⟨rfl,a0⟩ | ⟨rfl,a,K,t,ht,e⟩)
    ·rw [Sum.elim_inr];refine AV ((k+1:Nat):Int) (by simp) (by omega) (by omega) (Ak ⟨rfl,fun k' a4 a K t ht e=>?_⟩);rcases Nat.lt_or_ge k' k with O | O
     ·exact Y k' O a K t ht e
     ·obtain rfl:k'=k:=by omega
      exact a0 a K t ht e
    ·rw [Sum.elim_inl];refine Ak (.inr ⟨k,⟨⟨t,J0.2 ⟨a,K,ht⟩,e⟩,fun u hu=>?_⟩,rfl⟩);obtain⟨b,hb,a1⟩:=J0.1 hu;rcases Nat.lt_or_ge (CQ u) k with O | O
     ·exact absurd rfl (Y _ O b hb u a1)
     ·exact O
  ·rintro s ⟨rfl,Y⟩;unfold Nk;refine A9 (by omega) (Ak ⟨_,rfl,.inl ⟨rfl,?_⟩⟩);refine List.eq_nil_iff_forall_not_mem.2 fun t ht=>?_;obtain⟨a,K,ap⟩:=J0.1 ht;exact Y _ (by have:=QW Z V ap;omega) a K t ap rfl
 ·rintro r (⟨rfl,h⟩ | ⟨k,h,rfl⟩)
  ·exact Ak (.inl ⟨h,rfl⟩)
  ·exact Ak (.inr ⟨k,h,rfl⟩)
theorem XB{F n q k:Nat}{J:JW}{lk:A8}(Z:100<F)(K:VJ n J)(O:B4 n lk)(ag:k≤lk.length):f105 F (H7 J lk q) (k:Int)=some ((Jj J lk q k:Nat):Int):=by
 have U:∀i,i≤13→((List.range i).map fun a=>nT J lk q a k).sum≤13*(8*729):=fun i hi=>by
  refine Nat.le_trans (Nr (b:=8*729) fun z V=>?_) ?_
  ·obtain⟨x,_,rfl⟩:=List.mem_map.1 V;exact TD K O
  ·rw [List.length_map,List.length_range];exact Nat.mul_le_mul_right _ hi
 refine CO ?_;unfold f105;refine AD (S:=fun r=>r=((Jj J lk q k:Nat):Int)) ?_ (fun r Y=>Ak Y);refine Cj 13 (fun i s=>s=(((((List.range i).map fun a=>nT J lk q a k).sum:Nat):Int),(i:Int))) rfl (by omega) ?_ ?_
 ·rintro i s hi rfl;unfold MJ;refine Br (by simp only [H7,List.length_map,List.length_range];omega) (D1 (i:=i) rfl hi ?_);refine D1 (i:=k) rfl (by omega) ?_;have al:=U i (by omega);have am:=TD (q:=q) (a:=i) (k:=k) K O;refine AV (((((List.range (i+1)).map fun a=>nT J lk q a k).sum:Nat)):Int) ?_ (by omega) ?_ ?_
  ·rw [List.range_succ,List.map_append,List.sum_append];simp
  ·have:=U (i+1) (by omega);omega
  exact AV ((i+1:Nat):Int) (by simp) (by omega) (by omega) (Ak rfl)
 ·rintro s rfl;unfold MJ;refine A9 (by simp only [H7,List.length_map,List.length_range];omega) (Ak ⟨_,rfl,?_⟩);rw [Yi]
end Pal
namespace Pal
theorem Us{n:Nat}{lk:A8}(h:Ha n lk=none):B4 n lk∧lk.length≤4:=by
 unfold Ha at h;split at h
 ·cases h
 rename_i ap;have K:∀i (hi:i<lk.length),¬(lk[i].1<0∨6<lk[i].1)∧¬(0<i∧lk[i].1<(lk.getD (i - 1) (0,0)).1)∧¬(lk[i].2<0∨(n:Int) - 1<lk[i].2):=fun i hi=>by
  have:=List.findSome?_eq_none_iff.1 h i (List.mem_range.2 hi);unfold EV at this;rw [Ee hi] at this;split at this
  ·cases this
  ·split at this
   ·cases this
   ·split at this
    ·cases this
    ·rename_i V Y Z;exact⟨V,Y,Z⟩
 refine⟨⟨by omega,fun l O=>?_,fun l O=>?_,?_⟩,by omega⟩
 ·obtain⟨i,hi,rfl⟩:=List.mem_iff_getElem.1 O;have:=(K i hi).1;omega
 ·obtain⟨i,hi,rfl⟩:=List.mem_iff_getElem.1 O;have:=(K i hi).2.2;omega
 ·have step:∀i (hi:i+1<lk.length),lk[i].1≤lk[i+1].1:=fun i hi=>by
   have:=(K (i+1) hi).2.1;rw [show i+1 - 1=i by omega,Ee (by omega)] at this;omega
  rw [List.pairwise_iff_getElem];intro i j hi av a0;have key:∀k (U:i+1+k<lk.length),lk[i].1≤lk[i+1+k].1:=fun k=>by
   induction k with
   | zero=>intro U;exact step i U
   | succ k ag=>intro U;have al:=ag (by omega);have am:=step (i+1+k) (by omega);exact Int.le_trans al am
  have:=key (j - i - 1) (by omega);simpa [show i+1+(j - i - 1)=j by omega] using this
theorem IZ{J:JW}{lk:A8}(h:CL J lk=0):VJ J.1.length J∧B4 J.1.length lk∧lk.length≤4:=by
 unfold CL at h;cases O:CJ J with
 | some c=>rw [O] at h;exact absurd h (Tx O)
 | none=>
  rw [O] at h;refine⟨Wv O,Us ?_⟩;cases K:Ha J.1.length lk with
  | none=>rfl
  | some c=>
   rw [K] at h;simp only [Option.getD_some] at h;subst h;exfalso;unfold Ha at K;split at K
   ·cases K
   ·obtain⟨i,_,hi⟩:=List.exists_of_findSome?_eq_some K;unfold EV at hi;split at hi
    ·cases hi
    ·split at hi
     ·cases hi
     ·split at hi <;> cases hi
theorem YJ{F:Nat}{J:JW}{lk:A8}(K:100<F)(O:NL J)(h:CL J lk=0):Hz F J lk=f69 F J lk:=by
 obtain⟨U,V,Y⟩:=IZ h;rw [OA K O,h,S5 K U V Y]
theorem Sx{F:Nat}{J:JW}{lk:A8}{p:Int}{b:Bool}(K:100<F)(O:NL J)(h:CL J lk=0):HA F J lk p b=f78 F J lk p b:=by
 unfold HA f78;rw [YJ K O h]
def bn(J:JW)(lk:A8)(r:Int×Int):Prop:=(CL J lk≠0∧r=(0,CL J lk))∨(CL J lk=0∧((TT J lk= []∧r=(0,11))∨∃k,Fw J lk k∧r=((k:Int),0)))
theorem Fw.ne{J:JW}{lk:A8}{k:Nat}(h:Fw J lk k):TT J lk≠ []:=fun e=>by
 obtain⟨⟨t,ht,_⟩,_⟩:=h
 rw [e] at ht;simp at ht
theorem R6{F:Nat}{J:JW}{lk:A8}(U:100<F)(V:NL J):AZ (f48 F J lk) (bn J lk):=by
 unfold f48;refine AO (XU U V) (Bn (fun h=>Ak (.inl ⟨h,rfl⟩)) (fun h=>?_));have K:CL J lk=0:=by simpa using h
 obtain⟨Y,Z,ag⟩:=IZ K;refine AD (YI U Y Z) ?_;rintro r (⟨O,rfl⟩ | ⟨k,O,rfl⟩)
 ·exact Br (by omega) (Ak (.inr ⟨K,.inl ⟨O,rfl⟩⟩))
 ·exact A9 (by omega) (Ak (.inr ⟨K,.inr ⟨k,O,rfl⟩⟩))
theorem P3{α:Type}(p b:α→Bool):∀l:List α,l.countP (fun x=>p x&& !b x)+((l.filter p).filter b).length=(l.filter p).length
 | []=>rfl
 | x::l=>by
  have:=P3 p b l
  simp only [List.countP_cons,List.filter_cons]
  cases K:p x <;> cases hb:b x <;> simp [hb,-List.filter_filter] <;> omega
theorem UX(J:JW)(lk:A8)(q k:Nat):Jj J lk q k+((F2 J lk k).filter fun t=>t.2.2.testBit q).length=(F2 J lk k).length:=P3 _ _ _
theorem Xw{n k q:Nat}{J:JW}{lk:A8}(K:VJ n J)(O:B4 n lk)(Y:lk.length≤q):Jj J lk q k=(F2 J lk k).length:=by
 have:=UX J lk q k;have e:(F2 J lk k).filter (fun t=>t.2.2.testBit q)= []:=by
  refine List.filter_eq_nil_iff.2 fun t ht=>?_;obtain⟨a,Z,U⟩:=J0.1 (List.mem_filter.1 ht).1;obtain⟨_,_,_,_,e⟩:=(Nj K O).1 U;intro hb;rw [e] at hb;obtain⟨l,V,_⟩:=(Mx _ _ _ _).1 hb;have:=(List.getElem?_eq_some_iff.1 V).1;omega
 rw [e] at this;simpa using this
end Pal
namespace Pal
theorem Zk{n i:Nat}{m:Int}{b:Bool}{l:List Int}:EK n m b l i≠some 11:=by
 unfold EK;split
 ·simp
 ·split
  ·simp
  ·split <;> simp
theorem R4{n:Nat}{m:Int}{b:Bool}{l:List Int}:EI n m b l≠some 11:=fun h=>by
 obtain⟨i,_,hi⟩:=List.exists_of_findSome?_eq_some h
 exact Zk hi
theorem aY{J:JW}:CJ J≠some 11:=fun h=>by
 unfold CJ at h
 split at h
 ·cases h
 ·split at h
  ·cases h
  ·split at h
   ·cases h
   ·obtain⟨i,_,hi⟩:=List.exists_of_findSome?_eq_some h;unfold D8 at hi;split at hi
    ·cases hi
    ·split at hi
     ·cases hi
     ·split at hi
      ·rename_i e;cases hi;exact R4 e
      ·split at hi
       ·cases hi
       ·exact R4 hi
theorem bf{J:JW}{lk:A8}:CL J lk≠11:=fun h=>by
 unfold CL at h
 cases O:CJ J with
 | some c=>rw [O] at h;simp only at h;rw [h] at O;exact aY O
 | none=>
  rw [O] at h
  simp only at h
  cases K:Ha J.1.length lk with
  | none=>rw [K] at h;simp at h
  | some c=>
   rw [K] at h
   simp only [Option.getD_some] at h
   subst h
   unfold Ha at K
   split at K
   ·cases K
   ·obtain⟨i,_,hi⟩:=List.exists_of_findSome?_eq_some K;unfold EV at hi;split at hi
    ·cases hi
    ·split at hi
     ·cases hi
     ·split at hi <;> cases hi
def Lz(J:JW)(lk:A8)(r:Int×Int):Prop:=(CL J lk≠0∧r=(0,CL J lk))∨(CL J lk=0∧((TT J lk= []∧r=(0,0))∨∃k,Fw J lk k∧r=(((F2 J lk k).length:Int),0)))
theorem Lz.uniq{J:JW}{lk:A8}{r q:Int×Int}(h:Lz J lk r)(V:Lz J lk q):r=q:=by
 rcases h with⟨O,rfl⟩ | ⟨O,K⟩ <;> rcases V with⟨U,rfl⟩ | ⟨U,g2⟩
 ·rfl
 ·exact absurd U O
 ·exact absurd O U
 ·rcases K with⟨K,rfl⟩ | ⟨k,K,rfl⟩ <;> rcases g2 with⟨g2,rfl⟩ | ⟨k',g2,rfl⟩
  ·rfl
  ·exact absurd K g2.ne
  ·exact absurd g2 K.ne
  ·rw [K.uniq g2]
theorem V1{F:Nat}{J:JW}{lk:A8}(Z:268435456<F)(O:NL J):AZ (Jc F J lk) (Lz J lk):=by
 by_cases h:CL J lk=0
 ·obtain⟨ag,al,am⟩:=IZ h;unfold Jc;rw [Sx (by omega) O h];refine AD (SL true Z ag al am ⟨by omega,by omega⟩) ?_;rintro⟨x,⟨q1,q2⟩,e⟩ ⟨U,g2⟩;simp only at U g2;rw [if_neg (by simp)] at g2;subst g2;refine Ak (.inr ⟨h,?_⟩);rcases U with⟨V,K⟩ | ⟨k,V,K,ap,Y⟩
  ·cases K;exact .inl ⟨V,rfl⟩
  ·simp only at Y;refine .inr ⟨k,⟨K,ap⟩,?_⟩;simp only;rw [Y];rfl
 ·unfold Jc HA;refine AO (b:=(none,(0,[]),CL J lk)) ?_ (Ak (.inl ⟨h,rfl⟩));rw [OA (by omega) O,Option.bind_some,if_pos h]
theorem XA{F n q k:Nat}{J:JW}{lk:A8}(K:100<F)(O:VJ n J)(U:B4 n lk)(V:k≤lk.length):iter (MJ F (H7 J lk q) (k:Int)) F (0,0)=some ((Jj J lk q k:Nat):Int):=by
 have h:=XB (q:=q) K O U V;unfold f105 at h;obtain⟨x,Y,Z⟩:=Option.bind_eq_some_iff.1 h;rw [Y,Z]
theorem Fw.le{n k:Nat}{J:JW}{lk:A8}(K:VJ n J)(O:B4 n lk)(h:Fw J lk k):k≤lk.length:=by
 obtain⟨⟨t,ht,rfl⟩,_⟩:=h;obtain⟨a,V,U⟩:=J0.1 ht;exact QW K O U
theorem XP{F:Nat}{J:JW}{lk:A8}(V:100<F)(Y:NL J):AZ (f29 F J lk) (Lz J lk):=by
 unfold f29;refine AD (R6 V Y) ?_;rintro r (⟨g,rfl⟩ | ⟨h,⟨K,rfl⟩ | ⟨k,K,rfl⟩⟩)
 ·exact A9 bf (Br g (Ak (.inl ⟨g,rfl⟩)))
 ·exact Br rfl (Ak (.inr ⟨h,.inl ⟨K,rfl⟩⟩))
 ·refine A9 (by simp) (A9 (by simp) ?_);obtain⟨O,U,Z⟩:=IZ h;refine AO (O1 V O U (.inl ⟨rfl,rfl⟩)) (AO (XA (q:=16) V O U (K.le O U)) ?_);refine Ak (.inr ⟨h,.inr ⟨k,K,?_⟩⟩);rw [Xw O U (by omega)]
def H3(J:JW)(lk:A8)(q lo hi a:Nat):Bool:=(List.range (lk.length+1)).any fun k=>decide (lo≤k)&&decide (k≤hi)&&decide (0<nT J lk q a k)
theorem Rq{J:JW}{lk:A8}{q lo hi a:Nat}:H3 J lk q lo hi a=true↔∃k,k≤lk.length∧lo≤k∧k≤hi∧0<nT J lk q a k:=by
 unfold H3;simp only [List.any_eq_true,List.mem_range,Bool.and_eq_true,decide_eq_true_iff];exact⟨fun⟨k,V,⟨K,O⟩,U⟩=>⟨k,by omega,K,O,U⟩,fun⟨k,V,K,O,U⟩=>⟨k,by omega,⟨K,O⟩,U⟩⟩
def Nz(J:JW)(lk:A8)(q lo hi:Nat):List Int:=((List.range 13).filter (H3 J lk q lo hi)).map fun(a:Nat)=>(a:Int)
theorem ZV{F n q lo hi:Nat}{J:JW}{lk:A8}(al:100<F)(am:VJ n J)(Z:B4 n lk)(ap:lo≤lk.length)(av:hi<20):f81 F (H7 J lk q) (lo:Int) (hi:Int)=some (Nz J lk q lo hi):=by
 have a0:=Z.len;refine CO ?_;unfold f81;refine AD (S:=fun r=>r=Nz J lk q lo hi) ?_ (fun r K=>Ak K);refine Cj 13 (fun a s=>s=(((List.range a).filter (H3 J lk q lo hi)).map (fun(a:Nat)=>(a:Int)),(a:Int))) rfl (by omega) ?_ ?_
 ·rintro a s V rfl;unfold M1;refine Br (by simp only [H7,List.length_map,List.length_range];omega) (AD (S:=fun r=>r=H3 J lk q lo hi a) ?_ ?_)
  ·refine Cj (min hi lk.length+1 - lo) (fun i s=>s.2=((lo+i:Nat):Int)∧(s.1=true↔∃k,lo≤k∧k<lo+i∧0<nT J lk q a k)) ⟨rfl,by simp;omega⟩ (by omega) ?_ ?_
   ·rintro i ⟨b,s⟩ a1 ⟨hs,hb⟩;simp only at hs hb;subst hs;unfold Na;refine AO (b:=true) ?_ ?_
    ·refine CO (Br (by simp only;omega) ?_);refine D1 (i:=a) rfl V (Ak (decide_eq_true ?_));simp only [TR,List.length_map,List.length_range];omega
    refine Br rfl (AD (S:=fun r=>r=true↔∃k,lo≤k∧k<lo+(i+1)∧0<nT J lk q a k) ?_ ?_)
    ·refine Bn (fun h=>?_) (fun h=>?_)
     ·obtain⟨k,k1,U,O⟩:=hb.1 h;exact Ak ⟨fun _=>⟨k,k1,by omega,O⟩,fun _=>rfl⟩
     ·refine D1 (i:=a) rfl V (D1 (i:=lo+i) rfl (by omega) ?_);refine Ak ?_;rw [decide_eq_true_iff];constructor
      ·intro a2;exact⟨lo+i,by omega,by omega,by omega⟩
      ·rintro⟨k,k1,U,O⟩;rcases Nat.lt_or_ge k (lo+i) with Y | Y
       ·exact absurd (hb.2 ⟨k,k1,Y,O⟩) h
       ·obtain rfl:k=lo+i:=by omega
        omega
    ·intro r K;exact AV ((lo+(i+1):Nat):Int) (by clear K hb;simp only;omega) (by clear K hb;omega) (by clear K hb;omega) (Ak ⟨rfl,K⟩)
   ·rintro⟨b,s⟩ ⟨hs,hb⟩;simp only at hs hb;subst hs;unfold Na;refine AO (b:=false) ?_ ?_
    ·refine CO (Bn (fun h=>?_) (fun h=>Ak rfl));refine D1 (i:=a) rfl V (Ak (decide_eq_false ?_));simp only at h;simp only [TR,List.length_map,List.length_range];omega
    refine A9 (by simp) (Ak ⟨_,rfl,?_⟩);simp only;rw [Bool.eq_iff_iff,hb,Rq];clear hb;exact⟨fun⟨k,k1,U,O⟩=>⟨k,by omega,k1,by omega,O⟩,fun⟨k,k1,U,O,ag⟩=>⟨k,U,by omega,ag⟩⟩
  ·rintro r rfl;refine AD (S:=fun c=>c=((List.range (a+1)).filter (H3 J lk q lo hi)).map (fun(a:Nat)=>(a:Int))) ?_ ?_
   ·rw [List.range_succ,List.filter_append,List.map_append];refine Bn (fun h=>?_) (fun h=>?_)
    ·refine IN ?_ (Ak ?_)
     ·rw [List.length_map];exact Nat.le_trans (Nat.add_le_add_right (Nat.le_trans (List.length_filter_le _ _) (Nat.le_of_eq (List.length_range))) 1) (by omega)
     ·simp [List.filter_cons,h]
    ·refine Ak ?_;simp [List.filter_cons,h]
   ·rintro c rfl;exact AV ((a+1:Nat):Int) (by simp) (by omega) (by omega) (Ak rfl)
 ·rintro s rfl;unfold M1;exact A9 (by simp only [H7,List.length_map,List.length_range];omega) (Ak ⟨_,rfl,rfl⟩)
end Pal
namespace Pal
def Gk(J:JW)(lk:A8):Nat→Nat→Int→Nat→List Int
 | 0,_,m,_=> [m]
 | d+1,y,m,c=>m::(match DD J lk 16 y m with
  | some n=>(match(J.1.getD m.toNat []).find? (fun x=>decide (0<ways J lk 16 d (y+1) x (c - n))) with
   | some x=>Gk J lk d (y+1) x (c - n)
   | none=> [])
  | none=> [])
theorem Qp{α β V:Type}{l:List α}{f:α→Option β}{g:β→V}{q:α→Bool}{h:α→V}(H:∀x∈l,(f x).map g=if q x=true then some (h x) else none):(l.findSome? f).map g=(l.find? q).map h:=by
 induction l with
 | nil=>rfl
 | cons x l U=>
  have K:=H x (by simp);have U:=U fun y Z=>H y (by simp [Z]);rw [List.findSome?_cons,List.find?_cons];cases Y:q x with
  | true=>
   rw [Y,if_pos rfl] at K;cases O:f x with
   | none=>rw [O] at K;cases K
   | some b=>rw [O] at K;simpa using K
  | false=>
   rw [Y,if_neg (by simp)] at K;cases O:f x with
   | none=>simpa using U
   | some b=>rw [O] at K;cases K
theorem Jq{α:Type}{f:α→Nat}:∀{l:List α},0<(l.map f).sum↔∃x∈l,0<f x
 | []=>by simp
 | x::l=>by
  have:=Jq (f:=f) (l:=l)
  simp only [List.map_cons,List.sum_cons,List.mem_cons,exists_eq_or_imp]
  rw [← this];omega
theorem Yk{α:Type}{l:List α}{p:α→Bool}(h:∀x∈l,p x=false):l.find? p=none:=List.find?_eq_none.2 fun x K=>by rw [h x K];simp
theorem bj{n:Nat}{J:JW}{lk:A8}(ag:VJ n J)(a2:B4 n lk):∀(d sm:Nat) (ms:List Int) (fl c:Nat),sm<2 ^ n→(∀i,fl.testBit i=true→∃l,lk[i]? =some l∧l.1<(ms.length:Int))→
  ((Dg J lk (d+1) sm ms fl).find? (fun x=>decide (Cg x.2=c+Cg fl))).map (·.1)=((Ck sm 16).find? (fun m=>decide (0<ways J lk 16 d ms.length m c))).map fun m=>ms++Gk J lk d ms.length m c:=by
 intro d
 induction d with
 | zero=>
  intro sm ms fl c a6 Y;unfold Dg;rw [List.find?_flatMap];refine Qp fun m hm=>?_;have al:∀i,¬(fl.testBit i=true∧(By lk ms.length m lk.length).testBit i=true):=fun i ⟨am,ap⟩=>by
   obtain⟨l,V,a3⟩:=Y i am;obtain⟨_,a7,K,a4,_⟩:=(Gf _ _ _ _ _).1 ap;rw [V] at K;cases K;omega
  have av:(By lk ms.length m lk.length).testBit 16=false:=RM (n:=n) a2;simp only [ways,DD,av,and_true];by_cases hb:Ei J lk ms.length m=true
  ·rw [if_pos hb,if_pos hb];simp only [Dg,List.find?_cons,List.find?_nil,KH al];by_cases Z:c=Cg (By lk ms.length m lk.length)
   ·rw [decide_eq_true (show Cg fl+Cg (By lk ms.length m lk.length)=c+Cg fl by omega)];simp [Gk,Z]
   ·rw [decide_eq_false (show ¬(Cg fl+Cg (By lk ms.length m lk.length)=c+Cg fl) by omega)];simp [Z]
  ·rw [if_neg hb,if_neg hb];simp
 | succ d a8=>
  intro sm ms fl c a6 Y;unfold Dg;rw [List.find?_flatMap];refine Qp fun m hm=>?_;obtain⟨q,_,be,rfl⟩:=Hk.1 hm;have a9:CM (J.1.getD q [])<2 ^ n:=by
   rcases Nat.lt_or_ge (CM (J.1.getD q [])) (2 ^ n) with h | h
   ·exact h
   ·obtain⟨i,bi,a5⟩:=Nat.exists_ge_and_testBit_of_ge_two_pow h;rw [Jv (fun x O=>((ag.EX q).inr x O).1)] at a5;have:=(ag.EX q).inr _ (of_decide_eq_true a5);omega
  have al:∀i,¬(fl.testBit i=true∧(By lk ms.length (q:Int) lk.length).testBit i=true):=fun i ⟨am,ap⟩=>by
   obtain⟨l,V,a3⟩:=Y i am;obtain⟨_,a7,K,a4,_⟩:=(Gf _ _ _ _ _).1 ap;rw [V] at K;cases K;omega
  have av:(By lk ms.length (q:Int) lk.length).testBit 16=false:=RM (n:=n) a2;have U:DD J lk 16 ms.length (q:Int)=if Ei J lk ms.length (q:Int)=true then some (Cg (By lk ms.length (q:Int) lk.length)) else none:=by
   unfold DD;simp only [av,and_true]
  by_cases hb:Ei J lk ms.length (q:Int)=true
  ·rw [if_pos hb];rw [if_pos hb] at U;have bb:=KH al;by_cases Z:Cg (By lk ms.length (q:Int) lk.length)≤c
   ·have:=a8 (CM (J.1.getD q [])) (ms++ [(q:Int)]) (fl ||| By lk ms.length (q:Int) lk.length) (c - Cg (By lk ms.length (q:Int) lk.length)) a9 (fun i hi=>by
      rw [Nat.testBit_or,Bool.or_eq_true] at hi
      rcases hi with hi | hi
      ·obtain⟨l,V,a3⟩:=Y i hi
       exact⟨l,V,by simp;omega⟩
      ·obtain⟨_,l,K,a4,_⟩:=(Gf _ _ _ _ _).1 hi
       exact⟨l,K,by simp;omega⟩)
    rw [Qk ag,bb,show c - Cg (By lk ms.length (q:Int) lk.length)+(Cg fl+Cg (By lk ms.length (q:Int) lk.length))=c+Cg fl by omega,List.length_append] at this;rw [show((q:Int)).toNat=q by omega,this];have hw:ways J lk 16 (d+1) ms.length (q:Int) c=((J.1.getD q []).map fun x=>ways J lk 16 d (ms.length+1) x (c - Cg (By lk ms.length (q:Int) lk.length))).sum:=by
     conv=>lhs;unfold ways
     rw [U];simp only;rw [if_pos Z,show((q:Int)).toNat=q by omega]
    have bd:Gk J lk (d+1) ms.length (q:Int) c=(q:Int)::(match(J.1.getD q []).find? (fun x=>decide (0<ways J lk 16 d (ms.length+1) x (c - Cg (By lk ms.length (q:Int) lk.length)))) with
      | some x=>Gk J lk d (ms.length+1) x (c - Cg (By lk ms.length (q:Int) lk.length))
      | none=> []):=by
     conv=>lhs;unfold Gk
     rw [U];simp only;rw [show((q:Int)).toNat=q by omega]
    rw [hw,bd];cases a0:(J.1.getD q []).find? (fun x=>decide (0<ways J lk 16 d (ms.length+1) x (c - Cg (By lk ms.length (q:Int) lk.length)))) with
    | some x=>
     have O:=List.mem_of_find?_eq_some a0;have a1:=List.find?_some a0;rw [if_pos (decide_eq_true (Jq.2 ⟨x,O,of_decide_eq_true a1⟩))];simp
    | none=>
     rw [if_neg (by
      rw [decide_eq_true_iff,Jq]
      rintro⟨x,O,a1⟩
      exact List.find?_eq_none.1 a0 x O (decide_eq_true a1))]
     rfl
   ·have hw:ways J lk 16 (d+1) ms.length (q:Int) c=0:=OS U (by omega);rw [hw,if_neg (by simp),Yk fun x O=>?_]
    ·rfl
    ·have:=Sf (OJ O);exact decide_eq_false (by omega)
  ·rw [if_neg hb];rw [if_neg hb] at U;rw [OM U,if_neg (by simp)];simp
theorem UA{n k:Nat}{J:JW}{lk:A8}(O:VJ n J)(V:B4 n lk):
  ((F2 J lk k)[0]?).map (fun t=>(t.1,t.2.1))=((List.range 13).findSome? fun a=>((Ck (AG J a) 16).find? (fun m=>decide (0<ways J lk 16 (BU lk) 0 m k))).map fun m=>((a:Int),Gk J lk (BU lk) 0 m k)):=by
 unfold F2;rw [← List.head?_eq_getElem?,List.head?_filter];unfold TT;rw [List.find?_flatMap,List.map_findSome?];refine congrArg (fun f=>List.findSome? f (List.range 13)) (funext fun a=>?_);have:=bj O V (BU lk) (AG J a) [] 0 k (Hy O a) (by simp);have e:Cg 0=0:=by decide
 rw [e] at this;simp only [List.length_nil,List.nil_append,Nat.add_zero] at this;unfold TA;change Option.map (fun t:CR=>(t.1,t.2.1)) (List.find? (fun t:CR=>decide (CQ t=k)) (List.map (fun x:List Int×Nat=>((a:Int),x.1,x.2)) (Dg J lk (BU lk+1) (AG J a) [] 0)))=_;rw [List.find?_map];have Y:(fun x:List Int×Nat=>decide (CQ ((a:Int),x.1,x.2)=k))=fun x=>decide (Cg x.2=k):=rfl;change Option.map _ (Option.map _ (List.find? (fun x:List Int×Nat=>decide (CQ ((a:Int),x.1,x.2)=k)) _))=_;rw [Y];cases U:(Dg J lk (BU lk+1) (AG J a) [] 0).find? (fun x=>decide (Cg x.2=k)) with
 | none=>
  rw [U] at this;cases K:(Ck (AG J a) 16).find? (fun m=>decide (0<ways J lk 16 (BU lk) 0 m k)) with
  | none=>rfl
  | some m=>rw [K] at this;cases this
 | some x=>
  rw [U] at this;cases K:(Ck (AG J a) 16).find? (fun m=>decide (0<ways J lk 16 (BU lk) 0 m k)) with
  | none=>rw [K] at this;cases this
  | some m=>
   rw [K] at this;simp only [Option.map_some,Option.some.injEq] at this ⊢;rw [← this]
def Ji(J:JW)(lk:A8)(r:Int×List Int×Int):Prop:=(CL J lk≠0∧r=(0,[],CL J lk))∨(CL J lk=0∧((TT J lk= []∧r=(0,[],11))∨∃k t,Fw J lk k∧(F2 J lk k)[0]? =some t∧r=(t.1,t.2.1,0)))
theorem Ji.uniq{J:JW}{lk:A8}{r q:Int×List Int×Int}(h:Ji J lk r)(Y:Ji J lk q):r=q:=by
 rcases h with⟨O,rfl⟩ | ⟨O,K⟩ <;> rcases Y with⟨U,rfl⟩ | ⟨U,g2⟩
 ·rfl
 ·exact absurd U O
 ·exact absurd O U
 ·rcases K with⟨K,rfl⟩ | ⟨k,t,K,Z,rfl⟩ <;> rcases g2 with⟨g2,rfl⟩ | ⟨k',ag,g2,V,rfl⟩
  ·rfl
  ·exact absurd K g2.ne
  ·exact absurd g2 K.ne
  ·obtain rfl:=K.uniq g2;rw [Z] at V;cases V;rfl
theorem Ji.len{J:JW}{lk:A8}{r:Int×List Int×Int}(h:Ji J lk r):r.2.1.length≤20:=by
 rcases h with⟨_,rfl⟩ | ⟨K,⟨_,rfl⟩ | ⟨k,t,_,U,rfl⟩⟩
 ·simp
 ·simp
 ·obtain⟨K,O,_⟩:=IZ K;have:=List.mem_of_getElem? U;obtain⟨a,Y,V⟩:=J0.1 (List.mem_filter.1 this).1;have Z:=((Nj K O).1 V).2.1;have:=Hp O;simp only;omega
theorem Wg{F:Nat}{J:JW}{lk:A8}(O:268435456<F)(K:NL J):AZ (IE F J lk) (Ji J lk):=by
 by_cases h:CL J lk=0
 ·obtain⟨U,V,Y⟩:=IZ h;have e:IE F J lk=f30 F J lk:=by
   unfold IE f30;rw [Sx (by omega) K h]
  rw [e];exact(Z5 O U V Y).Ah fun r Z=> .inr ⟨h,Z⟩
 ·unfold IE HA;refine AO (b:=(none,(0,[]),CL J lk)) ?_ (Br h (Ak (.inl ⟨h,rfl⟩)));rw [OA (by omega) K,Option.bind_some,if_pos h]
theorem Zv{F n m k:Nat}{J:JW}{lk:A8}(a3:100<F)(Y:VJ n J)(ap:B4 n lk)(hm:m<n)(a4:k≤lk.length)(hw:0<ways J lk 16 (BU lk) 0 (m:Int) k):f83 F J lk (GM J lk 16 0) (m:Int) (k:Int)=some (Gk J lk (BU lk) 0 (m:Int) k):=by
 have bz:=Y.l1;have bA:=ap.len;have bB:=Hp ap;have bC:=Y.le;have hlen:(GM J lk 16 0).length=BU lk+1:=by unfold GM;rw [List.length_map,List.length_range]
 refine CO ?_;unfold f83;refine AD (S:=fun r=>r=Gk J lk (BU lk) 0 (m:Int) k) ?_ (fun r a5=>Ak a5);refine Cj (BU lk) (fun i s=>∃(q c:Nat) (pre:List Int),s=((q:Int),(c:Int),pre++ [(q:Int)],((i+1:Nat):Int))∧q<n∧c≤lk.length∧pre.length≤i∧0<ways J lk 16 (BU lk - i) i (q:Int) c∧Gk J lk (BU lk) 0 (m:Int) k=pre++Gk J lk (BU lk - i) i (q:Int) c) ⟨m,k,[],rfl,hm,a4,by simp,hw,rfl⟩ (by omega) ?_ ?_
 ·rintro i s hi ⟨q,c,pre,rfl,a1,a6,a7,O,Z⟩;unfold Nc;refine Br (by simp only [hlen];omega) (AV (i:Int) (by simp only;omega) (by omega) (by omega) ?_);refine AO (RH a3 Y ap a1 (.inl ⟨rfl,rfl⟩)) ?_;obtain⟨d,a8⟩:∃d,BU lk - i=d+1:=⟨BU lk - i - 1,by omega⟩;rw [a8] at O Z;cases ag:DD J lk 16 i (q:Int) with
  | none=>rw [OM ag] at O;omega
  | some e=>
   simp only;have a9:e≤c:=by
    rcases Nat.lt_or_ge c e with h | h
    ·rw [OS ag h] at O;omega
    ·exact h
   refine AV ((c - e:Nat):Int) (by omega) (by omega) (by omega) ?_;have a2:J.1.getD q []=J.1[q]:=Ee (by omega);have al:=Y.EX q;have bb:ways J lk 16 (d+1) i (q:Int) c=((J.1.getD q []).map fun x=>ways J lk 16 d (i+1) x (c - e)).sum:=by
    conv=>lhs;unfold ways
    rw [ag];simp only;rw [if_pos a9,show((q:Int)).toNat=q by omega]
   rw [bb] at O;obtain⟨bd,be,bi⟩:=Jq.1 O;cases K:(J.1.getD q []).find? (fun x=>decide (0<ways J lk 16 d (i+1) x (c - e))) with
   | none=>exact absurd (decide_eq_true bi) (List.find?_eq_none.1 K bd be)
   | some x=>
    have bo:=List.mem_of_find?_eq_some K;have bv:0<ways J lk 16 d (i+1) x (c - e):=by have h:=List.find?_some K;exact of_decide_eq_true h
    have bD:=al.inr x bo;obtain⟨am,rfl⟩:∃am:Nat,x=(am:Int):=⟨x.toNat,by omega⟩;refine AD (S:=fun r=>r=(am:Int)) ?_ ?_
    ·refine Cj (J.1.getD q []).length (fun j s=>s=(j:Int)∧((J.1.getD q []).take j).find? (fun x=>decide (0<ways J lk 16 d (i+1) x (c - e)))=none) ⟨rfl,rfl⟩ (by have:=al.len;omega) ?_ ?_
     ·rintro j s av ⟨rfl,V⟩;unfold O2;have bE:=al.inr _ (List.getElem_mem av);obtain⟨U,a0⟩:∃U:Nat,(J.1.getD q [])[j]=(U:Int):=⟨((J.1.getD q [])[j]).toNat,by omega⟩;refine Bl (m:=q) rfl (by omega) ?_;rw [← a2];refine Br (by omega) (Bl (m:=q) rfl (by omega) ?_);rw [← a2];refine Bl (m:=j) rfl av ?_;rw [a0];refine D1 (i:=i+1) rfl (by omega) ?_;rw [if_neg (by omega)];refine D1 (i:=U) rfl (by omega) (D1 (i:=c - e) rfl (by omega) ?_);rw [show BU lk - (i+1)=d by omega];have bw:J.1.getD q []=(J.1.getD q []).take j++(U:Int)::(J.1.getD q []).drop (j+1):=by
       rw [← a0,List.getElem_cons_drop,List.take_append_drop]
      refine Bn (fun h=>?_) (fun h=>?_)
      ·refine Ak ?_;rw [bw,List.find?_append,V,Option.none_or,List.find?_cons,decide_eq_true (show 0<ways J lk 16 d (i+1) (U:Int) (c - e) by omega)] at K;exact Option.some.inj K
      ·have bF:=al.len;refine AV ((j+1:Nat):Int) (by simp) (by omega) (by omega) ?_;refine Ak ⟨rfl,?_⟩;rw [List.take_add_one,List.getElem?_eq_getElem av,a0,List.find?_append,V,Option.none_or];simp only [Option.toList_some,List.find?_cons,List.find?_nil];rw [decide_eq_false (show ¬0<ways J lk 16 d (i+1) (U:Int) (c - e) by omega)]
     ·rintro s ⟨rfl,V⟩;rw [List.take_length,K] at V;cases V
    ·rintro r rfl;refine IN (by simp;omega) (AV ((i+1+1:Nat):Int) (by omega) (by omega) (by omega) ?_);refine Ak ⟨am,c - e,pre++ [(q:Int)],rfl,by omega,by omega,by simp;omega,?_,?_⟩
     ·rw [show BU lk - (i+1)=d by omega];exact bv
     ·rw [show BU lk - (i+1)=d by omega,Z]
      conv=>lhs;unfold Gk
      rw [ag];simp only;rw [show((q:Int)).toNat=q by omega,K];simp
 ·rintro s ⟨q,c,pre,rfl,a1,a6,a7,O,Z⟩;unfold Nc;refine A9 (by simp only [hlen];omega) (Ak ⟨_,rfl,?_⟩);rw [Z,Nat.sub_self]
  rfl
theorem XI{F:Nat}{J:JW}{lk:A8}(U:100<F)(bb:NL J):AZ (f31 F J lk) (Ji J lk):=by
 unfold f31;refine AD (R6 U bb) ?_;rintro r (⟨g,rfl⟩ | ⟨h,⟨Z,rfl⟩ | ⟨k,Z,rfl⟩⟩)
 ·exact Br g (Ak (.inl ⟨g,rfl⟩))
 ·exact Br (by simp) (Ak (.inr ⟨h,.inl ⟨Z,rfl⟩⟩))
 ·refine A9 (by simp) ?_;obtain⟨K,V,bE⟩:=IZ h;have al:=Z.le K V;have bF:=K.le;have ag:=UA (k:=k) K V;have av:=Z.pos;rw [List.getElem?_eq_getElem av] at ag;generalize ht:(F2 J lk k)[0]=t at ag;have bd:(F2 J lk k)[0]? =some t:=by rw [List.getElem?_eq_getElem av,ht]
  refine AO (Sy U K V (.inl ⟨rfl,rfl⟩)) (AO (O1 U K V (.inl ⟨rfl,rfl⟩)) ?_);refine AO (ZV U K V al (by omega)) ?_;simp only [Option.map_some] at ag;obtain⟨l1,a,l2,a0,Y,be⟩:=List.findSome?_eq_some_iff.1 ag.symm;have bi:a<13:=by
   have:a∈List.range 13:=by rw [a0];simp
   exact List.mem_range.1 this
  cases hm:(Ck (AG J a) 16).find? (fun m=>decide (0<ways J lk 16 (BU lk) 0 m k)) with
  | none=>rw [hm] at Y;cases Y
  | some x=>
   rw [hm] at Y;simp only [Option.map_some,Option.some.injEq] at Y;have hw:0<ways J lk 16 (BU lk) 0 x k:=by have h:=List.find?_some hm;exact of_decide_eq_true h
   obtain⟨q,_,a1,rfl⟩:=Hk.1 (List.mem_of_find?_eq_some hm);have bG:q<J.1.length:=Io (Hy K a) a1;have a2:∀b,H3 J lk 16 k k b=true↔∃z∈Ck (AG J b) 16,0<ways J lk 16 (BU lk) 0 z k:=fun b=>by
    rw [Rq];constructor
    ·rintro⟨k',_,k1,bH,a3⟩;obtain rfl:k'=k:=by omega
     rw [OG K] at a3;exact Jq.1 a3
    ·intro bo;refine⟨k,al,by omega,by omega,?_⟩;rw [OG K];exact Jq.2 bo
   have bv:(Nz J lk 16 k k)[0]? =some (a:Int):=by
    unfold Nz;rw [List.getElem?_map,← List.head?_eq_getElem?,List.head?_filter];have:(List.range 13).find? (H3 J lk 16 k k)=some a:=by
     rw [List.find?_eq_some_iff_append];refine⟨(a2 a).2 ⟨_,List.mem_of_find?_eq_some hm,hw⟩,l1,l2,a0,fun b hb=>?_⟩;have a4:=be b hb;cases bw:H3 J lk 16 k k b with
     | false=>rfl
     | true=>
      obtain⟨z,z1,bz⟩:=(a2 b).1 bw;cases a5:(Ck (AG J b) 16).find? (fun m=>decide (0<ways J lk 16 (BU lk) 0 m k)) with
      | none=>exact absurd (decide_eq_true bz) (List.find?_eq_none.1 a5 z z1)
      | some w=>rw [a5] at a4;cases a4
    rw [this];rfl
   refine AO (DC (m:=0) rfl bv) (AD (S7 U K bi) ?_);rintro due ⟨bA,bB⟩;refine AD (S:=fun r=>r=Sum.inl ((a:Int),Gk J lk (BU lk) 0 (q:Int) k,0)) ?_ ?_
   ·obtain⟨_,bI,bJ,f1,f2⟩:=List.find?_eq_some_iff_append.1 hm;have bC:∀j,j<q→(AG J a).testBit j=true→¬0<ways J lk 16 (BU lk) 0 (j:Int) k:=fun j bK hb bD=>by
     have a6:(j:Int)∈Ck (AG J a) 16:=Hk.2 ⟨j,by omega,hb,rfl⟩;rw [f1] at a6;have a7:=Qm (AG J a) 16;rw [f1,List.pairwise_append,List.pairwise_cons] at a7;rcases List.mem_append.1 a6 with O | O
     ·have:=f2 _ O;simp only [Bool.not_eq_true',decide_eq_false_iff_not] at this;exact this bD
     ·rcases List.mem_cons.1 O with O | O
      ·omega
      ·have:=a7.2.1.1 _ O;omega
    refine Cj (q+1) (fun i s=>s=(i:Int)∧i≤q) ⟨rfl,by omega⟩ (by omega) ?_ ?_
    ·rintro i s hi ⟨rfl,_⟩;unfold O9;have am:i<J.1.length:=by omega
     refine Br (by rw [bA];omega) (AO (DC (m:=i) rfl (bB i am)) ?_);refine AD (S:=fun b=>b=decide ((AG J a).testBit i=true∧0<ways J lk 16 (BU lk) 0 (i:Int) k)) ?_ ?_
     ·refine Bn (fun hb=>?_) (fun hb=>?_)
      ·refine AO (DC (m:=0) rfl TC) (D1 (i:=i) rfl am ?_);refine D1 (i:=k) rfl (by omega) (Ak (decide_eq_decide.2 ⟨fun x=>⟨hb,by omega⟩,fun x=>by have:=x.2;omega⟩))
      ·exact Ak (decide_eq_false fun x=>hb x.1).symm
     ·rintro b rfl;refine Bn (fun hb=>?_) (fun hb=>?_)
      ·have ap:=of_decide_eq_true hb;obtain rfl:i=q:=by
        rcases Nat.lt_or_ge i q with O | O
        ·exact absurd ap.2 (bC i O ap.1)
        ·omega
       exact AO (Zv U K V am al ap.2) (Ak rfl)
      ·have:i≠q:=fun e=>by subst e;exact hb (decide_eq_true ⟨a1,hw⟩)
       exact AV ((i+1:Nat):Int) (by simp) (by omega) (by omega) (Ak ⟨rfl,by omega⟩)
    ·rintro s ⟨_,O⟩;omega
   ·rintro r rfl;rw [Sum.elim_inl];refine Ak (.inr ⟨h,.inr ⟨k,t,Z,bd,?_⟩⟩);have a8:=congrArg Prod.fst Y;have a9:=congrArg Prod.snd Y;simp only at a8 a9;rw [← a8,← a9]
end Pal
namespace Pal
open Go Go.Conc Go.Proofs
open Go.Proofs.Tryz
variable {J:Judge Tryz.prog}{E:LH}
def NQ(fuel:Nat)(p0:AI):Option ((AI)):= (De ([]:AI) p0).bind fun K=> some K
theorem S8{K:An}{c2:Nat}{p0:AI}(Y:Am Bo E K c2 p0){fuel:Nat}{r:(AI)}(O:NQ fuel p0=some r):AM J 27 [sV K p0 c2] E [] (fun w E' B'=>∃(U:An) (V:Nat) (g0:Seg),w= sV U r V∧B'=g0∧OL 27 Bo E' U V g0 r):=by
 refine A4 func27 fun Q a5 cs H Z ag=>?_;unfold NQ at O;refine zg 6 rfl (KV (pp:=Bo) rfl rfl rfl underlying25 Cf Z fun a6 a7 al am=>?_);obtain⟨a8,ap,av⟩:=bs O;refine zg 1 rfl (KG (pp:=Bo) 1 ap rfl rfl rfl rfl rfl rfl rfl underlying25 underlying25 Cf (CS type27) Et rfl (by decide) (by decide) al Y am rfl fun a0 a1 a2 a3 a4=>?_);refine zg 2 rfl ?_;obtain rfl:=oi av;exact AA func27 rfl rfl (ag Ar rfl ⟨a0,a1,a2,rfl,(by first | rfl | simp | (simp [Value.cells])),a3⟩ a4)
def f25(fuel:Nat)(p0:AI)(p1:Int×Int)(p2:A2)(p3:B8):Option ((List AI)×(B8)):= (f40 fuel p3 p2 3).bind fun K=> (NQ fuel K.1).bind fun O=> (De O ([p1]:AI)).bind fun U=> some (([p0,K.1,U]:List AI),K.2)
theorem aX{al:An}{c2:Nat}{a4:An}{a5:Nat}{a6:An}{a7:Nat}{bk:Nat}{a8:An}{a9:Nat}{p0:AI}{p1:Int×Int}{p2:A2}{p3:B8}(bb:Am Bo E al c2 p0)(bI:Am (rL rI) E a4 a5 p2.1)(bJ:Am (rL rI) E a6 a7 p2.2)(bK:Am rI E a8 a9 p3.1){fuel:Nat}{r:(List AI)×(B8)}(bd:f25 fuel p0 p1 p2 p3=some r):AM J 25 [sV al p0 c2,.agg #[iV p1.1,iV p1.2],.agg #[sV a4 p2.1 a5,sV a6 p2.2 a7],pV bk 0] E [(bk,.cells #[sV a8 p3.1 a9,iV p3.2.1,.int .u64 ((p3.2.2:Nat):Int)] 92 (0,0))] (fun w E' B'=>∃(be:An) (bi:Nat) (bo:An) (bv:Nat),w= sV be r.1 bi∧B'= [(bk,.cells #[sV bo r.2.1 bv,iV r.2.2.1,.int .u64 ((r.2.2.2:Nat):Int)] 92 (0,0))]∧Am (rL Bo) E' be bi r.1∧Am rI E' bo bv r.2.1):=by
 refine A4 func25 fun Q cG cs H bL bw=>?_;unfold f25 at bd;refine zg 2 rfl (B7 bL fun cH cI U bM bN=>?_);refine B7 bN fun cJ cK O bO bP=>?_;refine zg 5 rfl (BQ bO BX BD rfl rfl ?_);obtain⟨K,bQ,bR⟩:=bs bd;refine B9 0 (aL (bK.Ah (U.Ac O)) (bI.Ah (U.Ac O)) (bJ.Ah (U.Ac O)) bQ) rfl rfl (AR func40 rfl) bP rfl ?_;rintro _ cM _ Z ⟨am,ap,V,Y,rfl,rfl,av,bz⟩ bS;refine Cu (S':= [[(bk,.cells #[sV V K.2.1 Y,iV K.2.2.1,.int .u64 ((K.2.2.2:Nat):Int)] 92 (0,0))],[],[]]) rfl bS fun bA=>zg 3 rfl (C7 7 fun ht=>?_);refine A0 ht rfl [0,1,2] rfl (Fe 4 ht (bM.Ah (O.Ac Z)) Gv Cf rfl rfl rfl ?_);obtain⟨cN,bB,bT⟩:=bs bR;obtain⟨a0,bC,bD⟩:=bs bT;refine I7 (i:=3) (j:=5) rfl (by decide+kernel) ?_ ?_
 ·refine Take.HW (vs:= [sV am K.1 ap]) bA (S8 av bB) rfl rfl rfl Ko rfl ?_;rintro _ cO _ a1 ⟨cP,cQ,cR,rfl,rfl,bU⟩ bV;refine JG.one (i:=5) rfl (by decide+kernel) (Take.NP (pp:=Bo) [.agg #[iV p1.1,iV p1.2]] ([p1]:AI) bV rfl rfl rfl underlying25 Cf Et (by decide) rfl rfl rfl ⟨⟨_,_,rfl,rfl,rfl⟩,trivial⟩ fun cT bE bW bY=>?_);refine JG.one (i:=6) rfl (by decide+kernel) (Take.app0 (pp:=Bo) 3 4 bY bC rfl rfl rfl rfl rfl rfl rfl underlying25 underlying25 Cf (CS type27) Et rfl (by decide) (by decide) bU bW rfl rfl fun bZ b0 cV b1 b2 b3=>?_);refine Co [7,8] (ES 3 rfl b3 fun b4=>?_);refine JS.drop 3 b4 rfl fun b5=>Cu (S':= [[(bk,.cells #[sV V K.2.1 Y,iV K.2.2.1,.int .u64 ((K.2.2.2:Nat):Int)] 92 (0,0))],[],[],[],bE,b1]) rfl b5 fun b6=>B6 5 b2 b6 rfl fun cW a2 b7 b8=>Dt (pp:=(rL Bo)) [sV al p0 c2,sV am K.1 ap,sV bZ a0 b0] [p0,K.1,a0] rfl rfl rfl underlying35 Hi (Dw type25) (by decide) rfl rfl rfl ⟨⟨_,_,rfl,(bb.Ah ((((U.Ac O).Ac Z).Ac a1).Ac a2))⟩,⟨_,_,rfl,(av.Ah (a1.Ac a2))⟩,⟨_,_,rfl,b7⟩,trivial⟩ b8 fun b9 cX ca cb=>zg 2 rfl (B6 6 ca cb rfl fun cY bF cc cd=>?_);refine Cu (S':= [[(bk,.cells #[sV V K.2.1 Y,iV K.2.2.1,.int .u64 ((K.2.2.2:Nat):Int)] 92 (0,0))],[],[],[],bE,[],[]]) rfl cd fun ce=>JS.drop 4 ce rfl fun cf=>?_;obtain rfl:=oi bD;exact AA func25 rfl rfl (bw (((((U.Ac O).Ac Z).Ac a1).Ac a2).Ac bF) rfl ⟨(AY b9),3,V,Y,rfl,rfl,cc,(bz.Ah ((a1.Ac a2).Ac bF))⟩ cf)
 ·refine Take.NP (pp:=Bo) [.agg #[iV p1.1,iV p1.2]] ([p1]:AI) bA rfl rfl rfl underlying25 Cf Et (by decide) rfl rfl rfl ⟨⟨_,_,rfl,rfl,rfl⟩,trivial⟩ fun cZ bG cg ci=>JG.one (i:=3) rfl (by decide+kernel) (Take.HW (vs:= [sV am K.1 ap]) ci (S8 av bB) rfl rfl rfl Ko rfl ?_);rintro _ c0 _ ag ⟨c1,c3,c4,rfl,rfl,ck⟩ cm;refine JG.one (i:=6) rfl (by decide+kernel) (Take.app0 (pp:=Bo) 4 3 cm bC rfl rfl rfl rfl rfl rfl rfl underlying25 underlying25 Cf (CS type27) Et rfl (by decide) (by decide) ck (cg.Ah ag) rfl rfl fun cn co c5 cp cq cr=>?_);refine Co [7,8] (ES 4 rfl cr fun ct=>?_);refine JS.drop 4 ct rfl fun cu=>Cu (S':= [[(bk,.cells #[sV V K.2.1 Y,iV K.2.2.1,.int .u64 ((K.2.2.2:Nat):Int)] 92 (0,0))],[],[],bG,[],cp]) rfl cu fun cv=>B6 5 cq cv rfl fun c6 a3 cw cy=>Dt (pp:=(rL Bo)) [sV al p0 c2,sV am K.1 ap,sV cn a0 co] [p0,K.1,a0] rfl rfl rfl underlying35 Hi (Dw type25) (by decide) rfl rfl rfl ⟨⟨_,_,rfl,(bb.Ah ((((U.Ac O).Ac Z).Ac ag).Ac a3))⟩,⟨_,_,rfl,(av.Ah (ag.Ac a3))⟩,⟨_,_,rfl,cw⟩,trivial⟩ cy fun cz c7 cA cB=>zg 2 rfl (B6 6 cA cB rfl fun c8 bH cC cD=>?_);refine Cu (S':= [[(bk,.cells #[sV V K.2.1 Y,iV K.2.2.1,.int .u64 ((K.2.2.2:Nat):Int)] 92 (0,0))],[],[],bG,[],[],[]]) rfl cD fun cE=>JS.drop 3 cE rfl fun cF=>?_;obtain rfl:=oi bD;exact AA func25 rfl rfl (bw (((((U.Ac O).Ac Z).Ac ag).Ac a3).Ac bH) rfl ⟨(AY cz),3,V,Y,rfl,rfl,cC,(bz.Ah ((ag.Ac a3).Ac bH))⟩ cF)
end Pal
namespace Pal
theorem ZO{F k n:Nat}{b:EB}{J:JW}{lk:List (Int×Int)}{l:Int×Int}(O:100<F)(U:VJ n J)(hb:BG k b)(V:k<900)(Z:lk.length≤20):
  AZ (f25 F lk l J b) (fun r=>(∃u v:List (Int×Int),r.1= [lk,u,v]∧u.length≤20∧v.length≤20)∧BG (k+100) r.2):=by
 unfold f25;refine AD (Z3 (many:=3) O U hb V (by omega)) ?_;rintro⟨u,ag⟩ ⟨_,Y,_,K⟩;simp only at Y K ⊢;refine AO (b:=u) (by unfold NQ De;rw [if_pos (by simp;omega)];rfl) (AO (b:=u++ [l]) (by unfold De;rw [if_pos (by simp;omega)]) ?_);exact Ak ⟨⟨u,u++ [l],rfl,by omega,by simp;omega⟩,K⟩
theorem TN{α:Type}{P:α→Prop}{a b c:α}(K:P a)(hb:P b)(O:P c):∀i,i<3→∃x,([a,b,c]:List α)[i]? =some x∧P x
 | 0,_=>⟨a,rfl,K⟩
 | 1,_=>⟨b,rfl,hb⟩
 | 2,_=>⟨c,rfl,O⟩
theorem Za{F:Nat}{J:JW}{lk:List (Int×Int)}{l:Int×Int}{J9:List Int}{g:List JW×EB→List (List (Int×Int))×EB→Option Bool}(O:100<F)(hs:ID F=some true)
  (H:∀(K:JW) (u v:List (Int×Int)) (a1 U:EB),NL J→NL K→lk.length≤20→u.length≤20→v.length≤20→BG 401 U→AZ (g ([J,K,K],a1) ([lk,u,v],U)) (fun r=>r=true)):
  AZ ((f21 F J).bind fun a2=>Option.bind (if a2=true then some true else some (decide (20<(lk.length:Int)))) fun a3=>if a3=true then(ID F).bind fun x=>some x else(f23 F J9).bind fun a4=>(f24 F J a4).bind fun V=>(ix V.1 1).bind fun a5=>(f25 F lk l a5 V.2).bind fun a6=>g V a6) (fun r=>r=true):=by
 refine AD (YH O) ?_;intro bb a7;refine AD (S:=fun c=>c=false→NL J∧lk.length≤20) ?_ ?_
 ·refine Bn (fun h=>Ak fun Y=>by cases Y) (fun h=>Ak fun Y=>⟨a7 (by simpa using h),by simp at Y;omega⟩)
 intro c a8;refine Bn (fun h=>AO hs (Ak rfl)) (fun h=>?_);obtain⟨Z,ag⟩:=a8 (by simpa using h);refine AO (b:=(J9,0,2685821657736338717)) rfl (AD (ZM (k:=0) (b:=(J9,0,2685821657736338717)) O Z ⟨Int.le_refl _,Int.le_refl _⟩ (by omega)) ?_);rintro⟨bd,U⟩ ⟨⟨n,K,al,am⟩,ap⟩;simp only at am ap;subst am;refine AO (b:=K) rfl (AD (ZO (k:=301) O al ap (by omega) ag) ?_);rintro⟨ls,be⟩ ⟨⟨u,v,av,hu,a9⟩,a0⟩;simp only at av a0;subst av;exact H K u v _ _ Z al.nl ag hu a9 a0
end Pal
namespace Pal
open Go Go.Conc Go.Proofs
open Go.Proofs.Tryz
def Nm(fuel:Nat)(O:(List A2)×(B8))(U:(List AI)×(B8))(K:Int):Option (Bf Int ((Bool)⊕(Unit))):= if K<(O.1.length:Int) then((ix O.1 K).bind fun ap=> (ix U.1 K).bind fun av=> (f26 fuel ap).bind fun V=> (f27 fuel av).bind fun Y=> (Jc fuel V Y).bind fun al=> (ix O.1 K).bind fun a0=> (ix U.1 K).bind fun a1=> (f29 fuel a0 a1).bind fun am=> (IE fuel V Y).bind fun Z=> (ix O.1 K).bind fun a2=> (ix U.1 K).bind fun a3=> (f31 fuel a2 a3).bind fun ag=> Option.bind (if al.1≠am.1 then(some true) else(some (decide (al.2≠am.2)))) fun a4=> Option.bind (if a4=true then(some true) else(some (decide (Z.1≠ag.1)))) fun a5=> Option.bind (if a5=true then(some true) else(some (decide (Z.2.2≠ag.2.2)))) fun a6=> Option.bind (if a6=true then(some true) else((f32 fuel Z.2.1 ag.2.1).bind fun a7=> some (!a7))) fun a8=> Option.bind (if a8=true then(some true) else((ix O.1 K).bind fun a9=> (f33 fuel V a9).bind fun bb=> some (!bb))) fun bd=> Option.bind (if bd=true then(some true) else((ix U.1 K).bind fun be=> (f34 fuel Y be).bind fun bi=> some (!bi))) fun bo=> if bo=true then(some (.done (Sum.inl false))) else((Au (K+1)).bind fun bv=> some (.more bv))) else(some (.done (Sum.inr ())))
def NY(fuel:Nat)(p0:A2)(p1:AI)(p2:Int×Int)(p3:List Int):Option Bool:= (f21 fuel p0).bind fun O=> Option.bind (if O=true then(some true) else(some (decide (20<(p1.length:Int))))) fun U=> if U=true then((ID fuel).bind fun V=> some V) else((f23 fuel p3).bind fun Y=> (f24 fuel p0 Y).bind fun K=> (ix K.1 (1)).bind fun Z=> (f25 fuel p1 p2 Z K.2).bind fun ag=> Option.bind (iter (Nm fuel K ag) fuel 0) fun al=> Sum.elim (fun r=>some r) (fun ap=> (ID fuel).bind fun am=> some am) al)
set_option maxHeartbeats 2000000 in
theorem Xi{E H:LH}{cm:An}{c2:Nat}{cn:An}{co:Nat}{bS:An}{bT:Nat}{bU:An}{bV:Nat}{p0:A2}{p1:AI}{p2:Int×Int}{p3:List Int}(bD:GE E)(cp:Am (rL rI) E cm c2 p0.1)(cq:Am (rL rI) E cn co p0.2)(dn:Am Bo E bS bT p1)(dp:Am rI E bU bV p3){fuel:Nat}{r:Bool}(cr:NY fuel p0 p1 p2 p3=some r):(DZ Tryz.prog).ok (K1 Tryz.prog (fun v _=>v= .bool r)) (G (Frame.enter Tryz.prog 3 ([.agg #[sV cm p0.1 c2,sV cn p0.2 co],sV bS p1 bT,.agg #[iV p2.1,iV p2.2],sV bU p3 bV]:List Value).toArray .normal) []) (mk E H []):=by
 refine VI func3 rfl rfl (Nat.le_of_ble_eq_true rfl) ?_;have dq:Ay E H [[]]:=trivial;unfold NY at cr;refine zg 2 rfl (B7 dq fun dr g9 Z ct dt=>?_);refine B7 dt fun du ha V dv dw=>?_;refine zg 5 rfl (BQ (ct.Ah V) BX BD rfl rfl ?_);obtain⟨hb,dx,dy⟩:=bs cr;refine BF (aE (cp.Ah (Z.Ac V)) (cq.Ah (Z.Ac V)) dx) rfl rfl (AR func21 rfl) dw fun bW ag cu=>?_;obtain⟨dz,dA,dB⟩:=bs dy;refine zg 1 rfl (ED [] (fun L s=>∃(cv:LH),Jm bW H cv [] [(1,sV bS p1 bT),(3,sV bU p3 bV),(4,pV dr 0),(6,pV du 0),(31,.bool dz)] L s) ?_ ?_)
 ·rintro _ _ ⟨cv,rfl,rfl,al,cw⟩;refine JL.done (BJ dB (fun dC dD=>?_) (fun dC dE=>?_))
  ·obtain⟨dF,dG,dH⟩:=bs dD;refine zg 2 rfl (BF (SK (bD.Ah (((Z.Ac V).Ac ag).Ac al)) dG) rfl rfl (AR func22 rfl) cw fun hc hd he=>?_);refine zg 2 rfl ?_;obtain rfl:=oi dH;exact Hn rfl (JO.end (v:= .bool dF) rfl (by decide+kernel) func3 rfl rfl rfl)
  ·obtain⟨hf,dI,dJ⟩:=bs dE;refine zg 4 rfl (BO (az (dp.Ah (((Z.Ac V).Ac ag).Ac al)) dI) rfl rfl (AR func23 rfl) cw ?_);rintro _ hj _ a2 ⟨hk,hl,hm,rfl,rfl,dK⟩ dL;refine zg 4 rfl (BQ (ct.Ah (((V.Ac ag).Ac al).Ac a2)) BX BD rfl rfl ?_);obtain⟨a3,dM,dN⟩:=bs dJ;refine zg 1 rfl (B9 0 (bh (cp.Ah ((((Z.Ac V).Ac ag).Ac al).Ac a2)) (cq.Ah ((((Z.Ac V).Ac ag).Ac al).Ac a2)) dK dM) rfl rfl (AR func24 rfl) dL rfl ?_);rintro _ hn _ bz ⟨a4,a5,ho,hp,rfl,rfl,bA,dO⟩ dP;refine zg 3 rfl (C7 6 fun ht=>?_);refine Cb 0 ht rfl rfl (Fe 1 ht (dv.Ah (((ag.Ac al).Ac a2).Ac bz)) Gv Cf rfl rfl rfl ?_);refine Cb 2 ht rfl rfl ?_;obtain⟨hq,dQ,dR⟩:=bs dN;refine CG 3 bA dQ ht underlying33 BD ?_;rintro hr hu _ ⟨_,_,rfl,⟨hv,hw,rfl,dS⟩,⟨hx,hy,rfl,dT⟩⟩ dU;refine Fe 4 ht dU BX BD rfl rfl rfl (Cb 5 ht rfl rfl ?_);refine Co [6,7] ?_;obtain⟨a6,dV,dW⟩:=bs dR;refine B9 0 (aX (dn.Ah (((((Z.Ac V).Ac ag).Ac al).Ac a2).Ac bz)) dS dT dO dV) rfl rfl (AR func25 rfl) dP rfl ?_;rintro _ dX _ bd ⟨a7,a8,hz,hA,rfl,rfl,bE,hB⟩ dY;obtain⟨cy,dZ,cz⟩:=bs dW;refine zg 7 rfl (Bp (fun L s=>∃(cA:Unit) (cB:LH),cy=Sum.inr cA∧Jm dX H cB [] [] L s) ?_ ?_)
   ·rintro _ _ ⟨cA,cB,rfl,rfl,rfl,ea,eb⟩;have ec:=elim_inr cz;obtain⟨ed,ee,ef⟩:=bs ec;refine zg 2 rfl (BF (SK (bD.Ah (((((((Z.Ac V).Ac ag).Ac al).Ac a2).Ac bz).Ac bd).Ac ea)) ee) rfl rfl (AR func22 rfl) eb fun hC hD hE=>?_);refine zg 2 rfl ?_;obtain rfl:=oi ef;exact Hn rfl (JO.end (v:= .bool ed) rfl (by decide+kernel) func3 rfl rfl rfl)
   ·intro eg;refine JL.block (JS.drop 0 dY rfl fun eh=>?_);refine Cz dZ (fun am=> []) (fun am=> [(10,sV a4 a3.1 a5),(11,sV a7 a6.1 a8),(12,iV am)]) Ar eh ?_;rintro am cC Y bY cD ⟨hF,bF⟩ ei;have cE:=bF;unfold Nm at cE;refine zg 5 rfl (Be underlying33 rfl rfl rfl ?_);refine zg 2 rfl (AL cE (fun ej ek=>?_) (fun ej el=>?_))
    ·refine zg 4 rfl (C7 11 fun ht=>?_);refine A0 ht rfl [0,1] rfl ?_;obtain⟨bG,em,en⟩:=bs ek;refine CG 2 (bA.Ah (bd.Ac Y)) em ht underlying33 BD ?_;rintro hG hH _ ⟨_,_,rfl,⟨cF,cG,rfl,cH⟩,⟨cI,cJ,rfl,cK⟩⟩ eo;refine Fe 3 ht eo BX BD rfl rfl rfl (A0 ht rfl [5,6] rfl ?_);obtain⟨bZ,ep,eq⟩:=bs en;refine CG 7 (bE.Ah Y) ep ht underlying35 Hi ?_;rintro hI hJ _ ⟨b0,b1,rfl,b2⟩ er;refine Cy 8 ht 0 er HK rfl rfl rfl rfl ?_;obtain⟨bw,cM,et⟩:=bs eq;obtain⟨a9,b3,eu⟩:=bs et;refine Ed 2 #[true,true,true,true,true,true,true,true,true,true,true,false,false] (fun L s=>∃(bB:LH) (bH:An) (bI:Nat) (bJ:An) (bK:Nat) (ap:An) (av:Nat) (be:Nat),Jn cC H bB [bX be #[nS,nS] 24] [(10,sV a4 a3.1 a5),(11,sV a7 a6.1 a8),(12,iV am),(13,pV be 0),(55,.agg #[sV bH bw.1 bI,sV bJ bw.2 bK]),(60,sV ap a9 av)] L s (Am (rL rI) bB bH bI bw.1∧Am (rL rI) bB bJ bK bw.2∧Am Bo bB ap av a9)) ?_ ?_
     ·rintro _ _ ⟨bB,bH,bI,bJ,bK,ap,av,be,rfl,rfl,a0,ew,b4,b5,b6⟩;refine Co [11,12] (BY 0 ew BD fun ex=>?_);refine C3 0 ex rfl fun hK K b7 ey=>zg 4 rfl (BQ b7 BX BD rfl rfl ?_);obtain⟨ez,eA,eB⟩:=bs eu;refine zg 1 rfl (BF (Ta (bD.Ah (((((((((Z.Ac V).Ac ag).Ac al).Ac a2).Ac bz).Ac bd).Ac Y).Ac a0).Ac K)) (b4.Ah K) (b5.Ah K) (b6.Ah K) eA) rfl rfl (AR func28 rfl) ey fun hL O eC=>?_);refine zg 7 rfl (C7 13 fun ht=>?_);refine A0 ht rfl [0,1] rfl ?_;obtain⟨cN,eD,eE⟩:=bs eB;refine CG 2 (bA.Ah ((((bd.Ac Y).Ac a0).Ac K).Ac O)) eD ht underlying33 BD ?_;rintro hM hN _ ⟨_,_,rfl,⟨eF,eG,rfl,eH⟩,⟨eI,eJ,rfl,eK⟩⟩ eL;refine Fe 3 ht eL BX BD rfl rfl rfl (A0 ht rfl [4,5] rfl ?_);obtain⟨eM,eN,eO⟩:=bs eE;refine CG 6 (bE.Ah (((Y.Ac a0).Ac K).Ac O)) eN ht underlying35 Hi ?_;rintro hO hP _ ⟨eP,eQ,rfl,eR⟩ eS;refine Cy 7 ht 0 eS HK rfl rfl rfl rfl ?_;obtain⟨eT,eU,eV⟩:=bs eO;refine JG.call (i:=8) (vs:= [.agg #[sV eF cN.1 eG,sV eI cN.2 eJ],sV eP eM eQ]) (aB eH eK eR eU) (by decide+kernel) rfl rfl rfl (AR func29 rfl) rfl eC ?_;rintro _ hQ _ U ⟨rfl,rfl⟩ eW;refine A0 ht rfl [9,10,11,12] rfl (Co [13] ?_);refine zg 4 rfl (BQ (b7.Ah (O.Ac U)) BX BD rfl rfl ?_);obtain⟨bi,eX,eY⟩:=bs eV;refine zg 1 rfl (BO (Su (bD.Ah (((((((((((Z.Ac V).Ac ag).Ac al).Ac a2).Ac bz).Ac bd).Ac Y).Ac a0).Ac K).Ac O).Ac U)) (b4.Ah ((K.Ac O).Ac U)) (b5.Ah ((K.Ac O).Ac U)) (b6.Ah ((K.Ac O).Ac U)) eX) rfl rfl (AR func30 rfl) eW ?_);rintro _ hR _ a1 ⟨bL,bM,rfl,rfl,eZ⟩ e0;refine zg 9 rfl (C7 15 fun ht=>?_);refine A0 ht rfl [0,1] rfl ?_;obtain⟨cO,e1,e2⟩:=bs eY;refine CG 2 (bA.Ah ((((((bd.Ac Y).Ac a0).Ac K).Ac O).Ac U).Ac a1)) e1 ht underlying33 BD ?_;rintro hS hT _ ⟨_,_,rfl,⟨e3,e4,rfl,e5⟩,⟨e6,e7,rfl,e8⟩⟩ e9;refine Fe 3 ht e9 BX BD rfl rfl rfl (A0 ht rfl [4,5] rfl ?_);obtain⟨fa,fb,fc⟩:=bs e2;refine CG 6 (bE.Ah (((((Y.Ac a0).Ac K).Ac O).Ac U).Ac a1)) fb ht underlying35 Hi ?_;rintro hU hV _ ⟨fd,fe,rfl,ff⟩ fg;refine Cy 7 ht 0 fg HK rfl rfl rfl rfl ?_;obtain⟨bo,fh,fj⟩:=bs fc;refine JG.call (i:=8) (vs:= [.agg #[sV e3 cO.1 e4,sV e6 cO.2 e7],sV fd fa fe]) (ar e5 e8 ff fh) (by decide+kernel) rfl rfl rfl (AR func31 rfl) rfl e0 ?_;rintro _ bC _ bb ⟨bN,bO,rfl,rfl,fk⟩ cP;refine A0 ht rfl [9,10,11,12,13,14] rfl (Co [15] ?_);refine zg 3 rfl (C7 42 fun ht=>?_);refine A0 ht rfl [0,1,2,3] rfl ?_;obtain⟨cQ,cR,fm⟩:=bs fj;refine Ed 34 #[true,true,true,true,true,true,true,true,false,false,false,false,false,false,false,false,false,false,false,false,false,false,false,false,false,false,false,false,false,false,false,false,false,false,false,false,false,false,false,false,false,false] (fun L s=>L= [(10,sV a4 a3.1 a5),(11,sV a7 a6.1 a8),(12,iV am),(13,pV be 0),(14,sV ap a9 av),(19,iV bi.1),(20,sV bL bi.2.1 bM),(21,iV bi.2.2),(22,iV bo.1),(23,sV bN bo.2.1 bO),(24,iV bo.2.2),(106,.bool cQ)]∧s=Ao bC H [[],[],[],[],[]]) ?_ ?_
      ·rintro _ _ ⟨rfl,rfl⟩;refine Cb 8 ht rfl rfl ?_;obtain⟨cT,cV,fo⟩:=bs fm;refine Ed 29 #[true,true,true,true,true,true,true,true,true,true,true,true,true,false,false,false,false,false,false,false,false,false,false,false,false,false,false,false,false,false,false,false,false,false,false,false,false,false,false,false,false,false] (fun L s=>L= [(10,sV a4 a3.1 a5),(11,sV a7 a6.1 a8),(12,iV am),(13,pV be 0),(14,sV ap a9 av),(20,sV bL bi.2.1 bM),(21,iV bi.2.2),(23,sV bN bo.2.1 bO),(24,iV bo.2.2),(111,.bool cT)]∧s=Ao bC H [[],[],[],[],[]]) ?_ ?_
       ·rintro _ _ ⟨rfl,rfl⟩;refine Cb 13 ht rfl rfl ?_;obtain⟨cW,cX,fp⟩:=bs fo;refine Ed 24 #[true,true,true,true,true,true,true,true,true,true,true,true,true,true,true,true,true,true,false,false,false,false,false,false,false,false,false,false,false,false,false,false,false,false,false,false,false,false,false,false,false,false] (fun L s=>L= [(10,sV a4 a3.1 a5),(11,sV a7 a6.1 a8),(12,iV am),(13,pV be 0),(14,sV ap a9 av),(20,sV bL bi.2.1 bM),(23,sV bN bo.2.1 bO),(116,.bool cW)]∧s=Ao bC H [[],[],[],[],[]]) ?_ ?_
        ·rintro _ _ ⟨rfl,rfl⟩;refine Cb 18 ht rfl rfl ?_;obtain⟨cY,cZ,fq⟩:=bs fp;refine Ed 18 #[true,true,true,true,true,true,true,true,true,true,true,true,true,true,true,true,true,true,true,true,true,true,true,true,false,false,false,false,false,false,false,false,false,false,false,false,false,false,false,false,false,false] (fun L s=>∃(bP:LH),Jm bC H bP [] [(10,sV a4 a3.1 a5),(11,sV a7 a6.1 a8),(12,iV am),(13,pV be 0),(14,sV ap a9 av),(122,.bool cY)] L s) ?_ ?_
         ·rintro _ _ ⟨bP,rfl,rfl,bv,c0⟩;refine Cb 24 ht rfl rfl ?_;obtain⟨c1,c3,fs⟩:=bs fq;refine Ed 9 #[true,true,true,true,true,true,true,true,true,true,true,true,true,true,true,true,true,true,true,true,true,true,true,true,true,true,true,true,true,true,true,true,true,false,false,false,false,false,false,false,false,false] (fun L s=>∃(bQ:LH),Jm bP H bQ [] [(10,sV a4 a3.1 a5),(11,sV a7 a6.1 a8),(12,iV am),(14,sV ap a9 av),(131,.bool c1)] L s) ?_ ?_
          ·rintro _ _ ⟨bQ,rfl,rfl,b8,c4⟩;refine Cb 33 ht rfl rfl ?_;obtain⟨fu,c5,fv⟩:=bs fs;refine Ed 0 #[true,true,true,true,true,true,true,true,true,true,true,true,true,true,true,true,true,true,true,true,true,true,true,true,true,true,true,true,true,true,true,true,true,true,true,true,true,true,true,true,true,true] (fun L s=>∃(c6:LH),Jm bQ H c6 [] [(10,sV a4 a3.1 a5),(11,sV a7 a6.1 a8),(12,iV am),(140,.bool fu)] L s) ?_ ?_
           ·rintro _ _ ⟨c6,rfl,rfl,fw,fx⟩;refine AX.fin (by decide+kernel) (BJ fv (fun fy fz=>?_) (fun fy fA=>?_))
            ·refine zg 4 rfl ?_;obtain rfl:=oi fz;obtain rfl:=cD _ bF;have fB:=elim_inl cz;obtain rfl:=oi fB;exact Hn rfl (JO.end (v:= .bool false) rfl (by decide+kernel) func3 rfl rfl rfl)
            ·obtain⟨fC,fD,fE⟩:=bs fA;refine zg 4 rfl (Bc fD rfl rfl rfl ?_);refine zg 2 rfl ?_;obtain rfl:=oi fE;exact ei fC (((((((((Y.Ac a0).Ac K).Ac O).Ac U).Ac a1).Ac bb).Ac bv).Ac b8).Ac fw) fx rfl bF
           ·intro c7;refine Kq (c:=c1) (i:=132) rfl (fun b9=>?_) (fun b9=>?_)
            ·have fF:=ip c5 b9;refine A0 ht rfl [34,35,36,37,38,39,40,41] rfl ?_;obtain rfl:=oi fF;refine CE ?_ (c7 _ _ ⟨bQ,rfl,rfl,Ar,c4⟩);exact⟨rfl,rfl,rfl,rfl,trivial⟩
            ·have fG:=ib c5 b9;refine A0 ht rfl [34,35,36] rfl ?_;obtain⟨fH,fI,fJ⟩:=bs fG;refine CG 37 (bE.Ah ((((((((Y.Ac a0).Ac K).Ac O).Ac U).Ac a1).Ac bb).Ac bv).Ac b8)) fI ht underlying35 Hi ?_;rintro hW hX _ ⟨fK,fL,rfl,fM⟩ fN;refine Cy 38 ht 0 fN HK rfl rfl rfl rfl ?_;obtain⟨fO,fP,fQ⟩:=bs fJ;refine JG.call (i:=39) (vs:= [sV ap a9 av,sV fK fH fL]) (aD (b6.Ah ((((((K.Ac O).Ac U).Ac a1).Ac bb).Ac bv).Ac b8)) fM fP) (by decide+kernel) rfl rfl rfl (AR func34 rfl) rfl c4 ?_;rintro _ fR _ fS ⟨rfl,rfl⟩ fT;refine BC (v:= .bool (!fO)) 40 ht rfl rfl (fun ρ h s' hs=>Yl.not (h _ _ rfl)) ?_;refine Cb 41 ht rfl rfl ?_;obtain rfl:=oi fQ;refine CE ?_ (c7 _ _ ⟨fR,rfl,rfl,fS,fT⟩);exact⟨rfl,rfl,rfl,rfl,trivial⟩
          ·intro c8;refine Kq (c:=cY) (i:=123) rfl (fun ca=>?_) (fun ca=>?_)
           ·have fU:=ip c3 ca;refine A0 ht rfl [25,26,27,28,29,30,31,32] rfl ?_;obtain rfl:=oi fU;refine CE ?_ (c8 _ _ ⟨bP,rfl,rfl,Ar,c0⟩);exact⟨rfl,rfl,rfl,rfl,rfl,trivial⟩
           ·have fW:=ib c3 ca;refine Fe 25 ht (b7.Ah ((((O.Ac U).Ac a1).Ac bb).Ac bv)) BX BD rfl rfl rfl ?_;refine A0 ht rfl [26,27] rfl ?_;obtain⟨c9,fX,fY⟩:=bs fW;refine CG 28 (bA.Ah ((((((((bd.Ac Y).Ac a0).Ac K).Ac O).Ac U).Ac a1).Ac bb).Ac bv)) fX ht underlying33 BD ?_;rintro hY hZ _ ⟨_,_,rfl,⟨fZ,ga,rfl,gb⟩,⟨gc,gd,rfl,ge⟩⟩ gf;refine Fe 29 ht gf BX BD rfl rfl rfl ?_;obtain⟨gg,gh,gi⟩:=bs fY;refine JG.call (i:=30) (vs:= [.agg #[sV bH bw.1 bI,sV bJ bw.2 bK],.agg #[sV fZ c9.1 ga,sV gc c9.2 gd]]) (aV (b4.Ah (((((K.Ac O).Ac U).Ac a1).Ac bb).Ac bv)) (b5.Ah (((((K.Ac O).Ac U).Ac a1).Ac bb).Ac bv)) gb ge gh) (by decide+kernel) rfl rfl rfl (AR func33 rfl) rfl c0 ?_;rintro _ gj _ gk ⟨rfl,rfl⟩ gl;refine BC (v:= .bool (!gg)) 31 ht rfl rfl (fun ρ h s' hs=>Yl.not (h _ _ rfl)) ?_;refine Cb 32 ht rfl rfl ?_;obtain rfl:=oi gi;refine CE ?_ (c8 _ _ ⟨gj,rfl,rfl,gk,gl⟩);exact⟨rfl,rfl,rfl,rfl,rfl,trivial⟩
         ·intro da;refine Kq (c:=cW) (i:=117) rfl (fun cb=>?_) (fun cb=>?_)
          ·have gm:=ip cZ cb;refine A0 ht rfl [19,20,21,22,23] rfl ?_;obtain rfl:=oi gm;refine CE ?_ (da _ _ ⟨bC,rfl,rfl,Ar,cP⟩);exact⟨rfl,rfl,rfl,rfl,rfl,rfl,trivial⟩
          ·have gn:=ib cZ cb;refine A0 ht rfl [19,20] rfl ?_;obtain⟨gp,gq,gr⟩:=bs gn;refine JG.call (i:=21) (vs:= [sV bL bi.2.1 bM,sV bN bo.2.1 bO]) (Lo (eZ.Ah bb) fk gq) (by decide+kernel) rfl rfl rfl Kl rfl cP ?_;rintro _ gt _ gu ⟨rfl,rfl⟩ gv;refine BC (v:= .bool (!gp)) 22 ht rfl rfl (fun ρ h s' hs=>Yl.not (h _ _ rfl)) ?_;refine Cb 23 ht rfl rfl ?_;obtain rfl:=oi gr;refine CE ?_ (da _ _ ⟨gt,rfl,rfl,gu,gv⟩);exact⟨rfl,rfl,rfl,rfl,rfl,rfl,trivial⟩
        ·intro db;refine Kq (c:=cT) (i:=112) rfl (fun cc=>?_) (fun cc=>?_)
         ·have gw:=ip cX cc;refine A0 ht rfl [14,15,16,17] rfl ?_;obtain rfl:=oi gw;refine CE ?_ (db _ _ ⟨rfl,rfl⟩);exact⟨rfl,rfl,rfl,rfl,rfl,rfl,rfl,rfl,trivial⟩
         ·have gx:=ib cX cc;refine A0 ht rfl [14,15,16,17] rfl ?_;obtain rfl:=oi gx;refine CE ?_ (db _ _ ⟨rfl,rfl⟩);exact⟨rfl,rfl,rfl,rfl,rfl,rfl,rfl,rfl,trivial⟩
       ·intro dc;refine Kq (c:=cQ) (i:=107) rfl (fun cd=>?_) (fun cd=>?_)
        ·have gy:=ip cV cd;refine A0 ht rfl [9,10,11,12] rfl ?_;obtain rfl:=oi gy;refine CE ?_ (dc _ _ ⟨rfl,rfl⟩);exact⟨rfl,rfl,rfl,rfl,rfl,rfl,rfl,rfl,rfl,rfl,trivial⟩
        ·have gz:=ib cV cd;refine A0 ht rfl [9,10,11,12] rfl ?_;obtain rfl:=oi gz;refine CE ?_ (dc _ _ ⟨rfl,rfl⟩);exact⟨rfl,rfl,rfl,rfl,rfl,rfl,rfl,rfl,rfl,rfl,trivial⟩
      ·intro dd;refine Ft (q:=ez.1≠eT.1) (i:=102) rfl (fun ce=>?_) (fun ce=>?_)
       ·have gA:=ip cR ce;refine A0 ht rfl [4,5,6,7] rfl ?_;obtain rfl:=oi gA;refine CE ?_ (dd _ _ ⟨rfl,rfl⟩);exact⟨rfl,rfl,rfl,rfl,rfl,rfl,rfl,rfl,rfl,rfl,rfl,rfl,trivial⟩
       ·have gB:=im cR ce;refine A0 ht rfl [4,5,6,7] rfl ?_;obtain rfl:=oi gB;refine CE ?_ (dd _ _ ⟨rfl,rfl⟩);exact⟨rfl,rfl,rfl,rfl,rfl,rfl,rfl,rfl,rfl,rfl,rfl,rfl,trivial⟩
     ·intro cf;refine I7 (i:=4) (j:=10) rfl (by decide+kernel) ?_ ?_
      ·refine Take.HW (vs:= [.agg #[sV cF bG.1 cG,sV cI bG.2 cJ]]) bY (Ts cH cK cM) rfl rfl rfl (AR func26 rfl) rfl ?_;rintro _ h0 _ bR ⟨de,df,dg,dh,rfl,rfl,di,dj⟩ dk;refine I7 (i:=9) (j:=10) rfl (by decide+kernel) ?_ ?_
       ·refine Take.HW (vs:= [sV b0 bZ b1]) dk (Pj (b2.Ah bR) b3) rfl rfl rfl Ko rfl ?_;rintro _ gC _ cg ⟨gD,gE,rfl,rfl,gF⟩ gG;refine JG.one (i:=10) rfl (by decide+kernel) (Take.Lg gG rfl rfl rfl GW fun gH gI=>?_);exact O6 (cf _ _ ⟨gC,de,df,dg,dh,gD,gE,gH,rfl,rfl,(bR.Ac cg),gI,(di.Ah cg),(dj.Ah cg),gF⟩) rfl
       ·refine Take.Lg dk rfl rfl rfl GW fun gJ gK=>JG.one (i:=9) rfl (by decide+kernel) (Take.HW (vs:= [sV b0 bZ b1]) gK (Pj (b2.Ah bR) b3) rfl rfl rfl Ko rfl ?_);rintro _ gL _ ci ⟨gM,gN,rfl,rfl,gO⟩ gP;exact O6 (cf _ _ ⟨gL,de,df,dg,dh,gM,gN,gJ,rfl,rfl,(bR.Ac ci),gP,(di.Ah ci),(dj.Ah ci),gO⟩) rfl
      ·refine Take.Lg bY rfl rfl rfl GW fun gQ gR=>JG.one (i:=4) rfl (by decide+kernel) (Take.HW (vs:= [.agg #[sV cF bG.1 cG,sV cI bG.2 cJ]]) gR (Ts cH cK cM) rfl rfl rfl (AR func26 rfl) rfl ?_);rintro _ h1 _ dl ⟨gS,gT,gU,gV,rfl,rfl,gW,gX⟩ gY;refine JG.one (i:=9) rfl (by decide+kernel) (Take.HW (vs:= [sV b0 bZ b1]) gY (Pj (b2.Ah dl) b3) rfl rfl rfl Ko rfl ?_);rintro _ gZ _ ck ⟨g0,g1,rfl,rfl,g3⟩ g4;exact O6 (cf _ _ ⟨gZ,gS,gT,gU,gV,g0,g1,gQ,rfl,rfl,(dl.Ac ck),g4,(gW.Ah ck),(gX.Ah ck),g3⟩) rfl
    ·refine JL.exit rfl ?_;obtain rfl:=oi el;have g5:cy=(Sum.inr ()):=(cD _ bF).symm;exact Ax (eg _ _ ⟨(),cC,g5,rfl,rfl,Y,bY⟩) rfl
 ·intro dm;refine Dy 27 dA (fun g6 g7=>?_) (fun g6 g8=>?_)
  ·refine zg 4 rfl ?_;obtain rfl:=oi g7;exact Ax (dm _ _ ⟨bW,rfl,rfl,Ar,cu⟩) rfl
  ·refine zg 1 rfl (Be underlying25 rfl rfl rfl ?_);refine zg 2 rfl ?_;obtain rfl:=oi g8;exact Ax (dm _ _ ⟨bW,rfl,rfl,Ar,cu⟩) rfl
end Pal
namespace Pal
theorem Y8{F:Nat}(a3:3489660928<F)(hs:ID F=some true)(J:JW)(lk:List (Int×Int))(l:Int×Int)(J9:List Int):NY F J lk l J9=some true:=by
 have O:100<F:=by omega
 refine CO ?_;unfold NY;refine Za O hs ?_;intro a4 u v a5 a6 al Z am hu ap _;refine AD (S:=fun q=>q=Sum.inr ()) ?_ (by rintro q rfl;rw [Sum.elim_inr];exact AO hs (Ak rfl));refine Cj 3 (fun i s=>s=(i:Int)) rfl (by omega) ?_ ?_
 ·rintro i s hi rfl;unfold Nm;obtain⟨K,V,U⟩:=TN (P:=NL) al Z Z i hi;obtain⟨L,Y,av⟩:=TN (P:=fun K:List (Int×Int)=>K.length≤20) am hu ap i hi;refine Br (by simp;omega) (AO (DC (m:=i) rfl V) ?_);refine AO (DC (m:=i) rfl Y) (AO (Zz O U) ?_);refine AO (ZN (by omega)) (AD (V1 (by omega) U) ?_);intro a7 a0;refine AO (DC (m:=i) rfl V) (AO (DC (m:=i) rfl Y) ?_);refine AD (XP O U) ?_;intro a8 a1;obtain rfl:=a0.uniq a1;refine AD (Wg (by omega) U) ?_;intro q1 ag;refine AO (DC (m:=i) rfl V) (AO (DC (m:=i) rfl Y) ?_);refine AD (XI O U) ?_;intro q2 a2;obtain rfl:=ag.uniq a2;refine AO (b:=false) (by rw [if_neg (by simp)];simp) (AO (b:=false) (by rw [if_neg (by simp)];simp) ?_);refine AO (b:=false) (by rw [if_neg (by simp)];simp) (AO (b:=false) (by rw [if_neg (by simp),Sw O ag.len];rfl) ?_);refine AO (b:=false) ?_ ?_
  ·rw [if_neg (by simp),DC (m:=i) rfl V,Option.bind_some,ZL O U];rfl
  refine AO (b:=false) ?_ ?_
  ·rw [if_neg (by simp),DC (m:=i) rfl Y,Option.bind_some,ah O av];rfl
  refine A9 (by simp) (AV ((i+1:Nat):Int) (by simp) (by omega) (by omega) ?_);exact Ak rfl
 ·rintro s rfl;unfold Nm;exact A9 (by simp) (Ak ⟨_,rfl,rfl⟩)
end Pal
