/- ToothAlikes. Part 5 of 8. -/
import Derived.Test.YtboibffcmhheiaaGreatDoorToc
import Derived.Test.YtboibffcmhheiaaGreatDoorTod
set_option linter.all false
set_option maxRecDepth 100000
namespace Pal
abbrev Bm:=List (Int×Int)
structure BH (n:Nat) (lk:Bm):Prop where
 len:lk.length≤8
 yr:∀l∈lk,0≤l.1∧l.1≤6
 sn:∀l∈lk,0≤l.2∧l.2<(n:Int)
 Hy:lk.Pairwise (fun a b=>a.1≤b.1)
theorem Yb{F n:Nat}{J:JW}{lk:Bm}(U:100<F)(K:VJ n J)(O:BH n lk)(V:lk.length≤4):f116 F J lk=some none:=by
 have Y:=K.l1;have Z:=K.pos;have ag:=K.le;refine C3 ?_;unfold f116;refine A7 (by omega) ?_;refine AB (S:=fun q=>q=Sum.inr ()) ?_ (by rintro q rfl;exact Ak rfl);refine Cl lk.length (fun i s=>s=(i:Int)) rfl (by omega) ?_ ?_
 ·rintro i s hi rfl;unfold Jw;have hm:=List.getElem_mem hi;have al:=O.yr _ hm;have hs:=O.sn _ hm;refine Bs (by omega) (Bl (m:=i) rfl hi ?_);refine AM (Jz F _ _ _) (A7 (by simp;omega) ?_);refine AB (S:=fun c=>c=false) ?_ ?_
  ·refine Bq (fun h=>?_) (fun h=>Ak rfl);refine AT ((i - 1:Nat):Int) (by omega) (by omega) (by omega) (Bl (m:=i - 1) rfl (by omega) ?_);have:=List.pairwise_iff_getElem.1 O.Hy (i - 1) i (by omega) hi (by omega);exact Ak (decide_eq_false (by omega))
  ·rintro c rfl;refine A7 (by simp) (AT ((n - 1:Nat):Int) (by omega) (by omega) (by omega) ?_);refine AM (Jz F _ _ _) (A7 (by simp;omega) ?_);exact AT ((i+1:Nat):Int) (by simp) (by omega) (by omega) (Ak rfl)
 ·rintro s rfl;unfold Jw;exact A7 (by omega) (Ak ⟨_,rfl,rfl⟩)
theorem O0{F n:Nat}{J:JW}{lk:Bm}(K:100<F)(O:VJ n J)(U:BH n lk)(V:lk.length≤4):f69 F J lk=some 0:=by
 unfold f69;rw [XO K O];simp only [Option.bind_some,Option.isSome_none,Bool.false_eq_true,if_false];rw [Yb K O U V];simp only [Option.bind_some];rw [Qj];rfl
def CC(lk:Bm):Nat:=match lk.getLast? with
 | some l=>l.1.toNat
 | none=>0
theorem Ik{n:Nat}{lk:Bm}(K:BH n lk):CC lk≤6:=by
 unfold CC;split
 ·rename_i l h;have:=K.yr l (List.mem_of_getLast? h);omega
 ·omega
theorem QU{F n:Nat}{O:JW}{A:List Nat}{lk:Bm}{age:Int}{ms:List Int}{fl:Nat}(U:BH n lk):Lf F ((O.1,O.2,A),lk,age,ms,fl)=some ((CC lk:Nat):Int):=by
 have V:=U.len;refine C3 ?_;unfold Lf CC;refine Bq (fun h=>?_) (fun h=>?_)
 ·simp only at h;have:lk= []:=List.length_eq_zero_iff.1 (by omega);subst this;exact Ak rfl
 ·simp only at h;have K:lk.length - 1<lk.length:=by omega
  refine AT ((lk.length - 1:Nat):Int) (by simp only;omega) (by omega) (by omega) (Bl (m:=lk.length - 1) rfl K ?_);rw [List.getLast?_eq_getElem?,List.getElem?_eq_getElem K];have:=U.yr _ (List.getElem_mem K);refine Ak ?_;simp only;omega
def Fe(J:JW)(m:Int)(l:Int×Int):Bool:=decide (m=l.2) || decide (l.2∈J.2.getD m.toNat [])
def EJ(J:JW)(lk:Bm)(y:Nat)(m:Int):Bool:=lk.all fun l=>decide (l.1≠(y:Int)) || Fe J m l
def BS(lk:Bm)(y:Nat)(m:Int):Nat→Nat
 | 0=>0
 | k+1=>match lk[k]? with
  | some l=>if l.1=(y:Int)∧m≠l.2 then BS lk y m k ||| 1<<<k else BS lk y m k
  | none=>BS lk y m k
theorem No(lk:Bm)(y:Nat)(m:Int):∀k,k≤16→BS lk y m k<65536
 | 0,_=>by unfold BS;omega
 | k+1,h=>by
  have:=No lk y m k (by omega)
  unfold BS
  split
  ·split
   ·exact NA this (SD (by omega))
   ·exact this
  ·exact this
theorem HM(lk:Bm)(y:Nat)(m:Int)(i:Nat):∀k,(BS lk y m k).testBit i=true↔i<k∧∃l,lk[i]? =some l∧l.1=(y:Int)∧m≠l.2
 | 0=>by simp [BS]
 | k+1=>by
  have ag:=HM lk y m i k
  have hb:(1<<<k).testBit i=decide (i=k):=by
   rw [Nat.one_shiftLeft,Nat.testBit_two_pow];exact decide_eq_decide.2 ⟨fun h=>h.symm,fun h=>h.symm⟩
  have key:∀P:Prop,(i<k∧P↔i<k+1∧P)∨i=k:=fun P=>by
   by_cases e:i=k
   ·exact .inr e
   ·exact .inl ⟨fun h=>⟨by omega,h.2⟩,fun h=>⟨by omega,h.2⟩⟩
  unfold BS;split
  ·rename_i l U;split
   ·rename_i V;rw [Nat.testBit_or,Bool.or_eq_true,ag,hb,decide_eq_true_iff];constructor
    ·rintro(⟨O,K⟩ | rfl)
     ·exact⟨by omega,K⟩
     ·exact⟨by omega,l,U,V.1,V.2⟩
    ·rintro⟨O,K⟩;by_cases e:i=k
     ·exact .inr e
     ·exact .inl ⟨by omega,K⟩
   ·rename_i V;rw [ag];constructor
    ·rintro⟨O,K⟩;exact⟨by omega,K⟩
    ·rintro⟨O,al,K,Y,Z⟩;by_cases e:i=k
     ·subst e;rw [U] at K;cases K;exact absurd ⟨Y,Z⟩ V
     ·exact⟨by omega,al,K,Y,Z⟩
  ·rename_i U;rw [ag];constructor
   ·rintro⟨O,K⟩;exact⟨by omega,K⟩
   ·rintro⟨O,al,K,Y,Z⟩;by_cases e:i=k
    ·subst e;rw [U] at K;cases K
    ·exact⟨by omega,al,K,Y,Z⟩
theorem XS{F:Nat}{l:List Int}{x:Int}(V:100<F)(Y:l.length<100):A1 (f201 F l x) (fun r=>decide (0≤r)=decide (x∈l)):=by
 unfold f201;refine AB (S:=fun q=>match q with | Sum.inl r=>0≤r∧x∈l | Sum.inr _=>x ∉ l) ?_ ?_
 ·refine Cl l.length (fun i s=>s=(i:Int)∧x ∉ l.take i) ⟨rfl,by simp⟩ (by omega) ?_ ?_
  ·rintro i s hi ⟨rfl,K⟩;unfold MG;refine Bs (by omega) (Bl (m:=i) rfl hi ?_);refine Bq (fun h=>?_) (fun h=>?_)
   ·exact Ak ⟨by omega,by rw [h];exact List.getElem_mem hi⟩
   ·refine AT ((i+1:Nat):Int) (by simp) (by omega) (by omega) (Ak ⟨rfl,?_⟩);rw [List.take_add_one,List.getElem?_eq_getElem hi];simp only [Option.toList_some,List.mem_append,List.mem_singleton];rintro(O | O)
    ·exact K O
    ·exact h O
  ·rintro s ⟨rfl,K⟩;unfold MG;exact A7 (by omega) (Ak ⟨_,rfl,by simpa using K⟩)
 ·rintro(r | u) U
  ·exact Ak (by rw [decide_eq_true U.1,decide_eq_true U.2])
  ·exact Ak (by rw [decide_eq_false U];rfl)
theorem W7{F:Nat}{l:List Int}{x:Int}(K:100<F)(O:l.length<100):f199 F l x=some (decide (x∈l)):=by
 refine C3 ?_;unfold f199;refine AB (XS K O) ?_;intro r U;exact Ak U
theorem X8{F n m:Nat}{J:JW}{A:List Nat}{s:Int}(U:100<F)(O:VJ n J)(hm:m<n):f192 F (J.1,J.2,A) (m:Int) s=some (if(m:Int)=s then some ((m:Int),none) else if s∈J.2.getD m [] then some ((m:Int),some s) else none):=by
 have Y:=O.l2;refine C3 ?_;unfold f192;refine Bq (fun h=>?_) (fun h=>?_)
 ·rw [if_pos h];exact Ak rfl
 ·rw [if_neg h];have V:J.2[m]? =some (J.2.getD m []):=by rw [List.getD_eq_getElem?_getD,List.getElem?_eq_getElem (by omega)];rfl
  refine AM (D3 (m:=m) rfl V) (AM (W7 U (by have:=(O.PN m).len;omega)) ?_);refine Bq (fun K=>?_) (fun K=>?_)
  ·rw [if_pos (of_decide_eq_true K)];exact Ak rfl
  ·rw [if_neg (of_decide_eq_false (by simpa using K))];exact Ak rfl
theorem X6{F n m y:Nat}{J:JW}{A:List Nat}{lk:Bm}{age:Int}{ms:List Int}{fl:Nat}(al:100<F)(am:VJ n J)(ap:BH n lk)(hm:m<n):
  Lj F ((J.1,J.2,A),lk,age,ms,fl) (y:Int) (m:Int)=some (if EJ J lk y (m:Int)=true then(BS lk y (m:Int) lk.length,true) else(0,false)):=by
 have a2:=ap.len;refine C3 ?_;unfold Lj;refine AB (S:=fun q=>(EJ J lk y (m:Int)=true∧q=Sum.inr (BS lk y (m:Int) lk.length))∨(EJ J lk y (m:Int)=false∧q=Sum.inl (0,false))) ?_ ?_
 ·refine Cl lk.length (fun i s=>s=(BS lk y (m:Int) i,(i:Int))∧∀l∈lk.take i,(decide (l.1≠(y:Int)) || Fe J (m:Int) l)=true) ⟨rfl,by simp⟩ (by omega) ?_ ?_
  ·rintro i s hi ⟨rfl,K⟩;unfold Mo;have av:=No lk y (m:Int) i (by omega);have hg:lk[i]? =some lk[i]:=List.getElem?_eq_getElem hi;have step:∀(l:Int×Int),l=lk[i]→(decide (l.1≠(y:Int)) || Fe J (m:Int) l)=true→∀O∈lk.take (i+1),(decide (O.1≠(y:Int)) || Fe J (m:Int) O)=true:=by
    rintro l rfl a0 O V;rw [List.take_add_one,hg] at V;simp only [Option.toList_some,List.mem_append,List.mem_singleton] at V;rcases V with h | rfl
    ·exact K O h
    ·exact a0
   have Y:BS lk y (m:Int) (i+1)=if lk[i].1=(y:Int)∧(m:Int)≠lk[i].2 then BS lk y (m:Int) i ||| 1<<<i else BS lk y (m:Int) i:=by
    rw [BS,hg]
   refine Bs (by simp only;omega) (AB (S:=fun q=>(q=Sum.inr (BS lk y (m:Int) (i+1))∧(decide (lk[i].1≠(y:Int)) || Fe J (m:Int) lk[i])=true)∨(q=Sum.inl (0,false)∧(decide (lk[i].1≠(y:Int)) || Fe J (m:Int) lk[i])=false)) ?_ ?_)
   ·refine Bl (m:=i) rfl hi (Bq (fun h=>?_) (fun h=>?_))
    ·refine Ak (.inl ⟨?_,by rw [decide_eq_true h];rfl⟩);rw [Y,if_neg (fun Z=>h Z.1)]
    ·have a1:lk[i].1=(y:Int):=by simpa using h
     refine AM (X8 al am hm) ?_;by_cases e:(m:Int)=lk[i].2
     ·rw [if_pos e];refine AB (S:=fun q=>q=Sum.inr (BS lk y (m:Int) i)) (Bs rfl (Ak rfl)) ?_;rintro q rfl;refine Ak (.inl ⟨?_,by unfold Fe;rw [decide_eq_true e];simp⟩);rw [Y,if_neg (fun Z=>Z.2 e)]
     ·rw [if_neg e];by_cases U:lk[i].2∈J.2.getD m []
      ·rw [if_pos U];refine AB (S:=fun q=>q=Sum.inr (BS lk y (m:Int) i ||| 1<<<i)) ?_ ?_
       ·refine A7 (by simp [Kb]) (Bs rfl ?_);refine AM (S5 F av (by omega)) (Ak rfl)
       ·rintro q rfl;refine Ak (.inl ⟨?_,by unfold Fe;rw [show((m:Int)).toNat=m by omega,decide_eq_true U];simp⟩);rw [Y,if_pos ⟨a1,e⟩]
      ·rw [if_neg U];refine AB (S:=fun q=>q=Sum.inl (0,false)) ?_ ?_
       ·exact A7 (by simp [Kb]) (A7 (by simp [Lz]) (Ak rfl))
       ·rintro q rfl;refine Ak (.inr ⟨rfl,?_⟩);unfold Fe;rw [show((m:Int)).toNat=m by omega,decide_eq_false U,decide_eq_false e,decide_eq_false h];rfl
   ·rintro q (⟨rfl,ag⟩ | ⟨rfl,ag⟩)
    ·rw [Sum.elim_inr];exact AT ((i+1:Nat):Int) (by simp) (by omega) (by omega) (Ak ⟨rfl,step _ rfl ag⟩)
    ·rw [Sum.elim_inl];refine Ak (.inr ⟨?_,rfl⟩);unfold EJ;rw [List.all_eq_false];exact⟨lk[i],List.getElem_mem hi,by rw [ag];simp⟩
  ·rintro s ⟨rfl,K⟩;unfold Mo;refine A7 (by simp only;omega) (Ak ⟨_,rfl,.inl ⟨?_,rfl⟩⟩);rw [List.take_length] at K;unfold EJ;exact List.all_eq_true.2 K
 ·rintro q (⟨h,rfl⟩ | ⟨h,rfl⟩)
  ·rw [Sum.elim_inr,if_pos h];exact Ak rfl
  ·rw [Sum.elim_inl,if_neg (by rw [h];simp)];exact Ak rfl
theorem XF{F n m:Nat}{J:JW}{A:List Nat}{lk:Bm}{age:Int}{ms:List Int}{fl:Nat}(O:100<F)(U:VJ n J)(K:BH n lk)(hm:m<n)(Z:ms.length<100)(V:fl<65536):
  LA F (J.1,J.2,A) lk age ms fl (m:Int)=some (if EJ J lk ms.length (m:Int)=true then some (ms++ [(m:Int)],fl ||| BS lk ms.length (m:Int) lk.length) else none):=by
 refine C3 ?_;unfold LA;refine AM (X6 O U K hm) ?_;have Y:=No lk ms.length (m:Int) lk.length (by have:=K.len;omega);by_cases h:EJ J lk ms.length (m:Int)=true
 ·rw [if_pos h,if_pos h];refine A7 (by simp) (AM (b:=ms) ?_ ?_)
  ·unfold f175 Lo;have:CF ([]:List Int) ms=some ms:=by unfold CF;rw [if_pos (by simp;omega)];rfl
   rw [this];rfl
  ·refine AM (b:=ms++ [(m:Int)]) ?_ ?_
   ·unfold CF;rw [if_pos (by simp;omega)]
   ·exact AM (if_pos ⟨V,Y⟩) (Ak rfl)
 ·rw [if_neg h,if_neg h];exact Bs rfl (Ak rfl)
end Pal
namespace Pal
def D6(J:JW)(lk:Bm):Nat→Nat→List Int→Nat→List (List Int×Nat)
 | 0,_,ms,fl=> [(ms,fl)]
 | k+1,sm,ms,fl=>(CB sm 16).flatMap fun m=>if EJ J lk ms.length m=true then D6 J lk k (CU (J.1.getD m.toNat [])) (ms++ [m]) (fl ||| BS lk ms.length m lk.length) else []
theorem Mg(s:Nat):(CB s 16).length≤16:=Kn s 16
theorem L6{α β:Type}{f:α→List β}{b:Nat}:∀{l:List α},(∀x∈l,(f x).length≤b)→(l.flatMap f).length≤l.length*b
 | [],_=>by simp
 | x::l,h=>by
  have O:=h x (by simp)
  have U:=L6 (l:=l) (fun y K=>h y (by simp [K]))
  simp only [List.flatMap_cons,List.length_append,List.length_cons,Nat.succ_mul]
  omega
theorem Mt(J:JW)(lk:Bm):∀k sm ms fl,(D6 J lk k sm ms fl).length≤16 ^ k
 | 0,_,_,_=>by simp [D6]
 | k+1,sm,ms,fl=>by
  unfold D6
  refine Nat.le_trans (L6 (b:=16 ^ k) fun m _=>?_) ?_
  ·split
   ·exact Mt J lk k _ _ _
   ·simp
  ·rw [Nat.pow_succ,Nat.mul_comm];exact Nat.mul_le_mul_left _ (Mg sm)
theorem VQ{k:Nat}(h:k≤7):16 ^ k≤268435456:=Nat.le_trans (Nat.pow_le_pow_right (by omega) h) (by decide)
theorem QG{α β:Type}{step:List β→α→Option (List β)}{f:α→List β}:∀{l:List α} {ac:List β},(∀(l1 l2:List α) x,l=l1++x::l2→step (ac++l1.flatMap f) x=some (ac++(l1++ [x]).flatMap f))→Fu step l ac=some (ac++l.flatMap f)
 | [],ac,_=>by simp [Fu]
 | x::l,ac,h=>by
  have K:=h [] l x rfl
  simp only [List.flatMap_nil,List.append_nil,List.nil_append] at K
  unfold Fu
  rw [K]
  simp only [Option.bind_some]
  rw [QG (f:=f) (ac:=ac++ [x].flatMap f) (l:=l) ?_]
  ·simp
  ·intro l1 l2 y O;have:=h (x::l1) l2 y (by rw [O];rfl);simp only [List.flatMap_cons,List.flatMap_nil,List.append_nil,List.cons_append,List.append_assoc] at this ⊢;simpa using this
theorem Ul{α β:Type}{step:List β→α→Option (List β)}{f:α→List β}{l:List α}{ac:List β}(h:∀(l1 l2:List α) x,l=l1++x::l2→step (ac++l1.flatMap f) x=some (ac++l1.flatMap f++f x)):Fu step l ac=some (ac++l.flatMap f):=
 QG fun l1 l2 x e=>by rw [h l1 l2 x e];simp
theorem YS{F n:Nat}{J:JW}{A:List Nat}{lk:Bm}{age:Int}{ok:List (List Int×Nat)→Bool}(Z:100<F)(O:VJ n J)(U:BH n lk)(a7:∀l:List (List Int×Nat),l.length≤16 ^ 7→(∀x∈l,x.2<65536)→ok l=true):
  ∀(k g sm:Nat) (ms:List Int) (fl:Nat) (ac:List (List Int×Nat)),ms.length+k=CC lk+1→k<g→sm<2 ^ n→fl<65536→ac.length+16 ^ k≤16 ^ 7→(∀x∈ac,x.2<65536)→
   IF ok F (J.1,J.2,A) lk age g sm ms fl ac=some (ac++D6 J lk k sm ms fl)∧∀x∈D6 J lk k sm ms fl,x.2<65536:=by
 have bj:=Ik U;have a8:=O.le;have bl:=RY a8;intro k
 induction k with
 | zero=>
  intro g sm ms fl ac a9 hg av V hlen ag;obtain⟨g,rfl⟩:∃g',g=g'+1:=⟨g - 1,by omega⟩;refine⟨?_,fun x K=>by simp [D6] at K;subst K;exact V⟩;unfold IF;have al:I9 F (J.1,J.2,A) lk age ms fl sm=some none:=by
   unfold I9;rw [QU U];simp only [Option.bind_some];rw [if_pos (by omega)]
  rw [al];simp only [Option.bind_some,Ka];rw [if_pos]
  ·rfl
  ·refine a7 _ (by simpa using hlen) fun x K=>?_;rcases List.mem_append.1 K with K | K
   ·exact ag x K
   ·simp at K;subst K;exact V
 | succ k a0=>
  intro g sm ms fl ac a9 hg av V hlen ag;obtain⟨g,rfl⟩:∃g',g=g'+1:=⟨g - 1,by omega⟩;have bm:ms.length≤6:=by omega
  have bn:=Mg sm;have a1:∀m∈CB sm 16,∃q:Nat,m=(q:Int)∧q<n:=fun m hm=>by
   obtain⟨q,_,q2,ba⟩:=IK.1 hm;exact⟨q,ba,IV av q2⟩
  have a2:∀m:Int,fl ||| BS lk ms.length m lk.length<65536:=fun m=>NA V (No _ _ _ _ (by have:=U.len;omega))
  have a3:∀q:Nat,q<n→CU (J.1.getD q [])<2 ^ n:=fun q Y=>by
   rcases Nat.lt_or_ge (CU (J.1.getD q [])) (2 ^ n) with h | h
   ·exact h
   ·obtain⟨i,bo,a4⟩:=Nat.exists_ge_and_testBit_of_ge_two_pow h;rw [Ku (fun x K=>((O.FQ q).inr x K).1)] at a4;have:=(O.FQ q).inr _ (of_decide_eq_true a4);omega
  have a5:∀m∈CB sm 16,EJ J lk ms.length m=true→∀x∈D6 J lk k (CU (J.1.getD m.toNat [])) (ms++ [m]) (fl ||| BS lk ms.length m lk.length),x.2<65536:=fun m hm hb=>by
   obtain⟨q,rfl,Y⟩:=a1 m hm;have bb:16 ^ k≤16 ^ 7:=Nat.pow_le_pow_right (by omega) (by omega);exact(a0 (k+1) _ _ _ [] (by simp;omega) (by omega) (a3 q Y) (a2 _) (by simpa using bb) (fun x K=>by simp at K)).2
  constructor
  ·unfold IF;have al:I9 F (J.1,J.2,A) lk age ms fl sm=some (some (CB sm 16)):=by
    unfold I9;rw [QU U];simp only [Option.bind_some];rw [if_neg (by omega),O7 Z (by omega)];rfl
   rw [al];simp only [Option.bind_some,Ka];rw [if_pos (by omega)];have e:D6 J lk (k+1) sm ms fl=(CB sm 16).flatMap fun m=>if EJ J lk ms.length m=true then D6 J lk k (CU (J.1.getD m.toNat [])) (ms++ [m]) (fl ||| BS lk ms.length m lk.length) else []:=rfl
   rw [e];refine Ul fun l1 l2 m hm=>?_;have bc:m∈CB sm 16:=by rw [hm];simp
   obtain⟨q,rfl,Y⟩:=a1 m bc;unfold Px;rw [XF Z O U Y (by omega) V];simp only [Option.bind_some];by_cases hb:EJ J lk ms.length (q:Int)=true
   ·rw [if_pos hb,if_pos hb];simp only;have bd:Ls F (J.1,J.2,A) lk age (ms++ [(q:Int)]) (fl ||| BS lk ms.length (q:Int) lk.length) (q:Int)=some (CU (J.1.getD q [])):=by
     unfold Ls;have be:J.1[q]? =some (J.1.getD q []):=by rw [List.getD_eq_getElem?_getD,List.getElem?_eq_getElem (by have:=O.l1;omega)];rfl
     have a6:=O.FQ q;rw [D3 (m:=q) rfl be];simp only [Option.bind_some];rw [RZ Z (by have:=a6.len;omega) (fun x K=>by have:=a6.inr x K;omega)];rfl
    rw [bd];simp only [Option.bind_some];have bf:l1.length+1≤16:=by
     have:=congrArg List.length hm;simp at this;omega
    have bp:(l1.flatMap fun m=>if EJ J lk ms.length m=true then D6 J lk k (CU (J.1.getD m.toNat [])) (ms++ [m]) (fl ||| BS lk ms.length m lk.length) else []).length≤l1.length*16 ^ k:=L6 fun y _=>by
     split
     ·exact Mt _ _ _ _ _ _
     ·simp
    have hmul:l1.length*16 ^ k+16 ^ k≤16 ^ (k+1):=by
     rw [Nat.pow_succ,← Nat.succ_mul,Nat.mul_comm _ 16];exact Nat.mul_le_mul_right _ bf
    have:=a0 g (CU (J.1.getD q [])) (ms++ [(q:Int)]) (fl ||| BS lk ms.length (q:Int) lk.length) (ac++l1.flatMap fun m=>if EJ J lk ms.length m=true then D6 J lk k (CU (J.1.getD m.toNat [])) (ms++ [m]) (fl ||| BS lk ms.length m lk.length) else []) (by simp;omega) (by omega) (a3 q Y) (a2 _) (by rw [List.length_append];omega) ?_
    ·rw [this.1,show((q:Int)).toNat=q by omega]
    ·intro x K;rcases List.mem_append.1 K with K | K
     ·exact ag x K
     ·obtain⟨y,bg,am⟩:=List.mem_flatMap.1 K;have bh:y∈CB sm 16:=by rw [hm];simp [bg]
      split at am
      ·rename_i bi;exact a5 y bh bi x am
      ·simp at am
   ·rw [if_neg hb,if_neg hb];simp
  ·intro x K;unfold D6 at K;obtain⟨m,hm,ap⟩:=List.mem_flatMap.1 K;split at ap
   ·rename_i hb;exact a5 m hm hb x ap
   ·simp at ap
end Pal
namespace Pal
abbrev CR:=Int×List Int×Nat
def CV(t:CR):Nat:=(CB t.2.2 16).length
theorem Xj{F:Nat}{t:CR}(K:100<F)(h:t.2.2<65536):f130 F t=some (CV t:Int):=by
 unfold f130;rw [O7 K h];rfl
def DF(K:List CR)(q:Int×List CR):Prop:=(K= []∧q=(0,[]))∨∃k:Nat,q.1=(k:Int)∧(∃t∈K,CV t=k)∧(∀t∈K,k≤CV t)∧q.2=K.filter (fun t=>decide (CV t=k))
theorem DF.len{K:List CR}{q:Int×List CR}(h:DF K q):q.2.length≤K.length:=by
 rcases h with⟨_,rfl⟩ | ⟨k,_,_,_,h⟩
 ·simp
 ·rw [h];exact List.length_filter_le _ _
theorem DF.sub{K:List CR}{q:Int×List CR}(h:DF K q):∀t∈q.2,t∈K∧(CV t:Int)=q.1:=by
 rcases h with⟨_,rfl⟩ | ⟨k,O,_,_,h⟩
 ·simp
 ·intro t ht;rw [h] at ht;obtain⟨a,b⟩:=List.mem_filter.1 ht;exact⟨a,by rw [O,of_decide_eq_true b]⟩
theorem DF.snoc(F:Nat){O:List CR}{q:Int×List CR}{t:CR}(h:DF O q)(a3:O.length<2 ^ 39):∃K,IE F q.1 q.2 t (CV t:Int)=some K∧DF (O++ [t]) K:=by
 have av:=h.len;obtain⟨le,all⟩:=q;simp only at av ⊢;have fresh:∀c:Bool,c=true→(∀s∈O,CV t<CV s)→∃K:Int×List CR,(Option.bind (if c=true then some ((CV t:Int),([]:List CR)) else some (le,all)) fun U=>Option.bind (if(CV t:Int)=U.1 then(CF U.2 ([t]:List CR)).bind fun a0=>some a0 else some U.2) fun a1=>some (U.1,a1))=some K∧DF (O++ [t]) K:=by
  rintro c rfl V;refine⟨((CV t:Int),[t]),?_,.inr ⟨CV t,rfl,⟨t,by simp,rfl⟩,?_,?_⟩⟩
  ·simp [CF]
  ·intro s hs;rcases List.mem_append.1 hs with hs | hs
   ·exact Nat.le_of_lt (V s hs)
   ·simp at hs;subst hs;exact Nat.le_refl _
  ·rw [List.filter_append,List.filter_eq_nil_iff.2 fun s hs=>by have:=V s hs;simp;omega];simp
 unfold IE;rcases h with⟨rfl,he⟩ | ⟨k,ap,⟨s,hs,Z⟩,ag,Y⟩
 ·cases he;simp only [List.length_nil];obtain⟨K,al,am⟩:=fresh true rfl (fun s hs=>by simp at hs);exact⟨K,by simpa using al,am⟩
 ·simp only at ap Y;subst ap;have a2:¬((all.length:Int)=0):=by
   have:s∈all:=by rw [Y];exact List.mem_filter.2 ⟨hs,by simpa using Z⟩
   have:=List.length_pos_of_mem this;omega
  rw [if_neg a2];simp only [Option.bind_some];rcases Nat.lt_trichotomy (CV t) k with V | heq | a4
  ·obtain⟨K,al,am⟩:=fresh (decide ((CV t:Int)<(k:Int))) (decide_eq_true (by omega)) (fun s hs=>Nat.lt_of_lt_of_le V (ag s hs));exact⟨K,al,am⟩
  ·rw [if_neg (by rw [decide_eq_true_iff];omega)];simp only [Option.bind_some];rw [if_pos (by omega)];refine⟨((k:Int),all++ [t]),?_,.inr ⟨k,rfl,⟨s,by simp [hs],Z⟩,?_,?_⟩⟩
   ·unfold CF;rw [if_pos (by simp;omega)];rfl
   ·intro u hu;rcases List.mem_append.1 hu with hu | hu
    ·exact ag u hu
    ·simp at hu;subst hu;omega
   ·rw [List.filter_append,Y];simp [heq]
  ·rw [if_neg (by rw [decide_eq_true_iff];omega)];simp only [Option.bind_some];rw [if_neg (by omega)];refine⟨((k:Int),all),rfl,.inr ⟨k,rfl,⟨s,by simp [hs],Z⟩,?_,?_⟩⟩
   ·intro u hu;rcases List.mem_append.1 hu with hu | hu
    ·exact ag u hu
    ·simp at hu;subst hu;omega
   ·rw [List.filter_append,← Y];have:¬CV t=k:=by omega
    simp [this]
theorem Og{F:Nat}{a:Int}(O:100<F):∀(l:List (List Int×Nat)) (K:List CR) (q:Int×List CR),DF K q→K.length+l.length<2 ^ 39→(∀x∈l,x.2<65536)→
  ∃U,Fu (add1 F a) l q=some U∧DF (K++l.map fun x=>(a,x.1,x.2)) U
 | [],K,q,h,_,_=>⟨q,rfl,by simpa using h⟩
 | x::l,K,q,h,Y,V=>by
  simp only [List.length_cons] at Y
  obtain⟨q1,Z,ag⟩:=h.snoc F (t:=(a,x.1,x.2)) (by omega)
  obtain⟨q2,al,am⟩:=Og O l (K++ [(a,x.1,x.2)]) q1 ag (by simp;omega) (fun y ap=>V y (by simp [ap]))
  refine⟨q2,?_,by simpa using am⟩
  unfold Fu add1
  rw [Xj (t:=(a,x.1,x.2)) O (V x (by simp))]
  simp only [Option.bind_some]
  rw [Z];exact al
def TA(J:JW)(lk:Bm)(a:Nat):List CR:=(D6 J lk (CC lk+1) (AG J a) [] 0).map fun x=>((a:Int),x.1,x.2)
def TT(J:JW)(lk:Bm):List CR:=(List.range 13).flatMap (TA J lk)
theorem ZE{n:Nat}{J:JW}{lk:Bm}(K:BH n lk)(a:Nat):(TA J lk a).length≤268435456:=by
 unfold TA;rw [List.length_map];exact Nat.le_trans (Mt _ _ _ _ _ _) (VQ (by have:=Ik K;omega))
theorem QP{F n a:Nat}{J:JW}{lk:Bm}(K:100<F)(O:VJ n J)(U:BH n lk)(V:a<13):∃q,GC F (J.1,J.2,Gp J) lk (a:Int)=some q∧DF (TA J lk a) q∧∀t∈TA J lk a,t.2.2<65536:=by
 have av:=Ik U;have Y:(16:Nat) ^ (CC lk+1)≤16 ^ 7:=Nat.pow_le_pow_right (by omega) (by omega);have Z:∀l:List (List Int×Nat),l.length≤16 ^ 7→(∀x∈l,x.2<65536)→(Hp F (a:Int) l).isSome=true:=fun l a0 ag=>by
  obtain⟨q,e,_⟩:=Og (a:=(a:Int)) K l [] (0,[]) (.inl ⟨rfl,rfl⟩) (by simp;omega) ag;unfold Hp;rw [e];rfl
 obtain⟨d1,d2⟩:=YS (A:=Gp J) (age:=(a:Int)) (ok:=fun ac=>(Hp F (a:Int) ac).isSome) K O U Z (CC lk+1) F (AG J a) [] 0 [] (by simp) (by omega) (IB O a) (by omega) (by simpa using Y) (by simp);obtain⟨q,al,am⟩:=Og (a:=(a:Int)) K (D6 J lk (CC lk+1) (AG J a) [] 0) [] (0,[]) (.inl ⟨rfl,rfl⟩) (by have:=Mt J lk (CC lk+1) (AG J a) [] 0;simp;omega) d2;refine⟨q,?_,by unfold TA;simpa using am,?_⟩
 ·unfold GC Kc;rw [D3 (m:=a) rfl (WS J V)];simp only [Option.bind_some];rw [d1];simp only [Option.bind_some,List.nil_append];exact al
 ·intro t ht;obtain⟨x,ap,rfl⟩:=List.mem_map.1 ht;exact d2 x ap
theorem U7{F n:Nat}{J:JW}{lk:Bm}(O:100<F)(U:VJ n J)(V:BH n lk):∃qs:Nat→Int×List CR,JV F (J.1,J.2,Gp J) lk=some (D2 qs)∧∀j,j<13→DF (TA J lk j) (qs j):=by
 refine⟨fun j=>(GC F (J.1,J.2,Gp J) lk ((j:Nat):Int)).getD (0,[]),?_,fun j K=>?_⟩
 ·unfold JV;rw [if_pos];rw [List.all_eq_true];intro j K;obtain⟨q,e,_⟩:=QP O U V (List.mem_range.1 K);rw [e];rfl
 ·obtain⟨q,e,h,_⟩:=QP O U V K;simp only [e];exact h
theorem Rj{α β:Type}{f g:α→List β}:∀{l:List α},(∀x∈l,f x=g x)→l.flatMap f=l.flatMap g
 | [],_=>rfl
 | x::l,h=>by rw [List.flatMap_cons,List.flatMap_cons,h x (by simp),Rj fun y K=>h y (by simp [K])]
theorem DF.flat{T:Nat→List CR}{Q:Nat→Int×List CR}{l:List Nat}{r:Int×List CR}(h:∀j∈l,DF (T j) (Q j))(a0:DF (l.flatMap fun j=>(Q j).2) r):DF (l.flatMap T) r:=by
 have F1:∀j∈l,(Q j).2= []→T j= []:=fun j K e=>by
  rcases h j K with⟨U,_⟩ | ⟨k,_,⟨t,ht,Z⟩,_,ag⟩
  ·exact U
  ·have:t∈(Q j).2:=by rw [ag];exact List.mem_filter.2 ⟨ht,by simpa using Z⟩
   rw [e] at this;simp at this
 rcases a0 with⟨U,rfl⟩ | ⟨k,U,⟨t,ht,Z⟩,av,ag⟩
 ·refine .inl ⟨?_,rfl⟩;rw [List.flatMap_eq_nil_iff] at U ⊢;exact fun j K=>F1 j K (U j K)
 ·have low:∀j∈l,∀s∈T j,∃O:Nat,(Q j).2=(T j).filter (fun t=>decide (CV t=O))∧k≤O∧O≤CV s:=fun j K s hs=>by
   rcases h j K with⟨al,_⟩ | ⟨O,_,⟨u,hu,am⟩,V,Y⟩
   ·rw [al] at hs;simp at hs
   ·refine⟨O,Y,?_,V s hs⟩;have:=av u (List.mem_flatMap.2 ⟨j,K,by rw [Y];exact List.mem_filter.2 ⟨hu,by simpa using am⟩⟩);omega
  refine .inr ⟨k,U,?_,?_,?_⟩
  ·obtain⟨j,K,a1⟩:=List.mem_flatMap.1 ht;exact⟨t,List.mem_flatMap.2 ⟨j,K,((h j K).sub t a1).1⟩,Z⟩
  ·intro s hs;obtain⟨j,K,a2⟩:=List.mem_flatMap.1 hs;obtain⟨O,_,g2,V⟩:=low j K s a2;omega
  ·rw [ag,List.filter_flatMap,List.filter_flatMap];refine Rj fun j K=>?_;rcases h j K with⟨al,g2⟩ | ⟨O,_,⟨u,hu,am⟩,V,Y⟩
   ·rw [al,g2]
   ·obtain⟨a4,a5,a6,a7⟩:=low j K u hu;rw [Y,List.filter_filter];by_cases e:O=k
    ·subst e;exact List.filter_congr fun x _=>by simp
    ·have a8:k<O:=by
      have a3:u∈(Q j).2:=by rw [Y];exact List.mem_filter.2 ⟨hu,by simpa using am⟩
      have:=av u (List.mem_flatMap.2 ⟨j,K,a3⟩);omega
     rw [List.filter_eq_nil_iff.2 fun x ap=>?_,List.filter_eq_nil_iff.2 fun x ap=>?_]
     ·have:=V x ap;simp;omega
     ·have:=V x ap;simp;omega
theorem UF{qs:Nat→Int×List CR}{p:Int×Int×List CR}(h:p∈D2 qs):∃j,j<13∧p=partOf qs j∧0<(qs j).2.length:=by
 unfold D2 at h;obtain⟨j,K,rfl⟩:=List.mem_map.1 h;obtain⟨O,U⟩:=List.mem_filter.1 K;exact⟨j,List.mem_range.1 O,rfl,of_decide_eq_true U⟩
theorem Uf(qs:Nat→Int×List CR):(D2 qs).length≤13:=by
 unfold D2;rw [List.length_map];exact Nat.le_trans (List.length_filter_le _ _) (by simp)
theorem T1(qs:Nat→Int×List CR):((D2 qs).flatMap fun p=>p.2.2)=(List.range 13).flatMap fun j=>(qs j).2:=by
 unfold D2;rw [List.flatMap_map];generalize List.range 13=l
 induction l with
 | nil=>rfl
 | cons j l K=>
  rw [List.filter_cons,List.flatMap_cons];split
  ·rw [List.flatMap_cons,K];rfl
  ·rename_i h;have:(qs j).2= []:=List.length_eq_zero_iff.1 (by simpa using h);rw [K,this];rfl
theorem Z9{F:Nat}{p:Int×Int×List CR}{pre:List CR}{le:Int}{all:List CR}(Z:268435456<F)(ag:p.2.2.length≤268435456)(al:pre.length<2 ^ 38)(V:∀t∈p.2.2,(CV t:Int)=p.2.1)(h:DF pre (le,all)):
  A1 (iter (K1 F p) F (le,all,0)) (fun r=>DF (pre++p.2.2) r):=by
 refine Cl p.2.2.length (fun i s=>s.2.2=(i:Int)∧DF (pre++p.2.2.take i) (s.1,s.2.1)) ⟨rfl,by simpa using h⟩ (by omega) ?_ ?_
 ·rintro i ⟨a,b,c⟩ hi ⟨O,K⟩;simp only at O K;subst O;unfold K1;refine Bs (by simp only;omega) (Bl (m:=i) rfl hi ?_);obtain⟨q,U,Y⟩:=K.snoc F (t:=p.2.2[i]) (by simp;omega);rw [V _ (List.getElem_mem hi)] at U;refine AM U (AT ((i+1:Nat):Int) (by simp) (by omega) (by omega) ?_);refine Ak ⟨rfl,?_⟩;rw [List.take_add_one,List.getElem?_eq_getElem hi];simpa using Y
 ·rintro⟨a,b,c⟩ ⟨O,K⟩;simp only at O K;subst O;unfold K1;refine A7 (by simp) (Ak ⟨_,rfl,?_⟩);rw [List.take_length] at K;exact K
theorem O2{F n:Nat}{J:JW}{lk:Bm}(al:268435456<F)(am:VJ n J)(ag:BH n lk):A1 (f93 F (J.1,J.2,Gp J) lk) (fun r=>DF (TT J lk) r):=by
 obtain⟨qs,e,Y⟩:=U7 (F:=F) (by omega) am ag;unfold f93;refine AM e ?_;have a0:=Uf qs;have hlen:∀p∈D2 qs,p.2.2.length≤268435456∧∀t∈p.2.2,(CV t:Int)=p.2.1:=fun p Z=>by
  obtain⟨j,U,rfl,_⟩:=UF Z;exact⟨Nat.le_trans (Y j U).len (ZE ag j),fun t ht=>((Y j U).sub t ht).2⟩
 refine AB (S:=fun r=>DF ((D2 qs).flatMap fun p=>p.2.2) r) ?_ ?_
 ·refine Cl (D2 qs).length (fun i s=>s.2.2=(i:Int)∧DF (((D2 qs).take i).flatMap fun p=>p.2.2) (s.1,s.2.1)) ⟨rfl,.inl ⟨rfl,rfl⟩⟩ (by omega) ?_ ?_
  ·rintro i ⟨a,b,c⟩ hi ⟨O,K⟩;simp only at O K;subst O;unfold MU;refine Bs (by simp only;omega) (Bl (m:=i) rfl hi ?_);obtain⟨ap,g2⟩:=hlen _ (List.getElem_mem hi);have a1:(((D2 qs).take i).flatMap fun p=>p.2.2).length≤((D2 qs).take i).length*268435456:=L6 fun p Z=>(hlen p (List.mem_of_mem_take Z)).1;have av:((D2 qs).take i).length≤13:=by rw [List.length_take];omega
   have hmul:((D2 qs).take i).length*268435456≤13*268435456:=Nat.mul_le_mul_right _ av;refine AB (Z9 al ap (by omega) g2 K) ?_;intro r V;refine AT ((i+1:Nat):Int) (by simp) (by omega) (by omega) ?_;refine Ak ⟨rfl,?_⟩;rw [List.take_add_one,List.getElem?_eq_getElem hi];simp only [Option.toList_some,List.flatMap_append,List.flatMap_cons,List.flatMap_nil,List.append_nil];exact V
  ·rintro⟨a,b,c⟩ ⟨O,K⟩;simp only at O K;subst O;unfold MU;refine A7 (by simp) (Ak ⟨_,rfl,?_⟩);rw [List.take_length] at K;exact K
 ·intro r V;refine Ak ?_;rw [T1] at V;exact DF.flat (fun j U=>Y j (List.mem_range.1 U)) V
end Pal
namespace Pal
theorem DF.Xm{K:List CR}{q:Int×List CR}(h:DF K q):q.2= []↔K= []:=by
 rcases h with⟨O,rfl⟩ | ⟨k,_,⟨t,ht,U⟩,_,V⟩
 ·simp [O]
 ·constructor
  ·intro e;have:t∈q.2:=by rw [V];exact List.mem_filter.2 ⟨ht,by simpa using U⟩
   rw [e] at this;simp at this
  ·rintro rfl;simp at ht
def CX(J:JW)(lk:Bm)(k:Nat):Prop:=(∃t∈TT J lk,CV t=k)∧∀t∈TT J lk,k≤CV t
theorem CX.uniq{J:JW}{lk:Bm}{k k':Nat}(h:CX J lk k)(K:CX J lk k'):k=k':=by
 obtain⟨⟨t,ht,Z⟩,O⟩:=h;obtain⟨⟨U,V,ag⟩,Y⟩:=K;have:=O U V;have:=Y t ht;omega
theorem Iw{J:JW}{lk:Bm}{t:CR}:t∈TT J lk↔∃a,a<13∧t∈TA J lk a:=by
 unfold TT;rw [List.mem_flatMap];exact⟨fun⟨a,K,O⟩=>⟨a,List.mem_range.1 K,O⟩,fun⟨a,K,O⟩=>⟨a,List.mem_range.2 K,O⟩⟩
end Pal
namespace Pal
def GF(J:JW)(a:Nat)(p:List Int):Prop:=(∀m,p[0]? =some m→∃k:Nat,m=(k:Int)∧(AG J a).testBit k=true)∧∀(y:Nat) m m',p[y]? =some m→p[y+1]? =some m'→m'∈J.1.getD m.toNat []
theorem GF.range{n a:Nat}{J:JW}{p:List Int}(K:VJ n J)(h:GF J a p):∀(y:Nat) m,p[y]? =some m→0≤m∧m<(n:Int)
 | 0,m,hm=>by
  obtain⟨k,rfl,O⟩:=h.1 m hm
  have:=IV (IB K a) O
  omega
 | y+1,m,hm=>by
  have U:y<p.length:=by have:=(List.getElem?_eq_some_iff.1 hm).1;omega
  exact(K.FQ _).inr _ (h.2 y p[y] m (List.getElem?_eq_getElem U) hm)
theorem GF.take{a:Nat}{J:JW}{p:List Int}(h:GF J a p)(k:Nat):GF J a (p.take k):=by
 have key:∀(y:Nat) m,(p.take k)[y]? =some m→p[y]? =some m:=fun y m hm=>by
  rw [List.getElem?_take] at hm;split at hm
  ·exact hm
  ·cases hm
 exact⟨fun m hm=>h.1 m (key 0 m hm),fun y m m' K O=>h.2 y m m' (key _ _ K) (key _ _ O)⟩
theorem GF.snoc{a:Nat}{J:JW}{p:List Int}{m x:Int}(h:GF J a (p++ [m]))(U:x∈J.1.getD m.toNat []):GF J a (p++ [m]++ [x]):=by
 constructor
 ·intro y O;rw [List.getElem?_append_left (by simp)] at O;exact h.1 y O
 ·intro y u V hu K;rcases Nat.lt_or_ge (y+1) (p++ [m]).length with Y | Z
  ·rw [List.getElem?_append_left (by omega)] at hu;rw [List.getElem?_append_left Y] at K;exact h.2 y u V hu K
  ·have ag:=(List.getElem?_eq_some_iff.1 K).1;simp only [List.length_append,List.length_singleton] at Z ag;have e:y=p.length:=by omega
   subst e;rw [List.getElem?_append_left (by simp),List.getElem?_append_right (by omega)] at hu;rw [List.getElem?_append_right (by simp)] at K;simp at hu K;subst hu;subst K;exact U
theorem W4{n a q:Nat}{J:JW}{x:Int}(K:VJ n J)(O:(AG J a).testBit q=true)(U:x∈J.1.getD q []):∃k:Nat,x=(k:Int)∧(AG J (a+1)).testBit k=true:=by
 have V:=(K.FQ q).inr x U;refine⟨x.toNat,by omega,?_⟩;show(GK J.1 (AG J a)).testBit _=true;rw [OK K];exact⟨q,by have:=IV (IB K a) O;have:=K.le;omega,O,by rw [show((x.toNat:Nat):Int)=x by omega];exact U⟩
theorem VJ.Tz{n q:Nat}{J:JW}(K:VJ n J)(U:q<n):J.1[q]? =some (J.1.getD q [])∧0<(J.1.getD q []).length:=by
 have V:=K.l1;have O:J.1[q]? =some (J.1.getD q []):=by rw [List.getD_eq_getElem?_getD,List.getElem?_eq_getElem (by omega)];rfl
 exact⟨O,(K.nx q _ O).2⟩
theorem Yv{F k n yrs:Nat}{b:Fi}{J:JW}(bg:100<F)(K:VJ n J)(hb:BG k b)(bh:k<1000)(bi:yrs≤20):
  A1 (f45 F b J (yrs:Int)) (fun r=>∃a:Nat,r.1=(a:Int)∧a≤6∧r.2.1.length=yrs∧GF J a r.2.1∧BG (k+30) r.2.2):=by
 have bj:=K.le;have bl:=K.pos;unfold f45;refine AB (HP hb (by omega) (by omega)) ?_;rintro⟨a5,bm⟩ ⟨a8,g2,a6⟩;simp only at a8 g2 a6 ⊢;obtain⟨a,rfl⟩:∃a:Nat,a5=(a:Int):=⟨a5.toNat,by omega⟩;refine AB (S:=fun r=>∃q:Nat,r.1=(q:Int)∧(AG J a).testBit q=true∧BG (k+7) r.2) ?_ ?_
 ·refine Cl a (fun i s=>∃q:Nat,s.2.2.2.1=(q:Int)∧(AG J i).testBit q=true∧s.2.2.2.2=(i:Int)∧BG (k+1+i) (s.1,s.2.1,s.2.2.1)) ⟨0,rfl,by show(1:Nat).testBit 0=true;decide,rfl,a6⟩ (by omega) ?_ ?_
  ·rintro i ⟨s1,s2,a2,Z,a1⟩ hi ⟨q,O,ag,al,am⟩;simp only at O al am;subst O;subst al;unfold M4;have a9:=IV (IB K i) ag;obtain⟨a3,a4⟩:=K.Tz a9;refine Bs (by simp only;omega) (AM (D3 (m:=q) rfl a3) ?_);refine AB (Nq (F:=F) am (by omega) a4 (by have:=(K.FQ q).len;omega)) ?_;rintro⟨x,ba⟩ ⟨ap,av⟩;simp only at ap av ⊢;obtain⟨bb,rfl,bc⟩:=W4 K ag ap;exact AT ((i+1:Nat):Int) (by simp) (by omega) (by omega) (Ak ⟨bb,rfl,bc,rfl,av⟩)
  ·rintro⟨s1,s2,a2,Z,a1⟩ ⟨q,O,ag,al,am⟩;simp only at O al am;subst O;subst al;unfold M4;exact A7 (by simp) (Ak ⟨_,rfl,q,rfl,ag,am.Ah (by omega)⟩)
 ·rintro⟨bn,ba⟩ ⟨q,O,ag,av⟩;simp only at O av ⊢;subst O;refine AB (S:=fun r=>r.1.length=yrs∧GF J a r.1∧BG (k+30) r.2) ?_ ?_
  ·refine Cl yrs (fun i s=>s.2.2.2.2.1.length=i∧s.2.2.2.2.2=(i:Int)∧GF J a (s.2.2.2.2.1++ [s.2.2.2.1])∧BG (k+7+i) (s.1,s.2.1,s.2.2.1)) ⟨rfl,rfl,⟨?_,?_⟩,av⟩ (by omega) ?_ ?_
   ·intro m hm;simp at hm;subst hm;exact⟨q,rfl,ag⟩
   ·intro y m m' _ bd;simp at bd
   ·rintro i ⟨s1,s2,a2,Z,a1,be⟩ hi ⟨U,Y,V,a0⟩;simp only at U Y V a0;subst Y;unfold Nh;have bo:=V.range K i Z (by rw [List.getElem?_append_right (by omega)];simp [U]);obtain⟨u,hu⟩:∃u:Nat,Z=(u:Int):=⟨Z.toNat,by omega⟩;subst hu;obtain⟨a3,a4⟩:=K.Tz (q:=u) (by omega);refine Bs (by simp only;omega) (Kr (by simp only;omega) ?_);refine AM (D3 (m:=u) rfl a3) (AB (Nq (F:=F) a0 (by omega) a4 (by have:=(K.FQ u).len;omega)) ?_);rintro⟨x,bf⟩ ⟨ap,a7⟩;simp only at ap a7 ⊢;exact AT ((i+1:Nat):Int) (by simp) (by omega) (by omega) (Ak ⟨by simp [U],rfl,V.snoc (by simpa using ap),a7⟩)
   ·rintro⟨s1,s2,a2,Z,a1,be⟩ ⟨U,Y,V,a0⟩;simp only at U Y V a0;subst Y;unfold Nh;refine A7 (by simp) (Ak ⟨_,rfl,U,?_,a0.Ah (by omega)⟩);have:=V.take a1.length
    rwa [List.take_left' rfl] at this
  ·rintro⟨ms,bf⟩ ⟨U,Y,V⟩;exact Ak ⟨a,rfl,by omega,U,Y,V⟩
theorem BH.snoc{n:Nat}{lk:Bm}{l:Int×Int}(h:BH n lk)(Z:lk.length<4)(U:0≤l.1∧l.1≤6)(V:0≤l.2∧l.2<(n:Int))(Y:∀x∈lk,x.1≤l.1):BH n (lk++ [l]) where
 len:=by simp;omega
 yr x K:=by
  rcases List.mem_append.1 K with K | K
  ·exact h.yr x K
  ·simp at K;subst K;exact U
 sn x K:=by
  rcases List.mem_append.1 K with K | K
  ·exact h.sn x K
  ·simp at K;subst K;exact V
 Hy:=by
  rw [List.pairwise_append];exact⟨h.Hy,by simp,fun x K y O=>by simp at O;subst O;exact Y x K⟩
theorem BH.nil{n:Nat}:BH n []:=⟨by simp,by simp,by simp,by simp⟩
theorem ZT{F k n many:Nat}{b:Fi}{J:JW}{ms:List Int}(fl:Bool)(bj:100<F)(ap:VJ n J)(hb:BG k b)(bl:k<1000)(hm:many≤4)(a7:0<ms.length∧ms.length≤7)(Y:∀(y:Nat) m,ms[y]? =some m→0≤m∧m<(n:Int)):
  A1 (f46 F b J ms (many:Int) fl) (fun r=>BH n r.1∧r.1.length≤many∧(∀l∈r.1,l.1.toNat<ms.length)∧(fl=false→∀l∈r.1,ms[l.1.toNat]? =some l.2)∧BG (k+30) r.2):=by
 have a8:=ap.l2;unfold f46;refine AB (HP hb (by omega) (by omega)) ?_;rintro⟨ct,bm⟩ ⟨a9,g2,av⟩;simp only at a9 g2 av ⊢;obtain⟨c,rfl⟩:∃c:Nat,ct=(c:Int):=⟨ct.toNat,by omega⟩;refine AB (S:=fun r=>BH n r.1∧r.1.length≤many∧(∀l∈r.1,l.1.toNat<ms.length)∧(fl=false→∀l∈r.1,ms[l.1.toNat]? =some l.2)∧BG (k+30) r.2) ?_ (fun r Y=>Ak Y);refine KB (fun m s=>∃y:Nat,s.2.2.2.2.2=(m:Int)∧s.2.2.2.2.1=(y:Int)∧y<ms.length∧s.2.2.2.1.length+m≤many∧BH n s.2.2.2.1∧(∀l∈s.2.2.2.1,l.1≤(y:Int))∧(fl=false→∀l∈s.2.2.2.1,ms[l.1.toNat]? =some l.2)∧BG (k+29 - 4*m) (s.1,s.2.1,s.2.2.1)) ?_ (m:=c) ⟨0,rfl,rfl,a7.1,by simp;omega,BH.nil,by simp,by simp,av.Ah (by omega)⟩ (by omega);rintro m ⟨s1,s2,bn,out,yr,cnt⟩ ⟨y,a0,a1,bo,hlen,U,hle,Z,ag⟩;simp only at a0 a1 hlen U hle Z ag;subst a0;subst a1;unfold O1;refine Bq (fun ba=>?_) (fun bb=>?_)
 ·simp only at ba;have bp:0<m:=by omega
  refine AT ((ms.length - 1:Nat):Int) (by omega) (by omega) (by omega) (AT ((y+2:Nat):Int) (by simp only;omega) (by omega) (by omega) ?_);refine AB (O6 (F:=F) ag (by omega) (by simp only;omega) (by simp only;omega) (by omega)) ?_;rintro⟨a2,bq⟩ ⟨v1,v2,al⟩;simp only at v1 v2 al ⊢;obtain⟨z,rfl⟩:∃z:Nat,a2=(z:Int):=⟨a2.toNat,by omega⟩;have a3:z<ms.length:=by omega
  have hg:ms[z]? =some ms[z]:=List.getElem?_eq_getElem a3;obtain⟨br,bc⟩:=Y z _ hg;obtain⟨q,bd⟩:∃q:Nat,ms[z]=(q:Int):=⟨ms[z].toNat,by omega⟩;rw [bd] at hg bc;have bu:q<n:=by omega
  have be:J.2[q]? =some (J.2.getD q []):=by rw [List.getD_eq_getElem?_getD,List.getElem?_eq_getElem (by omega)];rfl
  have a4:=ap.PN q;refine AM (D3 (m:=z) rfl hg) ?_;refine AM (D3 (m:=z) rfl hg) ?_;refine AM (D3 (m:=q) rfl be) ?_;refine AB (S:=fun c=>c=true→fl=true∧0<(J.2.getD q []).length) ?_ ?_
  ·refine Bq (fun h=>Ak fun O=>⟨h,by have:=of_decide_eq_true O;omega⟩) (fun _=>Ak fun O=>by cases O)
  ·intro bv bf;refine AB (S:=fun r=>(r.1=true→fl=true∧0<(J.2.getD q []).length)∧BG (k+29 - 4*m+2) r.2) ?_ ?_
   ·refine Bq (fun h=>?_) (fun _=>Ak ⟨fun O=>(by cases O),BG.Ah al (by omega)⟩);refine AB (K9 (F:=F) al (by omega) (by omega) (by omega)) ?_;rintro⟨o,bg⟩ V;exact Ak ⟨fun _=>bf h,V⟩
   ·rintro⟨c2,bg⟩ ⟨a5,V⟩;simp only at a5 V ⊢;refine AB (S:=fun r=>0≤r.2.2.2∧r.2.2.2<(n:Int)∧(fl=false→r.2.2.2=(q:Int))∧BG (k+29 - 4*m+3) (r.1,r.2.1,r.2.2.1)) ?_ ?_
    ·refine Bq (fun h=>?_) (fun _=>Ak ⟨by simp only;omega,by simp only;omega,fun _=>rfl,BG.Ah V (by omega)⟩);obtain⟨f1,f2⟩:=a5 h;refine AB (Nq (F:=F) V (by omega) f2 (by have:=a4.len;omega)) ?_;rintro⟨x,bw⟩ ⟨am,bh⟩;have:=a4.inr x am;exact Ak ⟨this.1,this.2,fun O=>(by rw [f1] at O;cases O),bh⟩
    ·rintro⟨u1,u2,bx,sn⟩ ⟨w1,w2,w3,w4⟩;simp only at w1 w2 w3 w4 ⊢;refine Kr (by have:=U.len;omega) (AT ((m - 1:Nat):Int) (by omega) (by omega) (by omega) ?_);refine Ak ⟨m - 1,by omega,z,rfl,rfl,a3,by simp;omega,?_,?_,?_,w4.Ah (by omega)⟩
     ·exact U.snoc (by have:=U.len;omega) ⟨by simp only;omega,by simp only;omega⟩ ⟨w1,w2⟩ fun x am=>by have:=hle x am;simp only;omega
     ·intro l K;rcases List.mem_append.1 K with K | K
      ·have:=hle l K;omega
      ·simp at K;subst K;exact Int.le_refl _
     ·intro a6 l K;rcases List.mem_append.1 K with K | K
      ·exact Z a6 l K
      ·simp at K;subst K;rw [w3 a6];exact hg
 ·simp only at bb;have bi:m=0:=by omega
  subst bi;exact Ak ⟨U,by omega,fun l K=>by have bz:=hle l K;have a8:=U.yr l K;omega,Z,ag.Ah (by omega)⟩
theorem BH.set{n i:Nat}{lk:Bm}{s:Int}(h:BH n lk)(hi:i<lk.length)(hs:0≤s∧s<(n:Int)):BH n (lk.set i (lk[i].1,s)):=by
 have hm:=List.getElem_mem hi;refine⟨by simpa using h.len,fun l K=>?_,fun l K=>?_,?_⟩
 ·rcases List.mem_or_eq_of_mem_set K with O | rfl
  ·exact h.yr l O
  ·exact h.yr lk[i] hm
 ·rcases List.mem_or_eq_of_mem_set K with O | rfl
  ·exact h.sn l O
  ·exact hs
 ·have key:(lk.set i (lk[i].1,s)).map (fun l=>l.1)=lk.map (fun l=>l.1):=by
   rw [List.map_set];apply List.ext_getElem?;intro j;by_cases e:i=j
   ·subst e;rw [List.getElem?_set_self (by simpa using hi)];simp [hi]
   ·rw [List.getElem?_set_ne e]
  have U:(lk.map fun l=>l.1).Pairwise (·≤·):=List.pairwise_map.2 h.Hy;rw [← key] at U;exact List.pairwise_map.1 U
theorem ZU{F k n many:Nat}{b:Fi}{J:JW}(V:100<F)(K:VJ n J)(hb:BG k b)(a8:k<900)(hm:many≤4):
  A1 (f40 F b J (many:Int)) (fun r=>BH n r.1∧r.1.length≤many∧(∀l∈r.1,l.1.toNat<5)∧BG (k+100) r.2):=by
 have a9:=K.l1;have ba:=K.pos;have bb:=K.le;unfold f40;refine AB (Yv (yrs:=5) V K hb (by omega) (by omega)) ?_;rintro⟨bc,ms,bd⟩ ⟨a,_,_,g2,Y,Z⟩;simp only at g2 Y Z ⊢;refine AB (ZT (many:=many) true V K Z (by omega) hm ⟨by omega,by omega⟩ (Y.range K)) ?_;rintro⟨lk,be⟩ ⟨v1,v2,ag,_,al⟩;simp only at v1 v2 ag al ⊢;refine AB (S:=fun r=>BH n r.1∧r.1.length≤many∧(∀l∈r.1,l.1.toNat<5)∧BG (k+100) r.2) ?_ (fun r a1=>Ak a1);refine Cl lk.length (fun i s=>s.2.2.2.2=(i:Int)∧BH n s.2.2.2.1∧s.2.2.2.1.length=lk.length∧(∀l∈s.2.2.2.1,l.1.toNat<5)∧BG (k+60+3*i) (s.1,s.2.1,s.2.2.1)) ⟨rfl,v1,rfl,fun l a2=>by have:=ag l a2;omega,al⟩ (by have:=v1.len;omega) ?_ ?_
 ·rintro i ⟨s1,s2,a3,l,c⟩ hi ⟨e,w1,w2,w3,w4⟩;simp only at e w1 w2 w3 w4;subst e;unfold Nn;have O:i<l.length:=by omega
  have a4:=v1.len;refine Bs (by simp only;omega) ?_;refine AB (K9 (F:=F) w4 (by omega) (by omega) (by omega)) ?_;rintro⟨o,bf⟩ U;simp only at U ⊢;refine AB (S:=fun r=>BH n r.1∧r.1.length=lk.length∧(∀x∈r.1,x.1.toNat<5)∧BG (k+60+3*i+2) r.2) ?_ ?_
  ·refine Bq (fun _=>?_) (fun _=>Ak ⟨w1,w2,w3,BG.Ah U (by omega)⟩);refine AT ((n - 1:Nat):Int) (by omega) (by omega) (by omega) (AB (HP (F:=F) U (by omega) (by omega)) ?_);rintro⟨x,a5⟩ ⟨am,x2,ap⟩;simp only at am x2 ap ⊢;refine Bl (m:=i) rfl O (Ak ⟨?_,by simpa using w2,?_,ap⟩)
   ·rw [show Int.toNat (i:Int)=i by omega];exact w1.set O ⟨am,by omega⟩
   ·intro y a6;rcases List.mem_or_eq_of_mem_set a6 with a7 | rfl
    ·exact w3 y a7
    ·exact w3 l[i] (List.getElem_mem O)
  ·rintro⟨l2,a5⟩ ⟨u1,u2,av,a0⟩;simp only at u1 u2 av a0 ⊢;exact AT ((i+1:Nat):Int) (by simp) (by omega) (by omega) (Ak ⟨rfl,u1,u2,av,BG.Ah a0 (by omega)⟩)
 ·rintro⟨s1,s2,a3,l,c⟩ ⟨e,w1,w2,w3,w4⟩;simp only at e w1 w2 w3 w4;subst e;unfold Nn;have a4:=v1.len;exact A7 (by simp only;omega) (Ak ⟨_,rfl,w1,by simp only;omega,w3,BG.Ah w4 (by omega)⟩)
end Pal
namespace Pal
def Tx(J:JW)(lk:Bm)(p:List Int):Prop:=∀l∈lk,∀m,p[l.1.toNat]? =some m→Fe J m l=true
def F7(lk:Bm):Nat→List Int→Nat
 | _,[]=>0
 | y,m::p=>BS lk y m lk.length ||| F7 lk (y+1) p
theorem OD(lk:Bm)(i:Nat):∀(p:List Int) (y:Nat),(F7 lk y p).testBit i=true↔∃l,lk[i]? =some l∧∃(q:Nat) (m:Int),p[q]? =some m∧l.1=((y+q:Nat):Int)∧m≠l.2
 | [],y=>by simp [F7]
 | m::p,y=>by
  unfold F7
  rw [Nat.testBit_or,Bool.or_eq_true,HM,OD lk i p (y+1)]
  constructor
  ·rintro(⟨_,l,K,O,U⟩ | ⟨l,K,q,u,O,U,V⟩)
   ·exact⟨l,K,0,m,rfl,by simpa using O,U⟩
   ·exact⟨l,K,q+1,u,by simpa using O,by rw [U];congr 1;omega,V⟩
  ·rintro⟨l,K,q,u,O,U,V⟩;cases q with
   | zero=>
    simp at O;subst O;exact .inl ⟨(List.getElem?_eq_some_iff.1 K).1,l,K,by simpa using U,V⟩
   | succ q=>exact .inr ⟨l,K,q,u,by simpa using O,by rw [U];congr 1;omega,V⟩
def LF(J:JW)(lk:Bm):Nat→Nat→List Int→Prop
 | _,_,[]=>True
 | y,sm,m::p=>m∈CB sm 16∧EJ J lk y m=true∧LF J lk (y+1) (CU (J.1.getD m.toNat [])) p
theorem KS(J:JW)(lk:Bm)(x:List Int×Nat):∀(k sm:Nat) (ms:List Int) (fl:Nat),x∈D6 J lk k sm ms fl↔∃p,p.length=k∧x.1=ms++p∧LF J lk ms.length sm p∧x.2=fl ||| F7 lk ms.length p
 | 0,sm,ms,fl=>by
  unfold D6
  rw [List.mem_singleton]
  constructor
  ·rintro rfl;exact⟨[],rfl,by simp,trivial,by simp [F7]⟩
  ·rintro⟨p,K,O,_,U⟩;have:p= []:=List.length_eq_zero_iff.1 K;subst this;simp [F7] at O U;exact Prod.ext O U
 | k+1,sm,ms,fl=>by
  unfold D6;rw [List.mem_flatMap];constructor
  ·rintro⟨m,hm,V⟩;split at V
   ·rename_i hb;obtain⟨p,K,O,U,Y⟩:=(KS J lk x k _ _ _).1 V;refine⟨m::p,by simp [K],by rw [O];simp,⟨hm,hb,by simpa using U⟩,?_⟩;rw [Y];simp only [List.length_append,List.length_singleton,F7];exact Nat.or_assoc _ _ _
   ·simp at V
  ·rintro⟨p,K,O,U,Y⟩;cases p with
   | nil=>simp at K
   | cons m p=>
    obtain⟨Z,g2,ag⟩:=U;refine⟨m,Z,?_⟩;rw [if_pos g2];refine(KS J lk x k _ _ _).2 ⟨p,by simpa using K,by rw [O];simp,by simpa using ag,?_⟩;rw [Y];simp only [List.length_append,List.length_singleton,F7];exact(Nat.or_assoc _ _ _).symm
theorem OF{J:JW}{lk:Bm}{y:Nat}{m:Int}:EJ J lk y m=true↔∀l∈lk,l.1=(y:Int)→Fe J m l=true:=by
 unfold EJ;rw [List.all_eq_true];refine forall_congr' fun l=>forall_congr' fun _=>?_;rw [Bool.or_eq_true,decide_eq_true_iff];by_cases h:l.1=(y:Int) <;> simp [h]
theorem Ol{n q:Nat}{J:JW}{m:Int}(U:VJ n J):m∈CB (CU (J.1.getD q [])) 16↔m∈J.1.getD q []:=by
 have K:=U.FQ q;have Y:=U.le;rw [IK];constructor
 ·rintro⟨k,_,V,rfl⟩;rw [Ku (fun x O=>(K.inr x O).1)] at V;exact of_decide_eq_true V
 ·intro h;have:=K.inr m h;refine⟨m.toNat,by omega,?_,by omega⟩;rw [Ku (fun x O=>(K.inr x O).1),show((m.toNat:Nat):Int)=m by omega];exact decide_eq_true h
theorem OG{n:Nat}{J:JW}{lk:Bm}(ag:VJ n J):∀(p:List Int) (y sm:Nat),LF J lk y sm p↔(∀m,p[0]? =some m→m∈CB sm 16)∧(∀(q:Nat) m m',p[q]? =some m→p[q+1]? =some m'→m'∈J.1.getD m.toNat [])∧∀l∈lk,∀(q:Nat) m,l.1=((y+q:Nat):Int)→p[q]? =some m→Fe J m l=true
 | [],y,sm=>by simp [LF]
 | m::p,y,sm=>by
  unfold LF
  rw [OG ag p,OF]
  constructor
  ·rintro⟨al,U,V,am,ap⟩
   refine⟨fun u hu=>by simp at hu;subst hu;exact al,fun q u Y hu O=>?_,fun l K q u Z hu=>?_⟩
   ·cases q with
    | zero=>
     simp at hu O;subst hu;exact(Ol ag).1 (V Y (by rw [List.getElem?_eq_some_iff];exact List.getElem?_eq_some_iff.1 O))
    | succ q=>exact am q u Y (by simpa using hu) (by simpa using O)
   ·cases q with
    | zero=>
     simp at hu;subst hu;exact U l K (by simpa using Z)
    | succ q=>exact ap l K q u (by rw [Z];congr 1;omega) (by simpa using hu)
  ·rintro⟨al,U,V⟩;refine⟨al m rfl,fun l K av=>V l K 0 m (by simpa using av) rfl,fun u hu=>(Ol ag).2 (U 0 m u rfl (by simpa using hu)),fun q u Y hu O=>U (q+1) u Y (by simpa using hu) (by simpa using O),fun l K q u Z hu=>V l K (q+1) u (by rw [Z];congr 1;omega) (by simpa using hu)⟩
theorem MT{n a:Nat}{J:JW}{lk:Bm}(U:VJ n J)(av:BH n lk){t:CR}:t∈TA J lk a↔t.1=(a:Int)∧t.2.1.length=CC lk+1∧GF J a t.2.1∧Tx J lk t.2.1∧t.2.2=F7 lk 0 t.2.1:=by
 have ag:∀m:Int,m∈CB (AG J a) 16↔∃k:Nat,m=(k:Int)∧(AG J a).testBit k=true:=fun m=>by
  rw [IK];exact⟨fun⟨k,_,O,K⟩=>⟨k,K,O⟩,fun⟨k,O,K⟩=>⟨k,by have:=IV (IB U a) K;have:=U.le;omega,K,O⟩⟩
 have al:∀p:List Int,(∀l∈lk,∀(q:Nat) m,l.1=((0+q:Nat):Int)→p[q]? =some m→Fe J m l=true)↔Tx J lk p:=fun p=>by
  constructor
  ·intro h l V m hm;have:=av.yr l V;exact h l V l.1.toNat m (by omega) hm
  ·intro h l V q m a3 hm;exact h l V m (by rw [show l.1.toNat=q by omega];exact hm)
 unfold TA;rw [List.mem_map];constructor
 ·rintro⟨x,a0,rfl⟩;obtain⟨p,O,K,Y,Z⟩:=(KS J lk x _ _ _ _).1 a0;obtain⟨a1,g2,a2⟩:=(OG U p _ _).1 Y;simp only [List.nil_append] at K;rw [K,Z];refine⟨rfl,O,⟨fun m hm=>(ag m).1 (a1 m hm),g2⟩,(al p).1 a2,?_⟩;simp
 ·rintro⟨O,K,⟨Y,Z⟩,am,ap⟩;obtain⟨t1,t2,t3⟩:=t;simp only at O K Y Z am ap;subst O;subst ap;refine⟨(t2,F7 lk 0 t2),(KS J lk _ _ _ _ _).2 ⟨t2,K,by simp,(OG U t2 _ _).2 ⟨fun m hm=>(ag m).2 (Y m hm),Z,(al t2).2 am⟩,by simp⟩,rfl⟩
def Lt(p:List Int)(l:Int×Int):Bool:=decide (p.getD l.1.toNat 0≠l.2)
theorem Qx{α:Type}(lk:List α)(Q:α→Bool):∀k,((List.range k).filter fun i=>(lk[i]?.map Q).getD false).length=((lk.take k).filter Q).length
 | 0=>by simp
 | k+1=>by
  rw [List.range_succ,List.filter_append,List.length_append,Qx lk Q k,List.take_add_one,List.filter_append,List.length_append]
  congr 1
  cases h:lk[k]? with
  | none=>simp [h]
  | some x=>cases K:Q x <;> simp [h,K]
theorem VH{n:Nat}{lk:Bm}{p:List Int}(V:BH n lk)(Y:∀l∈lk,l.1.toNat<p.length)(i:Nat):(F7 lk 0 p).testBit i=(lk[i]?.map (Lt p)).getD false:=by
 rw [Bool.eq_iff_iff,OD];cases h:lk[i]? with
 | none=>simp
 | some l=>
  have hm:=List.mem_of_getElem? h;have K:=Y l hm;have ag:=V.yr l hm;have hg:p.getD l.1.toNat 0=p[l.1.toNat]:=by rw [List.getD_eq_getElem?_getD,List.getElem?_eq_getElem K];rfl
  simp only [Option.map_some,Option.getD_some,Lt,decide_eq_true_iff,hg];constructor
  ·rintro⟨al,O,q,m,U,am,Z⟩;cases O;have:l.1.toNat=q:=by omega
   subst this;rw [List.getElem?_eq_getElem K] at U;cases U;exact Z
  ·intro O;exact⟨l,rfl,l.1.toNat,_,List.getElem?_eq_getElem K,by omega,O⟩
theorem QR{n:Nat}{lk:Bm}(O:BH n lk):∀l∈lk,l.1.toNat≤CC lk:=by
 intro l U;obtain⟨i,hi,rfl⟩:=List.mem_iff_getElem.1 U;have K:lk.length - 1<lk.length:=by omega
 unfold CC;rw [List.getLast?_eq_getElem?,List.getElem?_eq_getElem K];simp only;rcases Nat.lt_or_ge i (lk.length - 1) with h | h
 ·have:=List.pairwise_iff_getElem.1 O.Hy i (lk.length - 1) hi K h;omega
 ·have e:i=lk.length - 1:=by omega
  subst e;exact Nat.le_refl _
theorem OC{n a:Nat}{J:JW}{lk:Bm}(O:VJ n J)(K:BH n lk){t:CR}(ht:t∈TA J lk a):CV t=(lk.filter (Lt t.2.1)).length:=by
 obtain⟨_,Y,_,_,U⟩:=(MT O K).1 ht;have Z:=K.len;unfold CV CB;rw [List.length_map,U];have e:(List.range 16).filter (fun i=>(F7 lk 0 t.2.1).testBit i)=(List.range 16).filter fun i=>(lk[i]?.map (Lt t.2.1)).getD false:=
  List.filter_congr fun i _=>VH K (fun l V=>by have:=QR K l V;omega) i
 rw [e,Qx,List.take_of_length_le (by omega)]
end Pal
namespace Pal
theorem Us(s k:Nat):(CB s k).Pairwise (·<·):=by
 unfold CB;rw [List.pairwise_map];exact(List.pairwise_lt_range.filter _).imp fun h=>by omega
end Pal
namespace Pal
abbrev Dp(s:Nat):Nat:=(CB s 16).length
theorem RM(s:Nat):Dp s=(List.range 16).countP fun n=>s.testBit n:=by
 unfold Dp CB;rw [List.length_map,List.countP_eq_length_filter]
theorem QI{α:Type}{p q:α→Bool}:∀(l:List α),(∀x∈l,¬(p x=true∧q x=true))→l.countP (fun x=>p x || q x)=l.countP p+l.countP q
 | [],_=>rfl
 | x::l,h=>by
  have:=QI l (fun y K=>h y (by simp [K]))
  have O:=h x (by simp)
  simp only [List.countP_cons,this]
  cases U:p x <;> cases V:q x <;> simp_all <;> omega
theorem OI{a b:Nat}(h:∀i,¬(a.testBit i=true∧b.testBit i=true)):Dp (a ||| b)=Dp a+Dp b:=by
 simp only [RM,Nat.testBit_or];exact QI _ fun i _=>h i
theorem X5{a b:Nat}(h:∀i,a.testBit i=true→b.testBit i=true):Dp a≤Dp b:=by
 simp only [RM];exact List.countP_mono_left fun i _ hi=>h i hi
theorem Sj:∀{a b:List Int},a.Pairwise (·<·)→b.Pairwise (·<·)→(∀x,x∈a↔x∈b)→a=b
 | [],[],_,_,_=>rfl
 | [],y::b,_,_,h=>by have:=(h y).2 (by simp);simp at this
 | x::a,[],_,_,h=>by have:=(h x).1 (by simp);simp at this
 | x::a,y::b,Y,hb,h=>by
  obtain⟨U,Z⟩:=List.pairwise_cons.1 Y
  obtain⟨V,ag⟩:=List.pairwise_cons.1 hb
  have al:x=y:=by
   have am:=(h x).1 (by simp);have ap:=(h y).2 (by simp);rcases List.mem_cons.1 am with e | e
   ·exact e
   ·rcases List.mem_cons.1 ap with K | K
    ·exact K.symm
    ·have:=U y K;have:=V x e;omega
  subst al;rw [Sj Z ag fun z=>?_];have O:=h z;simp only [List.mem_cons] at O;constructor
  ·intro hm;rcases O.1 (.inr hm) with e | e
   ·subst e;have:=U z hm;omega
   ·exact e
  ·intro hm;rcases O.2 (.inr hm) with e | e
   ·subst e;have:=V z hm;omega
   ·exact e
theorem Uj{n q:Nat}{J:JW}(K:VJ n J):CB (CU (J.1.getD q [])) 16=J.1.getD q []:=Sj (Us _ _) (K.FQ q).Hy fun _=>Ol K
def Es(J:JW)(lk:Bm)(h y:Nat)(m:Int):Option Nat:=if EJ J lk y m=true∧(BS lk y m lk.length).testBit h=false then some (Dp (BS lk y m lk.length)) else none
def ways(J:JW)(lk:Bm)(h:Nat):Nat→Nat→Int→Nat→Nat
 | 0,y,m,k=>match Es J lk h y m with
  | some c=>if k=c then 1 else 0
  | none=>0
 | d+1,y,m,k=>match Es J lk h y m with
  | some c=>if c≤k then((J.1.getD m.toNat []).map fun x=>ways J lk h d (y+1) x (k - c)).sum else 0
  | none=>0
theorem QB{α:Type}{p:α→Bool}{l:List α}(h:∀x∈l,p x=false):l.countP p=0:=List.countP_eq_zero.2 fun x K=>by rw [h x K];simp
theorem RL{J:JW}{lk:Bm}{k sm:Nat}{ms:List Int}{fl:Nat}{x:List Int×Nat}(K:x∈D6 J lk k sm ms fl)(i:Nat)(h:fl.testBit i=true):x.2.testBit i=true:=by
 obtain⟨p,_,_,_,e⟩:=(KS J lk x k sm ms fl).1 K;rw [e,Nat.testBit_or,h];rfl
theorem XW{n h:Nat}{J:JW}{lk:Bm}(Z:VJ n J):∀(d sm:Nat) (ms:List Int) (fl c:Nat),sm<2 ^ n→fl.testBit h=false→(∀i,fl.testBit i=true→∃l,lk[i]? =some l∧l.1<(ms.length:Int))→
  (D6 J lk (d+1) sm ms fl).countP (fun x=>decide (Dp x.2=c+Dp fl)&& !x.2.testBit h)=((CB sm 16).map fun m=>ways J lk h d ms.length m c).sum:=by
 intro d
 induction d with
 | zero=>
  intro sm ms fl c a1 hh Y;unfold D6;rw [List.countP_flatMap];refine congrArg List.sum (List.map_congr_left fun m hm=>?_);simp only [Function.comp,ways,Es];have ag:∀i,¬(fl.testBit i=true∧(BS lk ms.length m lk.length).testBit i=true):=fun i ⟨al,am⟩=>by
   obtain⟨l,O,ap⟩:=Y i al;obtain⟨_,a2,K,av,_⟩:=(HM _ _ _ _ _).1 am;rw [O] at K;cases K;omega
  by_cases hb:EJ J lk ms.length m=true
  ·rw [if_pos hb];cases hs:(BS lk ms.length m lk.length).testBit h with
   | true=>rw [if_neg (by simp)];simp [D6,Nat.testBit_or,hh,hs]
   | false=>
    rw [if_pos ⟨hb,rfl⟩];simp only [D6,List.countP_cons,List.countP_nil,Nat.testBit_or,hh,hs,OI ag];by_cases U:c=Dp (BS lk ms.length m lk.length)
    ·rw [if_pos U,if_pos (by simp;omega)]
    ·rw [if_neg U,if_neg (by simp;omega)]
  ·rw [if_neg hb,if_neg fun x=>hb x.1];simp
 | succ d a3=>
  intro sm ms fl c a1 hh Y;unfold D6;rw [List.countP_flatMap];refine congrArg List.sum (List.map_congr_left fun m hm=>?_);simp only [Function.comp,ways,Es];obtain⟨q,_,a6,rfl⟩:=IK.1 hm;have a4:CU (J.1.getD q [])<2 ^ n:=by
   rcases Nat.lt_or_ge (CU (J.1.getD q [])) (2 ^ n) with h | h
   ·exact h
   ·obtain⟨i,a7,a0⟩:=Nat.exists_ge_and_testBit_of_ge_two_pow h;rw [Ku (fun x V=>((Z.FQ q).inr x V).1)] at a0;have:=(Z.FQ q).inr _ (of_decide_eq_true a0);omega
  have ag:∀i,¬(fl.testBit i=true∧(BS lk ms.length (q:Int) lk.length).testBit i=true):=fun i ⟨al,am⟩=>by
   obtain⟨l,O,ap⟩:=Y i al;obtain⟨_,a2,K,av,_⟩:=(HM _ _ _ _ _).1 am;rw [O] at K;cases K;omega
  by_cases hb:EJ J lk ms.length (q:Int)=true
  ·rw [if_pos hb];cases hs:(BS lk ms.length (q:Int) lk.length).testBit h with
   | true=>
    rw [if_neg (by simp)];refine QB fun x V=>?_;have:=RL V h (by rw [Nat.testBit_or,hs];simp);simp [this]
   | false=>
    rw [if_pos ⟨hb,rfl⟩];have a5:=OI ag;by_cases U:Dp (BS lk ms.length (q:Int) lk.length)≤c
    ·simp only;rw [if_pos U];have:=a3 (CU (J.1.getD q [])) (ms++ [(q:Int)]) (fl ||| BS lk ms.length (q:Int) lk.length) (c - Dp (BS lk ms.length (q:Int) lk.length)) a4 (by rw [Nat.testBit_or,hh,hs];rfl) (fun i hi=>by
      rw [Nat.testBit_or,Bool.or_eq_true] at hi
      rcases hi with hi | hi
      ·obtain⟨l,O,ap⟩:=Y i hi
       exact⟨l,O,by simp;omega⟩
      ·obtain⟨_,l,K,av,_⟩:=(HM _ _ _ _ _).1 hi
       exact⟨l,K,by simp;omega⟩)
     rw [Uj Z,a5,show c - Dp (BS lk ms.length (q:Int) lk.length)+(Dp fl+Dp (BS lk ms.length (q:Int) lk.length))=c+Dp fl by omega] at this;rw [show((q:Int)).toNat=q by omega,this,List.length_append];rfl
    ·simp only;rw [if_neg U];refine QB fun x V=>?_;have:=X5 (RL V);rw [Bool.and_eq_false_iff];exact .inl (decide_eq_false (by omega))
  ·rw [if_neg hb,if_neg fun x=>hb x.1];simp
def nT(J:JW)(lk:Bm)(h a k:Nat):Nat:=(TA J lk a).countP fun t=>decide (CV t=k)&& !t.2.2.testBit h
theorem WX{n:Nat}{J:JW}{lk:Bm}(K:VJ n J)(h a k:Nat):nT J lk h a k=((CB (AG J a) 16).map fun m=>ways J lk h (CC lk) 0 m k).sum:=by
 have:=XW (h:=h) (lk:=lk) K (CC lk) (AG J a) [] 0 k (IB K a) (by simp) (by simp);have e:Dp 0=0:=by decide
 rw [e] at this;unfold nT TA;rw [List.countP_map];exact this
theorem Xs{n h:Nat}{J:JW}{lk:Bm}(K:VJ n J)(O:BH n lk)(hh:lk.length≤h)(a k:Nat):nT J lk h a k=(TA J lk a).countP fun t=>decide (CV t=k):=by
 refine List.countP_congr fun t ht=>?_;obtain⟨_,_,_,_,e⟩:=(MT K O).1 ht;have:t.2.2.testBit h=false:=by
  cases hb:t.2.2.testBit h with
  | false=>rfl
  | true=>
   rw [e] at hb;obtain⟨l,U,_⟩:=(OD _ _ _ _).1 hb;have:=(List.getElem?_eq_some_iff.1 U).1;omega
 rw [this];simp
theorem O9{l:List Nat}{b:Nat}(h:∀x∈l,x≤b):l.sum≤l.length*b:=by
 induction l with
 | nil=>simp
 | cons x l K=>
  have U:=h x (by simp);have V:=K fun y O=>h y (by simp [O]);simp only [List.sum_cons,List.length_cons,Nat.succ_mul];omega
theorem RQ{n h:Nat}{J:JW}{lk:Bm}(K:VJ n J):∀(d y:Nat) (m:Int) (k:Nat),ways J lk h d y m k≤3 ^ d
 | 0,y,m,k=>by
  unfold ways
  split
  ·split <;> simp
  ·simp
 | d+1,y,m,k=>by
  unfold ways;split
  ·split
   ·refine Nat.le_trans (O9 (b:=3 ^ d) fun x O=>?_) ?_
    ·obtain⟨z,_,rfl⟩:=List.mem_map.1 O;exact RQ K d _ _ _
    ·rw [List.length_map,Nat.pow_succ,Nat.mul_comm];exact Nat.mul_le_mul_left _ (K.FQ _).len
   ·simp
  ·simp
end Pal
namespace Pal
open Go Go.Conc Go.Proofs
open Go.Proofs.Tryz
variable {J:Judge Tryz.prog}{E:LH}
def Ps(fuel:Nat)(p0:Bc):Option Int:= (f113 fuel p0).bind fun K=> (Ln fuel K).bind fun O=> some O
theorem Zl{O:Ao}{c2:Nat}{U:Ao}{V:Nat}{p0:Bc}(ag:GE E)(al:Al (rL rI) E O c2 p0.1)(am:Al (rL rI) E U V p0.2){fuel:Nat}{r:Int}(Y:Ps fuel p0=some r):AK J 67 [.agg #[sV O p0.1 c2,sV U p0.2 V]] E [] (fun w E' B'=>w=iV r∧B'= []):=by
 refine A4 func67 fun Q ba cs H ap av=>?_;unfold Ps at Y;refine zg 2 rfl (Cb ap fun bb bc K a0 a1=>?_);refine zg 4 rfl (BW a0 Ca BI rfl rfl ?_);obtain⟨bd,a2,a3⟩:=bs Y;refine BV (Sr (al.Ah K) (am.Ah K) a2) rfl rfl (AS func113 rfl) a1 ?_;rintro be bf _ Z ⟨_,rfl,rfl,a4⟩ a5;obtain⟨bg,a6,a7⟩:=bs a3;refine BF (OJ (ag.Ah (K.Ab Z)) a4 a6) rfl rfl NX a5 fun bh a8 a9=>zg 2 rfl ?_;obtain rfl:=oi a7;exact AD func67 rfl rfl (av ((K.Ab Z).Ab a8) rfl ⟨rfl,rfl⟩ a9)
def Hx(fuel:Nat)(p0:Bc)(p1:AI):Option Int:= (f113 fuel p0).bind fun K=> if K.isSome=true then((Ln fuel K).bind fun O=> some O) else((f116 fuel p0 p1).bind fun U=> (Ln fuel U).bind fun V=> some V)
theorem Lc{U:Ao}{c2:Nat}{V:Ao}{Y:Nat}{Z:Ao}{ag:Nat}{p0:Bc}{p1:AI}(al:GE E)(am:Al (rL rI) E U c2 p0.1)(ap:Al (rL rI) E V Y p0.2)(a5:Al A9 E Z ag p1){fuel:Nat}{r:Int}(av:Hx fuel p0 p1=some r):AK J 69 [.agg #[sV U p0.1 c2,sV V p0.2 Y],sV Z p1 ag] E [] (fun w E' B'=>w=iV r∧B'= []):=by
 refine A4 func69 fun Q br cs H a6 a0=>?_;unfold Hx at av;refine zg 2 rfl (Cb a6 fun bu bv K a1 a7=>?_);refine zg 5 rfl (BW a1 Ca BI rfl rfl ?_);obtain⟨a8,a9,ba⟩:=bs av;refine BV (Sr (am.Ah K) (ap.Ah K) a9) rfl rfl (AS func113 rfl) a7 ?_;rintro bw bx _ O ⟨_,rfl,rfl,a2⟩ a3;refine zg 5 rfl (AF (v:= .bool a8.isSome) rfl (fun ρ h=>Ov underlying149 a2 (h _ _ rfl) (h _ _ rfl)) ?_);refine JL.done (BJ ba (fun bb bc=>?_) (fun bb bd=>?_))
 ·obtain⟨bz,be,bf⟩:=bs bc;refine zg 3 rfl (BF (OJ (al.Ah (K.Ab O)) a2 be) rfl rfl NX a3 fun bA bg bh=>?_);refine zg 2 rfl ?_;obtain rfl:=oi bf;exact AD func69 rfl rfl (a0 ((K.Ab O).Ab bg) rfl ⟨rfl,rfl⟩ bh)
 ·refine zg 3 rfl (BW (a1.Ah O) Ca BI rfl rfl ?_);obtain⟨bB,bi,bj⟩:=bs bd;refine zg 1 rfl (BV (Zu (am.Ah (K.Ab O)) (ap.Ah (K.Ab O)) (a5.Ah (K.Ab O)) bi) rfl rfl (AS func116 rfl) a3 ?_);rintro bC bD _ a4 ⟨_,rfl,rfl,bl⟩ bm;obtain⟨bE,bn,bo⟩:=bs bj;refine BF (OJ (al.Ah ((K.Ab O).Ab a4)) bl bn) rfl rfl NX bm fun bF bp bq=>zg 2 rfl ?_;obtain rfl:=oi bo;exact AD func69 rfl rfl (a0 (((K.Ab O).Ab a4).Ab bp) rfl ⟨rfl,rfl⟩ bq)
def QY(fuel:Nat)(p1:List Int)(K:Int):Option (Bh Int (((Option BX)×Int)⊕(Unit))):= if K<(p1.length:Int) then((ix p1 K).bind fun O=> (f101 fuel O 0 12).bind fun U=> if U=true then(some (.done (Sum.inl (none,1)))) else((As (K+1)).bind fun V=> some (.more V))) else(some (.done (Sum.inr ())))
def Nw(fuel:Nat)(p0:Bc)(p1:List Int):Option ((Option BX)×Int):= (Ps fuel p0).bind fun K=> if K≠0 then(some (none,K)) else(Option.bind (iter (QY fuel p1) fuel 0) fun O=> Sum.elim (fun r=>some r) (fun V=> (f92 fuel p0).bind fun U=> some (U,0)) O)
theorem Sd{ap:Ao}{c2:Nat}{av:Ao}{a0:Nat}{Z:Ao}{ag:Nat}{p0:Bc}{p1:List Int}(bh:GE E)(a1:Al (rL rI) E ap c2 p0.1)(a2:Al (rL rI) E av a0 p0.2)(bi:Al rI E Z ag p1){fuel:Nat}{r:(Option BX)×Int}(a3:Nw fuel p0 p1=some r):AK J 106 [.agg #[sV ap p0.1 c2,sV av p0.2 a0],sV Z p1 ag] E [] (fun w E' B'=>∃(a4:Value),w= .tuple #[a4,iV r.2]∧B'= []∧Kg (rP (rL (rL rI)) (rP (rL (rL rI)) (rA 13 (rN .u16)))) E' a4 r.1):=by
 refine A4 func106 fun Q bY cs H bj al=>?_;unfold Nw at a3;refine zg 2 rfl (Cb bj fun a5 bZ K a6 bl=>?_);refine zg 6 rfl (BW a6 Ca BI rfl rfl ?_);obtain⟨b0,bm,bn⟩:=bs a3;refine BF (Zl (bh.Ah K) (a1.Ah K) (a2.Ah K) bm) rfl rfl (AS func67 rfl) bl fun bo O a7=>zg 7 rfl (AL bn (fun bp bq=>?_) (fun bp br=>?_))
 ·refine zg 6 rfl ?_;obtain rfl:=oi bq;exact AD func106 rfl rfl (al (K.Ab O) rfl ⟨.pointer none,rfl,rfl,rfl⟩ a7)
 ·refine zg 5 rfl (Bj underlying28 rfl rfl rfl ?_);obtain⟨a8,bu,a9⟩:=bs br;refine zg 2 rfl (Bt (fun L s=>∃(ba:Unit) (bb:LH),a8=Sum.inr ba∧Jm bo H bb [] [(2,pV a5 0)] L s) ?_ ?_)
  ·rintro _ _ ⟨ba,bb,rfl,rfl,rfl,U,bv⟩;have bw:=elim_inr a9;refine zg 2 rfl (BW (a6.Ah (O.Ab U)) Ca BI rfl rfl ?_);obtain⟨b1,bx,bz⟩:=bs bw;refine BV (Nu (a1.Ah ((K.Ab O).Ab U)) (a2.Ah ((K.Ab O).Ab U)) bx) rfl rfl L2 bv ?_;rintro bA b2 _ bB ⟨_,rfl,rfl,bC⟩ bD;refine zg 3 rfl ?_;obtain rfl:=oi bz;exact AD func106 rfl rfl (al (((K.Ab O).Ab U).Ab bB) rfl ⟨bA,rfl,rfl,bC⟩ bD)
  ·intro bE;refine JL.block (Cu bu (fun am=> []) (fun am=> [(2,pV a5 0),(14,sV Z p1 ag),(15,iV (p1.length:Int)),(16,iV am)]) Ar a7 ?_);rintro am bF V bc bd ⟨b3,Y⟩ bG;have be:=Y;unfold QY at be;refine zg 5 rfl (AL be (fun bH bI=>?_) (fun bH bJ=>?_))
   ·obtain⟨b4,bK,bL⟩:=bs bI;refine zg 5 rfl (Cf (bi.Ah ((K.Ab O).Ab V)) bK underlying28 AX ?_);rintro b5 b6 _ rfl bM;refine B8 0 bM Bx rfl rfl rfl ?_;obtain⟨b7,bN,bO⟩:=bs bL;refine zg 5 rfl (BF (I3 bN) rfl rfl II bc fun b8 bf bg=>?_);refine JL.done (BJ bO (fun bP bQ=>?_) (fun bP bR=>?_))
    ·refine zg 5 rfl ?_;obtain rfl:=oi bQ;obtain rfl:=bd _ Y;have bS:=elim_inl a9;obtain rfl:=oi bS;exact AD func106 rfl rfl (al (((K.Ab O).Ab V).Ab bf) rfl ⟨.pointer none,rfl,rfl,rfl⟩ bg)
    ·obtain⟨bT,bU,bV⟩:=bs bR;refine zg 3 rfl (Bb bU rfl rfl rfl ?_);refine zg 2 rfl ?_;obtain rfl:=oi bV;exact bG bT (V.Ab bf) bg rfl Y
   ·refine JL.exit rfl ?_;obtain rfl:=oi bJ;have bW:a8=(Sum.inr ()):=(bd _ Y).symm;exact Az (bE _ _ ⟨(),bF,bW,rfl,rfl,V,bc⟩) rfl
def PC(fuel:Nat)(p0:Bc)(p1:Int):Option ((List Int)×Int):= (Nw fuel p0 ([p1]:List Int)).bind fun K=> if K.2≠0 then(some ([],K.2)) else((K.1).bind fun O=> (ix O.2.2 p1).bind fun U=> (f89 fuel U).bind fun V=> some (V,0))
theorem Zg{U:Ao}{c2:Nat}{V:Ao}{Y:Nat}{p0:Bc}{p1:Int}(a2:GE E)(a3:Al (rL rI) E U c2 p0.1)(a4:Al (rL rI) E V Y p0.2){fuel:Nat}{r:(List Int)×Int}(Z:PC fuel p0 p1=some r):AK J 51 [.agg #[sV U p0.1 c2,sV V p0.2 Y],iV p1] E [] (fun w E' B'=>∃(ag:Ao) (al:Nat),w= .tuple #[sV ag r.1 al,iV r.2]∧B'= []∧Al rI E' ag al r.1):=by
 refine A4 func51 fun Q bE cs H a5 am=>?_;unfold PC at Z;refine zg 2 rfl (Cb a5 fun bF bG K a6 a7=>?_);refine zg 5 rfl (BW a6 Ca BI rfl rfl ?_);refine zg 1 rfl (DC (pp:=rI) [iV p1] [p1] rfl rfl rfl underlying28 AX CS (by decide) rfl rfl rfl ⟨rfl,trivial⟩ a7 fun bH bI a8 a9=>?_);refine BT 2 a8 a9 rfl fun bJ O ba bb=>?_;obtain⟨bK,bc,bd⟩:=bs Z;refine BV (Sd (a2.Ah (K.Ab O)) (a3.Ah (K.Ab O)) (a4.Ah (K.Ab O)) ba bc) rfl rfl (AS func106 rfl) bb ?_;rintro _ bL _ ap ⟨bM,rfl,rfl,be⟩ av;refine zg 12 rfl (AL bd (fun bf bg=>?_) (fun bf bh=>?_))
 ·refine zg 6 rfl ?_;obtain rfl:=oi bg;exact AD func51 rfl rfl (am ((K.Ab O).Ab ap) rfl ⟨none,0,rfl,rfl,Al.nil⟩ av)
 ·obtain⟨a0,bi,bj⟩:=bs bh;have a1:=be;refine zg 5 rfl ?_;rw [bi] at a1;obtain⟨bN,bO,_,rfl,bl,⟨_,_,rfl,⟨bm,bn,rfl,bP⟩,⟨_,bQ,rfl,⟨bo,bp,rfl,bR⟩,bq⟩⟩⟩:=a1;refine zg 1 rfl (BM underlying141 Ga rfl rfl rfl ?_);obtain⟨bS,br,bu⟩:=bs bj;refine OB (l:= [sV bm a0.1 bn,sV bo a0.2.1 bp]) bl bq br rfl rfl rfl rfl rfl underlying139 Ib ?_;rintro bT _ rfl bv;refine JL.fl 0 bv underlying138 Em GO ?_;obtain⟨bU,bw,bx⟩:=bs bu;refine BV (I4 bw) rfl rfl IJ av ?_;rintro _ bV _ bz ⟨bA,bB,rfl,rfl,bC⟩ bD;refine zg 3 rfl ?_;obtain rfl:=oi bx;exact AD func51 rfl rfl (am (((K.Ab O).Ab ap).Ab bz) rfl ⟨bA,bB,rfl,rfl,bC⟩ bD)
def Rz(fuel:Nat)(p1:Int)(O:BX)(K:Int):Option (Bh Int Int):= (f109 fuel O p1 K).bind fun U=> if(!U)=true then((As (K+1)).bind fun V=> some (.more V)) else(some (.done K))
def Pr(fuel:Nat)(p0:Bc)(p1:Int):Option (Int×Int):= (Nw fuel p0 ([p1]:List Int)).bind fun K=> if K.2≠0 then(some (0,K.2)) else((K.1).bind fun O=> Option.bind (iter (Rz fuel p1 O) fuel 0) fun U=> some (U,0))
theorem ZV{Z:Ao}{c2:Nat}{ag:Ao}{al:Nat}{p0:Bc}{p1:Int}(a5:GE E)(a6:Al (rL rI) E Z c2 p0.1)(a7:Al (rL rI) E ag al p0.2){fuel:Nat}{r:Int×Int}(am:Pr fuel p0 p1=some r):AK J 57 [.agg #[sV Z p0.1 c2,sV ag p0.2 al],iV p1] E [] (fun w E' B'=>w= .tuple #[iV r.1,iV r.2]∧B'= []):=by
 refine A4 func57 fun Q bP cs H a8 ap=>?_;unfold Pr at am;refine zg 2 rfl (Cb a8 fun bQ bR O a9 ba=>?_);refine zg 5 rfl (BW a9 Ca BI rfl rfl ?_);refine zg 1 rfl (DC (pp:=rI) [iV p1] [p1] rfl rfl rfl underlying28 AX CS (by decide) rfl rfl rfl ⟨rfl,trivial⟩ ba fun bS bT bb bc=>?_);refine BT 2 bb bc rfl fun bU U bd be=>?_;obtain⟨bV,bf,bg⟩:=bs am;refine BV (Sd (a5.Ah (O.Ab U)) (a6.Ah (O.Ab U)) (a7.Ah (O.Ab U)) bd bf) rfl rfl (AS func106 rfl) be ?_;rintro _ bW _ av ⟨bY,rfl,rfl,bh⟩ a0;refine zg 12 rfl (AL bg (fun bi bj=>?_) (fun bi bl=>?_))
 ·refine zg 6 rfl ?_;obtain rfl:=oi bj;exact AD func57 rfl rfl (ap ((O.Ab U).Ab av) rfl ⟨rfl,rfl⟩ a0)
 ·obtain⟨bZ,bm,bn⟩:=bs bl;have a1:=bh;refine zg 6 rfl ?_;rw [bm] at a1;obtain⟨bo,bp,_,rfl,bq,⟨_,_,rfl,⟨b0,b1,rfl,br⟩,⟨_,b2,rfl,⟨b3,b4,rfl,bu⟩,bv⟩⟩⟩:=a1;obtain⟨bw,bx,bz⟩:=bs bn;refine CM [] [(8,iV bw)] (fun b5 bA bB=>?_) (fun bC=>?_)
  ·refine zg 6 rfl ?_;obtain rfl:=oi bz;exact AD func57 rfl rfl (ap (((O.Ab U).Ab av).Ab bA) rfl ⟨rfl,rfl⟩ bB)
  ·refine JL.block (Cu bx (fun V=> []) (fun V=> [(1,iV p1),(6,pV bo bp),(8,iV V)]) Ar a0 ?_);rintro V b6 K bD bE ⟨b7,Y⟩ bF;have a2:=Y;unfold Rz at a2;obtain⟨bG,bH,bI⟩:=bs a2;refine zg 6 rfl (BF (ZZ (bq.Ah K) (br.Ah K) (bu.Ah K) (Rp.Ah _ K bv) bH) rfl rfl (AS func109 rfl) bD fun b8 a3 a4=>?_);refine AF (v:= .bool (!bG)) rfl (fun ρ h=>Yl.not (h _ _ rfl)) (JL.done ?_);refine BJ bI (fun bJ bK=>?_) (fun bJ bL=>?_)
   ·obtain⟨bM,bN,bO⟩:=bs bK;refine zg 4 rfl (Bb bN rfl rfl rfl ?_);refine zg 3 rfl ?_;obtain rfl:=oi bO;exact bF bM (K.Ab a3) a4 rfl Y
   ·refine JL.exit rfl ?_;obtain rfl:=oi bL;obtain rfl:=bE _ Y;exact bC (K.Ab a3) a4 rfl
end Pal
namespace Pal
open Go Go.Conc Go.Proofs
open Go.Proofs.Tryz
def J6(fuel:Nat)(p0:Bc)(p1:AI)(p2:Int)(p3:Bool):Option ((Option BX)×(Int×(List Ci))×Int):= (Hx fuel p0 p1).bind fun O=> if O≠0 then(some (none,(0,[]),O)) else((As ((p1.length:Int) - 1)).bind fun V=> (f101 fuel p2 (-1) V).bind fun Y=> if Y=true then(some (none,(0,[]),3)) else((f92 fuel p0).bind fun Z=> (Z).bind fun U=> (f93 fuel U p1).bind fun K=> Option.bind (if(K.2.length:Int)=0 then(some (!p3)) else(some false)) fun ag=> if ag=true then(some (none,K,11)) else(some (some U,K,0))))
theorem Nf{E:LH}{a5:Ao}{c2:Nat}{a6:Ao}{a7:Nat}{a8:Ao}{a9:Nat}{p0:Bc}{p1:AI}{p2:Int}{p3:Bool}(bH:GE E)(ba:Al (rL rI) E a5 c2 p0.1)(bb:Al (rL rI) E a6 a7 p0.2)(bc:Al A9 E a8 a9 p1){fuel:Nat}{r:(Option BX)×(Int×(List Ci))×Int}(bd:J6 fuel p0 p1 p2 p3=some r):AK (D1 Tryz.prog) 78 [.agg #[sV a5 p0.1 c2,sV a6 p0.2 a7],sV a8 p1 a9,iV p2,.bool p3] E [] (fun w E' B'=>∃(be:Value) (bf:Ao) (bg:Nat),w= .tuple #[be,.agg #[iV r.2.1.1,sV bf r.2.1.2 bg],iV r.2.2]∧B'= []∧Kg (rP (rL (rL rI)) (rP (rL (rL rI)) (rA 13 (rN .u16)))) E' be r.1∧Al Du E' bf bg r.2.1.2):=by
 refine A4 func78 fun Q ct cs H bI ap=>?_;unfold J6 at bd;refine zg 2 rfl (Cb bI fun cu cv O bh bJ=>?_);refine zg 1 rfl (CO bJ F9 fun bi bK=>?_);refine zg 5 rfl (BW bh Ca BI rfl rfl ?_);obtain⟨bj,bL,bM⟩:=bs bd;refine zg 1 rfl (BF (Lc (bH.Ah O) (ba.Ah O) (bb.Ah O) (bc.Ah O) bL) rfl rfl Kl bK fun cw V bl=>?_);refine zg 7 rfl (AL bM (fun bN bO=>?_) (fun bN bP=>?_))
 ·refine zg 2 rfl (AF (v:= .agg #[iV 0,nS]) rfl (fun ρ h=>Dk [(0,1),(1,1)] h F9 underlying97 ⟨rfl,Bw type3,rfl,Bw type95,trivial⟩ rfl rfl) ?_);refine zg 2 rfl (BU 2 bl Dv fun bm=>?_);refine zg 2 rfl ?_;obtain rfl:=oi bO;refine JL.ret (v:= .tuple #[.pointer none,.agg #[iV 0,nS],iV bj]) rfl rfl (Ch.list func78 rfl (vs:= [.pointer none,.agg #[iV 0,nS],iV bj]) ⟨rfl,⟨_,rfl,Ld.many (vs:= [iV 0,nS]) H8 Dv (FW (off:=0) 2 bm rfl rfl)⟩,rfl,trivial⟩) (Ir 2 bm rfl fun bQ=>?_);exact ap (O.Ab V) rfl ⟨.pointer none,none,0,rfl,rfl,rfl,Al.nil⟩ bQ
 ·refine zg 6 rfl (Bj underlying25 rfl rfl rfl ?_);obtain⟨cy,bR,bS⟩:=bs bP;refine Cg bR rfl rfl rfl ?_;obtain⟨cz,bT,bU⟩:=bs bS;refine BF (I3 bT) rfl rfl II bl fun cA al bn=>JL.done (BJ bU (fun bV bW=>?_) (fun bV bY=>?_))
  ·refine zg 2 rfl (AF (v:= .agg #[iV 0,nS]) rfl (fun ρ h=>Dk [(0,1),(1,1)] h F9 underlying97 ⟨rfl,Bw type3,rfl,Bw type95,trivial⟩ rfl rfl) ?_);refine zg 1 rfl (BU 2 bn Dv fun bo=>?_);refine zg 2 rfl ?_;obtain rfl:=oi bW;refine JL.ret (v:= .tuple #[.pointer none,.agg #[iV 0,nS],iV 3]) rfl rfl (Ch.list func78 rfl (vs:= [.pointer none,.agg #[iV 0,nS],iV 3]) ⟨rfl,⟨_,rfl,Ld.many (vs:= [iV 0,nS]) H8 Dv (FW (off:=0) 2 bo rfl rfl)⟩,rfl,trivial⟩) (Ir 2 bo rfl fun bZ=>?_);exact ap ((O.Ab V).Ab al) rfl ⟨.pointer none,none,0,rfl,rfl,rfl,Al.nil⟩ bZ
  ·refine zg 3 rfl (BW (bh.Ah (V.Ab al)) Ca BI rfl rfl ?_);obtain⟨cB,b0,b1⟩:=bs bY;refine BV (Nu (ba.Ah ((O.Ab V).Ab al)) (bb.Ah ((O.Ab V).Ab al)) b0) rfl rfl L2 bn ?_;rintro cC cD _ a1 ⟨_,rfl,rfl,b2⟩ b3;obtain⟨a2,b4,b5⟩:=bs b1;have bp:=b2;refine zg 6 rfl ?_;rw [b4] at bp;obtain⟨av,a0,_,rfl,bq,⟨_,_,rfl,⟨b6,b7,rfl,br⟩,⟨_,bu,rfl,⟨bv,bw,rfl,bx⟩,bz⟩⟩⟩:=bp;obtain⟨K,b8,b9⟩:=bs b5;refine BV (NI bq br bx bz (bc.Ah (((O.Ab V).Ab al).Ab a1)) b8) rfl rfl L3 b3 ?_;rintro _ cE _ am ⟨Y,Z,rfl,rfl,bA⟩ ca;refine CO ca F9 fun cb cc=>?_;refine BU 7 cc Dv fun cd=>?_;refine C6 7 cd rfl fun a3 ag a4 bB=>zg 4 rfl (JL.fl 1 a4 underlying97 Dx EO ?_);refine Bj underlying95 rfl rfl rfl ?_;obtain⟨ce,cf,cg⟩:=bs b9;refine zg 2 rfl (ER [] (fun L s=>∃(bC:LH),Jm a3 H bC [bX bi #[iV 0,nS] 97] [(9,pV bi 0),(12,pV av a0),(13,pV cb 0),(39,.bool ce)] L s) ?_ ?_)
   ·rintro _ _ ⟨bC,rfl,rfl,U,bD⟩;refine JL.done (BJ cg (fun ci ck=>?_) (fun ci cm=>?_))
    ·refine JL.seq (CW 2 fun ht=>?_);refine Er 0 ht (a4.Ah U) H8 Dv rfl rfl rfl (B4 1 ht rfl rfl ?_);refine Cc [2,3] (BU 0 bD Dv fun bE=>?_);refine zg 2 rfl ?_;obtain rfl:=oi ck;refine JL.ret (v:= .tuple #[.pointer none,.agg #[iV K.1,sV Y K.2 Z],iV 11]) rfl rfl (Ch.list func78 rfl (vs:= [.pointer none,.agg #[iV K.1,sV Y K.2 Z],iV 11]) ⟨rfl,⟨_,rfl,Ld.many (vs:= [iV K.1,sV Y K.2 Z]) H8 Dv (FW (off:=0) 0 bE rfl rfl)⟩,rfl,trivial⟩) (Ir 0 bE rfl fun cn=>?_);exact ap ((((((O.Ab V).Ab al).Ab a1).Ab am).Ab ag).Ab U) rfl ⟨.pointer none,Y,Z,rfl,rfl,rfl,(bA.Ah (ag.Ab U))⟩ cn
    ·refine zg 2 rfl (CW 3 fun ht=>?_);refine B4 0 ht rfl rfl (Er 1 ht (a4.Ah U) H8 Dv rfl rfl rfl ?_);refine B4 2 ht rfl rfl (Cc [3,4] ?_);refine BU 0 bD Dv fun bF=>?_;refine zg 2 rfl ?_;obtain rfl:=oi cm;refine JL.ret (v:= .tuple #[pV av a0,.agg #[iV K.1,sV Y K.2 Z],iV 0]) rfl rfl (Ch.list func78 rfl (vs:= [pV av a0,.agg #[iV K.1,sV Y K.2 Z],iV 0]) ⟨rfl,⟨_,rfl,Ld.many (vs:= [iV K.1,sV Y K.2 Z]) H8 Dv (FW (off:=0) 0 bF rfl rfl)⟩,rfl,trivial⟩) (Ir 0 bF rfl fun co=>?_);exact ap ((((((O.Ab V).Ab al).Ab a1).Ab am).Ab ag).Ab U) rfl ⟨pV av a0,Y,Z,rfl,rfl,⟨_,_,_,rfl,(bq.Ah ((am.Ab ag).Ab U)),⟨[sV b6 a2.1 b7],(([sV bv a2.2.1 bw]:List Value)++bu),rfl,⟨_,_,rfl,(br.Ah ((am.Ab ag).Ab U))⟩,⟨[sV bv a2.2.1 bw],bu,rfl,⟨_,_,rfl,(bx.Ah ((am.Ab ag).Ab U))⟩,(Rp.Ah _ ((am.Ab ag).Ab U) bz)⟩⟩⟩,(bA.Ah (ag.Ab U))⟩ co
   ·intro bG;refine Ei 36 cf (fun cp cq=>?_) (fun cp cr=>?_)
    ·refine zg 1 rfl (AF (v:= .bool (!p3)) rfl (fun ρ h=>Yl.not (h _ _ rfl)) ?_);refine zg 1 rfl ?_;obtain rfl:=oi cq;exact Az (bG _ _ ⟨a3,rfl,rfl,Ar,bB⟩) rfl
    ·refine zg 3 rfl ?_;obtain rfl:=oi cr;exact Az (bG _ _ ⟨a3,rfl,rfl,Ar,bB⟩) rfl
def Pw(fuel:Nat)(p0:Bc)(p1:AI):Option (Int×Int):= (J6 fuel p0 p1 (-1) true).bind fun K=> some ((K.2.1.2.length:Int),K.2.2)
theorem YU{E:LH}{O:Ao}{c2:Nat}{U:Ao}{V:Nat}{Y:Ao}{Z:Nat}{p0:Bc}{p1:AI}(al:GE E)(am:Al (rL rI) E O c2 p0.1)(ap:Al (rL rI) E U V p0.2)(av:Al A9 E Y Z p1){fuel:Nat}{r:Int×Int}(ag:Pw fuel p0 p1=some r):AK (D1 Tryz.prog) 28 [.agg #[sV O p0.1 c2,sV U p0.2 V],sV Y p1 Z] E [] (fun w E' B'=>w= .tuple #[iV r.1,iV r.2]∧B'= []):=by
 refine A4 func28 fun Q bd cs H a0 a1=>?_;unfold Pw at ag;refine zg 2 rfl (Cb a0 fun be bf K a2 a3=>?_);refine zg 5 rfl (BW a2 Ca BI rfl rfl ?_);obtain⟨bg,a4,a5⟩:=bs ag;refine zg 1 rfl (BV (Nf (al.Ah K) (am.Ah K) (ap.Ah K) (av.Ah K) a4) rfl rfl LZ a3 ?_);rintro _ bh _ a6 ⟨bi,bj,bl,rfl,rfl,bm,bn⟩ a7;refine zg 4 rfl (CO a7 F9 fun bo a8=>?_);refine zg 1 rfl (BU 3 a8 Dv fun a9=>?_);refine C6 3 a9 rfl fun bp ba bb bc=>zg 4 rfl (JL.fl 1 bb underlying97 Dx EO ?_);refine Bj underlying95 rfl rfl rfl (zg 4 rfl ?_);obtain rfl:=oi a5;exact AD func28 rfl rfl (a1 ((K.Ab a6).Ab ba) rfl ⟨rfl,rfl⟩ bc)
def PF(fuel:Nat)(p0:Bc)(p1:AI):Option (Int×(List Int)×Int):= (J6 fuel p0 p1 (-1) false).bind fun K=> if K.2.2≠0 then(some (0,[],K.2.2)) else((ix K.2.1.2 (0)).bind fun O=> (ix K.2.1.2 (0)).bind fun U=> some (O.1,U.2.1,0))
theorem Yu{E:LH}{U:Ao}{c2:Nat}{V:Ao}{Y:Nat}{Z:Ao}{ag:Nat}{p0:Bc}{p1:AI}(a4:GE E)(a5:Al (rL rI) E U c2 p0.1)(a6:Al (rL rI) E V Y p0.2)(a7:Al A9 E Z ag p1){fuel:Nat}{r:Int×(List Int)×Int}(al:PF fuel p0 p1=some r):AK (D1 Tryz.prog) 30 [.agg #[sV U p0.1 c2,sV V p0.2 Y],sV Z p1 ag] E [] (fun w E' B'=>∃(am:Ao) (ap:Nat),w= .tuple #[iV r.1,sV am r.2.1 ap,iV r.2.2]∧B'= []∧Al rI E' am ap r.2.1):=by
 refine A4 func30 fun Q bv cs H a8 av=>?_;unfold PF at al;refine zg 2 rfl (Cb a8 fun bw bx K a9 ba=>?_);refine zg 6 rfl (BW a9 Ca BI rfl rfl ?_);obtain⟨bz,bb,bc⟩:=bs al;refine zg 1 rfl (BV (Nf (a4.Ah K) (a5.Ah K) (a6.Ah K) (a7.Ah K) bb) rfl rfl LZ ba ?_);rintro _ bA _ a0 ⟨bB,bC,bD,rfl,rfl,bE,a1⟩ bd;refine zg 4 rfl (CO bd F9 fun bF be=>?_);refine zg 1 rfl (BU 3 be Dv fun bf=>?_);refine C6 3 bf rfl fun bG O a2 a3=>zg 8 rfl (AL bc (fun bg bh=>?_) (fun bg bi=>?_))
 ·refine zg 7 rfl ?_;obtain rfl:=oi bh;exact AD func30 rfl rfl (av ((K.Ab a0).Ab O) rfl ⟨none,0,rfl,rfl,Al.nil⟩ a3)
 ·refine zg 2 rfl (CW 11 fun ht=>?_);refine B7 0 ht underlying97 Dx rfl rfl rfl rfl (Cn 1 ht 1 a2 EO rfl rfl rfl rfl ?_);obtain⟨bH,bj,bl⟩:=bs bi;refine Cy 2 (a1.Ah O) bj ht underlying95 Ct ?_;rintro bI bJ _ ⟨_,_,rfl,rfl,⟨_,_,rfl,⟨bK,bL,rfl,bM⟩,rfl⟩⟩ bm;refine B7 3 ht underlying104 AX rfl rfl rfl rfl (Cn 4 ht 0 bm Bx rfl rfl rfl rfl ?_);refine B7 5 ht underlying97 Dx rfl rfl rfl rfl (Cn 6 ht 1 a2 EO rfl rfl rfl rfl ?_);obtain⟨bN,bn,bo⟩:=bs bl;refine Cy 7 (a1.Ah O) bn ht underlying95 Ct ?_;rintro bO bP _ ⟨_,_,rfl,rfl,⟨_,_,rfl,⟨bp,bq,rfl,br⟩,rfl⟩⟩ bu;refine B7 8 ht underlying104 BZ rfl rfl rfl rfl (Cn 9 ht 1 bu CZ rfl rfl rfl rfl ?_);refine B4 10 ht rfl rfl (Cc [11,12] ?_);refine zg 3 rfl ?_;obtain rfl:=oi bo;exact AD func30 rfl rfl (av ((K.Ab a0).Ab O) rfl ⟨bp,bq,rfl,rfl,br⟩ a3)
def RX(fuel:Nat)(p2:Int)(O:(List Bu))(K:(List Int)×Int):Option (Bh ((List Int)×Int) ((List Int))):= if K.2<(O.length:Int) then((ix O K.2).bind fun U=> Option.bind (if U.2.1≤p2 then((room K.1 U.1).bind fun V=> some V) else(some K.1)) fun Y=> (As (K.2+1)).bind fun Z=> some (.more (Y,Z))) else(some (.done K.1))
def Pp(fuel:Nat)(p0:Bc)(p1:AI)(p2:Int):Option ((List Int)×Int):= (Hx fuel p0 p1).bind fun K=> if K≠0 then(some ([],K)) else((f101 fuel p2 0 4).bind fun U=> if U=true then(some ([],1)) else((f92 fuel p0).bind fun V=> (V).bind fun Y=> (JV fuel Y p1).bind fun Z=> Option.bind (iter (RX fuel p2 Z) fuel ([],0)) fun O=> if(O.length:Int)=0 then(some ([],11)) else(some (O,0))))
theorem YI{E:LH}{bf:Ao}{c2:Nat}{bg:Ao}{bh:Nat}{bi:Ao}{bj:Nat}{p0:Bc}{p1:AI}{p2:Int}(bJ:GE E)(bl:Al (rL rI) E bf c2 p0.1)(bm:Al (rL rI) E bg bh p0.2)(bn:Al A9 E bi bj p1){fuel:Nat}{r:(List Int)×Int}(bo:Pp fuel p0 p1 p2=some r):AK (D1 Tryz.prog) 43 [.agg #[sV bf p0.1 c2,sV bg p0.2 bh],sV bi p1 bj,iV p2] E [] (fun w E' B'=>∃(bp:Ao) (bq:Nat),w= .tuple #[sV bp r.1 bq,iV r.2]∧B'= []∧Al rI E' bp bq r.1):=by
 refine A4 func43 fun Q cX cs H bK al=>?_;unfold Pp at bo;refine zg 2 rfl (Cb bK fun cY cZ K br bL=>?_);refine zg 6 rfl (BW br Ca BI rfl rfl ?_);obtain⟨c0,bM,bN⟩:=bs bo;refine zg 1 rfl (BF (Lc (bJ.Ah K) (bl.Ah K) (bm.Ah K) (bn.Ah K) bM) rfl rfl Kl bL fun c1 O bu=>?_);refine zg 7 rfl (AL bN (fun bO bP=>?_) (fun bO bQ=>?_))
 ·refine zg 6 rfl ?_;obtain rfl:=oi bP;exact AD func43 rfl rfl (al (K.Ab O) rfl ⟨none,0,rfl,rfl,Al.nil⟩ bu)
 ·obtain⟨c3,bR,bS⟩:=bs bQ;refine zg 5 rfl (BF (I3 bR) rfl rfl II bu fun c4 U bv=>?_);refine JL.done (BJ bS (fun bT bU=>?_) (fun bT bV=>?_))
  ·refine zg 5 rfl ?_;obtain rfl:=oi bU;exact AD func43 rfl rfl (al ((K.Ab O).Ab U) rfl ⟨none,0,rfl,rfl,Al.nil⟩ bv)
  ·refine zg 8 rfl (BW (br.Ah (O.Ab U)) Ca BI rfl rfl ?_);obtain⟨c5,bW,bY⟩:=bs bV;refine BV (Nu (bl.Ah ((K.Ab O).Ab U)) (bm.Ah ((K.Ab O).Ab U)) bW) rfl rfl L2 bv ?_;rintro c6 c7 _ a5 ⟨_,rfl,rfl,bZ⟩ b0;obtain⟨c8,b1,b2⟩:=bs bY;have bw:=bZ;refine zg 1 rfl ?_;rw [b1] at bw;obtain⟨c9,da,_,rfl,b3,⟨_,_,rfl,⟨db,dc,rfl,b4⟩,⟨_,dd,rfl,⟨de,df,rfl,b5⟩,b6⟩⟩⟩:=bw;obtain⟨am,b7,b8⟩:=bs b2;refine BV (QV b3 b4 b5 b6 (bn.Ah (((K.Ab O).Ab U).Ab a5)) b7) rfl rfl (AS func102 rfl) b0 ?_;rintro _ a6 _ bx ⟨bz,bA,rfl,rfl,b9⟩ ca;refine Bj underlying130 rfl rfl rfl ?_;obtain⟨bB,cb,cc⟩:=bs b8;refine zg 2 rfl (Bt (fun L s=>∃(a7:LH) (ap:Ao) (av:Nat) (a8:Seg),Jn a6 H a7 [a8] [(9,sV ap bB av)] L s (OL 3 rI a7 ap av a8 bB)) ?_ ?_)
   ·rintro _ _ ⟨a7,ap,av,a8,rfl,rfl,bC,bD,cd⟩;refine zg 4 rfl (Bj underlying28 rfl rfl rfl ?_);refine zg 2 rfl (AL cc (fun ce cf=>?_) (fun ce cg=>?_))
    ·refine zg 5 rfl (JS.drop 0 bD rfl fun ci=>?_);obtain rfl:=oi cf;exact AD func43 rfl rfl (al (((((K.Ab O).Ab U).Ab a5).Ab bx).Ab bC) rfl ⟨none,0,rfl,rfl,Al.nil⟩ ci)
    ·refine zg 7 rfl (BT 0 cd bD rfl fun dg ck cm cn=>?_);obtain rfl:=oi cg;exact AD func43 rfl rfl (al ((((((K.Ab O).Ab U).Ab a5).Ab bx).Ab bC).Ab ck) rfl ⟨ap,av,rfl,rfl,cm⟩ cn)
   ·intro co;refine JL.block (CN cb (fun L s Z=>∃(a0:LH) (V:Ao) (Y:Nat) (ag:Seg),Jn a6 H a0 [ag] [(2,iV p2),(9,sV V Z.1 Y),(23,sV bz am bA),(24,iV (am.length:Int)),(25,iV Z.2)] L s (OL 3 rI a0 V Y ag Z.1)) ⟨a6,none,0,[],rfl,rfl,Ar,ca,OL.nil⟩ ?_);rintro _ _ Z ⟨a0,V,Y,ag,rfl,rfl,a9,bE,ba⟩ cp ⟨dh,bb⟩ cq;have bF:=bb;unfold RX at bF;refine zg 5 rfl (AL bF (fun cr ct=>?_) (fun cr cu=>?_))
    ·obtain⟨cv,cw,cy⟩:=bs ct;refine zg 5 rfl (Cf (b9.Ah a9) cw underlying130 AQ ?_);rintro di dj _ ⟨_,_,rfl,rfl,⟨_,_,rfl,rfl,⟨dk,dl,rfl,dm⟩⟩⟩ cz;refine BW cz Cq AQ rfl rfl (CO bE H9 fun dn cA=>?_);refine BU 1 cA AQ fun cB=>?_;refine C6 1 cB rfl fun bc bd bG bH=>zg 3 rfl (BM underlying133 Dv rfl rfl rfl ?_);refine JL.fl 1 bG underlying97 AX Bx ?_;obtain⟨be,cC,cD⟩:=bs cy;refine zg 3 rfl (Bt (fun L s=>∃(a1:LH) (a2:Ao) (a3:Nat) (a4:Seg),Jn bc H a1 [a4] [(2,iV p2),(9,sV a2 be a3),(23,sV bz am bA),(24,iV (am.length:Int)),(25,iV Z.2)] L s (OL 3 rI a1 a2 a3 a4 be)) ?_ ?_)
     ·rintro _ _ ⟨a1,a2,a3,a4,rfl,rfl,cE,cF,cG⟩;obtain⟨cH,cI,cJ⟩:=bs cD;refine zg 2 rfl (Bb cI rfl rfl rfl ?_);refine zg 2 rfl ?_;obtain rfl:=oi cJ;exact Az (cq _ _ (be,cH) ⟨a1,a2,a3,a4,rfl,rfl,((a9.Ab bd).Ab cE),cF,cG⟩ bb) rfl
     ·intro bI;refine AL cC (fun cK cM=>?_) (fun cK cN=>?_)
      ·refine zg 2 rfl (JL.fl 0 bG underlying133 AX Bx ?_);obtain⟨dp,cO,cP⟩:=bs cM;refine JS.app (pp:=rI) (v:=iV cv.1) (a:=V) (c:=Y) 0 cO rfl rfl rfl rfl (fun _=>rfl) rfl (fun _=>rfl) rfl rfl rfl underlying28 underlying28 underlying28 AX (Cx type3) CS rfl (by decide) (by decide) (by decide) (by decide) (ba.Ah bd) rfl bH rfl fun dq cQ cR cT cV cW=>zg 2 rfl ?_;obtain rfl:=oi cP;exact Az (bI _ _ ⟨bc,cQ,cR,cT,rfl,rfl,Ar,cW,cV⟩) rfl
      ·refine JL.skip ?_;obtain rfl:=oi cN;exact Az (bI _ _ ⟨bc,V,Y,ag,rfl,rfl,Ar,bH,(ba.Ah bd)⟩) rfl
    ·refine JL.exit rfl ?_;obtain rfl:=oi cu;obtain rfl:=cp _ bb;exact Az (co _ _ ⟨a0,V,Y,ag,rfl,rfl,a9,bE,ba⟩) rfl
end Pal
namespace Pal
open Go Go.Conc Go.Proofs
open Go.Proofs.Tryz
def R8(fuel:Nat)(p2:Int)(O:(Option BX)×(Int×(List Ci))×Int)(K:Int×Int):Option (Bh (Int×Int) Int):= if K.2<(O.2.1.2.length:Int) then((ix O.2.1.2 K.2).bind fun U=> (f103 fuel U.2.2 p2).bind fun V=> Option.bind (if V=true then((As (K.1+1)).bind fun Y=> some Y) else(some K.1)) fun Z=> (As (K.2+1)).bind fun ag=> some (.more (Z,ag))) else(some (.done K.1))
def PE(fuel:Nat)(p0:Bc)(p1:AI)(p2:Int):Option (Int×Int):= (Hx fuel p0 p1).bind fun U=> if U≠0 then(some (0,U)) else((As ((p1.length:Int) - 1)).bind fun V=> (f101 fuel p2 0 V).bind fun Y=> if Y=true then(some (0,3)) else((J6 fuel p0 p1 p2 false).bind fun K=> if K.2.2≠0 then(some (0,K.2.2)) else(Option.bind (iter (R8 fuel p2 K) fuel (0,0)) fun O=> Option.bind (Option.bind (Option.bind (if 0<O then(some (decide (O<(K.2.1.2.length:Int)))) else(some false)) fun Z=> if Z=true then((As (0+1)).bind fun ag=> (As (ag+1)).bind fun al=> some al) else(if O=0 then((As (0+1)).bind fun am=> some am) else(some 0))) fun ap=> (As (ap+1)).bind fun av=> some av) fun a0=> some (a0,0))))
theorem YH{E:LH}{a2:Ao}{c2:Nat}{a3:Ao}{a4:Nat}{a5:Ao}{a6:Nat}{p0:Bc}{p1:AI}{p2:Int}(a7:GE E)(a8:Al (rL rI) E a2 c2 p0.1)(a9:Al (rL rI) E a3 a4 p0.2)(ba:Al A9 E a5 a6 p1){fuel:Nat}{r:Int×Int}(bb:PE fuel p0 p1 p2=some r):AK (D1 Tryz.prog) 49 [.agg #[sV a2 p0.1 c2,sV a3 p0.2 a4],sV a5 p1 a6,iV p2] E [] (fun w E' B'=>w= .tuple #[iV r.1,iV r.2]∧B'= []):=by
 refine A4 func49 fun Q c4 cs H bw Y=>?_;unfold PE at bb;refine zg 2 rfl (Cb bw fun c5 c6 K bc bx=>?_);refine zg 6 rfl (BW bc Ca BI rfl rfl ?_);obtain⟨c7,bz,bA⟩:=bs bb;refine zg 1 rfl (BF (Lc (a7.Ah K) (a8.Ah K) (a9.Ah K) (ba.Ah K) bz) rfl rfl Kl bx fun c8 O bd=>?_);refine zg 7 rfl (AL bA (fun bB bC=>?_) (fun bB bD=>?_))
 ·refine zg 6 rfl ?_;obtain rfl:=oi bC;exact AD func49 rfl rfl (Y (K.Ab O) rfl ⟨rfl,rfl⟩ bd)
 ·refine zg 6 rfl (Bj underlying25 rfl rfl rfl ?_);obtain⟨c9,bE,bF⟩:=bs bD;refine Cg bE rfl rfl rfl ?_;obtain⟨da,bG,bH⟩:=bs bF;refine BF (I3 bG) rfl rfl II bd fun db U be=>JL.done (BJ bH (fun bI bJ=>?_) (fun bI bK=>?_))
  ·refine zg 5 rfl ?_;obtain rfl:=oi bJ;exact AD func49 rfl rfl (Y ((K.Ab O).Ab U) rfl ⟨rfl,rfl⟩ be)
  ·refine zg 3 rfl (BW (bc.Ah (O.Ab U)) Ca BI rfl rfl ?_);obtain⟨Z,bL,bM⟩:=bs bK;refine zg 2 rfl (BV (Nf (a7.Ah ((K.Ab O).Ab U)) (a8.Ah ((K.Ab O).Ab U)) (a9.Ah ((K.Ab O).Ab U)) (ba.Ah ((K.Ab O).Ab U)) bL) rfl rfl LZ be ?_);rintro _ dc _ bf ⟨dd,bg,bh,rfl,rfl,de,bN⟩ bO;refine zg 4 rfl (CO bO F9 fun ag bP=>?_);refine zg 1 rfl (BU 5 bP Dv fun bQ=>?_);refine C6 5 bQ rfl fun df al bi bj=>zg 8 rfl (AL bM (fun bR bS=>?_) (fun bR bT=>?_))
   ·refine zg 6 rfl ?_;obtain rfl:=oi bS;exact AD func49 rfl rfl (Y ((((K.Ab O).Ab U).Ab bf).Ab al) rfl ⟨rfl,rfl⟩ bj)
   ·refine zg 8 rfl (JL.fl 1 bi underlying97 Dx EO ?_);refine Bj underlying95 rfl rfl rfl ?_;obtain⟨bl,bU,bV⟩:=bs bT;refine zg 2 rfl (CM [] [(10,pV ag 0),(12,iV bl)] (fun dg bm bn=>?_) (fun bW=>?_))
    ·obtain⟨bY,bZ,b0⟩:=bs bV;refine zg 5 rfl (CM [] [(15,iV bY)] (fun dh b1 b2=>?_) (fun b3=>?_))
     ·refine zg 6 rfl ?_;obtain rfl:=oi b0;exact AD func49 rfl rfl (Y ((((((K.Ab O).Ab U).Ab bf).Ab al).Ab bm).Ab b1) rfl ⟨rfl,rfl⟩ b2)
     ·obtain⟨b4,b5,b6⟩:=bs bZ;refine zg 2 rfl (CM [] [(15,iV b4)] (fun di b7 b8=>?_) (fun am=>?_))
      ·obtain⟨dj,b9,ca⟩:=bs b6;refine zg 3 rfl (Bb b9 rfl rfl rfl ?_);refine zg 3 rfl ?_;obtain rfl:=oi ca;exact b3 b7 b8 rfl
      ·obtain⟨cb,cc,cd⟩:=bs b5;refine zg 12 rfl (Dm 9 1 [] [(12,iV bl),(15,iV 0),(61,.bool cb)] (fun dk ap av=>?_) (fun bo=>?_))
       ·refine zg 2 rfl (BJ cd (fun ce cf=>?_) (fun ce cg=>?_))
        ·obtain⟨dl,ci,ck⟩:=bs cf;refine zg 3 rfl (Bb ci rfl rfl rfl ?_);obtain⟨dm,cm,cn⟩:=bs ck;refine zg 5 rfl (Bb cm rfl rfl rfl ?_);refine zg 3 rfl ?_;obtain rfl:=oi cn;exact am ap av rfl
        ·refine zg 7 rfl (AL cg (fun co cp=>?_) (fun co cq=>?_))
         ·obtain⟨dn,cr,ct⟩:=bs cp;refine zg 3 rfl (Bb cr rfl rfl rfl ?_);refine zg 3 rfl ?_;obtain rfl:=oi ct;exact am ap av rfl
         ·refine zg 2 rfl ?_;obtain rfl:=oi cq;exact am ap av rfl
       ·refine Ei 55 cc (fun cu cv=>?_) (fun cu cw=>?_)
        ·refine zg 1 rfl (JL.fl 1 (bi.Ah bm) underlying97 Dx EO ?_);refine Bj underlying95 rfl rfl rfl (zg 2 rfl ?_);obtain rfl:=oi cv;exact bo Ar bn rfl
        ·refine zg 6 rfl ?_;obtain rfl:=oi cw;exact bo Ar bn rfl
    ·refine JL.block (Cu bU (fun V=> []) (fun V=> [(2,iV p2),(10,pV ag 0),(12,iV V.1),(39,sV bg Z.2.1.2 bh),(40,iV (Z.2.1.2.length:Int)),(41,iV V.2)]) Ar bj ?_);rintro V dp a0 bp cy ⟨dq,a1⟩ cz;have bq:=a1;unfold R8 at bq;refine zg 5 rfl (AL bq (fun cA cB=>?_) (fun cA cC=>?_))
     ·obtain⟨dr,cD,cE⟩:=bs cB;refine zg 5 rfl (Cf (bN.Ah (al.Ab a0)) cD underlying95 Ct ?_);rintro dt du _ ⟨_,_,rfl,rfl,⟨_,_,rfl,⟨dv,dw,rfl,dx⟩,rfl⟩⟩ cF;refine BW cF FV Ct rfl rfl (CO bp GU fun dy cG=>?_);refine BU 0 cG Ct fun cH=>?_;refine C6 0 cH rfl fun dz cI cJ cK=>zg 3 rfl (JL.fl 2 cJ underlying104 Em GO ?_);obtain⟨dA,cM,cN⟩:=bs cE;refine zg 1 rfl (BF (O8 cM) rfl rfl NV cK fun dB cO br=>?_);obtain⟨bu,cP,cQ⟩:=bs cN;refine JL.done (CM [] [(2,iV p2),(10,pV ag 0),(12,iV bu),(39,sV bg Z.2.1.2 bh),(40,iV (Z.2.1.2.length:Int)),(41,iV V.2)] (fun dC cR cT=>?_) (fun bv=>?_))
      ·obtain⟨cV,cW,cX⟩:=bs cQ;refine zg 2 rfl (Bb cW rfl rfl rfl ?_);refine zg 2 rfl ?_;obtain rfl:=oi cX;exact cz (bu,cV) (((a0.Ab cI).Ab cO).Ab cR) cT rfl a1
      ·refine BJ cP (fun cY cZ=>?_) (fun cY c0=>?_)
       ·obtain⟨dD,c1,c3⟩:=bs cZ;refine zg 2 rfl (Bb c1 rfl rfl rfl ?_);refine zg 2 rfl ?_;obtain rfl:=oi c3;exact bv Ar br rfl
       ·refine JL.skip ?_;obtain rfl:=oi c0;exact bv Ar br rfl
     ·refine JL.exit rfl ?_;obtain rfl:=oi cC;obtain rfl:=cy _ a1;exact bW a0 bp rfl
def RU(fuel:Nat)(V:Ci)(U:(List Int))(K:(List Nat)×Int):Option (Bh ((List Nat)×Int) ((List Nat))):= if K.2<(U.length:Int) then((ix U K.2).bind fun O=> (ix K.1 O).bind fun Y=> (f90 fuel Y V.1).bind fun Z=> (ix K.1 O).bind fun al=> (As (K.2+1)).bind fun ag=> some (.more ((K.1.set (Int.toNat O) Z),ag))) else(some (.done K.1))
def RF(fuel:Nat)(O:(Option BX)×(Int×(List Ci))×Int)(V:BX)(Y:Int×Int×Int)(K:(List Nat)×Int):Option (Bh ((List Nat)×Int) ((List Nat))):= if K.2<(O.2.1.2.length:Int) then((ix O.2.1.2 K.2).bind fun U=> (f88 fuel V U Y.2.2).bind fun Z=> (f89 fuel Z).bind fun ag=> Option.bind (iter (RU fuel U ag) fuel (K.1,0)) fun al=> (As (K.2+1)).bind fun am=> some (.more (al,am))) else(some (.done K.1))
def Sf(fuel:Nat)(O:(List Nat))(K:Int×Int):Option (Bh (Int×Int) Int):= if K.2<8 then((ix O K.2).bind fun U=> (f85 fuel U).bind fun V=> (As (K.2+1)).bind fun Y=> some (.more (max K.1 V,Y))) else(some (.done K.1))
def RG(fuel:Nat)(V:(Option BX)×(Int×(List Ci))×Int)(Y:BX)(K:Int×Int×Int):Option (Bh (Int×Int×Int) (Int×Int)):= if K.2.2<7 then(Option.bind (iter (RF fuel V Y K) fuel ((List.replicate 8 (0:Nat)),0)) fun Z=> Option.bind (iter (Sf fuel Z) fuel (0,0)) fun O=> Option.bind (if O<K.2.1 then(some (K.2.2,O)) else(some (K.1,K.2.1))) fun U=> (As (K.2.2+1)).bind fun ag=> some (.more (U.1,U.2,ag))) else(some (.done (K.1,K.2.1)))
def PD(fuel:Nat)(p0:Bc)(p1:AI):Option (Int×Int×Int):= (J6 fuel p0 p1 (-1) false).bind fun K=> if K.2.2≠0 then(some (0,0,K.2.2)) else((f87 fuel K.2.1.2).bind fun U=> (f85 fuel U).bind fun V=> (K.1).bind fun Y=> Option.bind (iter (RG fuel K Y) fuel ((-1),V,0)) fun O=> if O.1<0 then(some (0,0,11)) else(some (O.1,O.2,0)))
theorem Z4{E:LH}{bD:Ao}{c2:Nat}{bE:Ao}{bF:Nat}{bG:Ao}{bH:Nat}{p0:Bc}{p1:AI}(cc:GE E)(cd:Al (rL rI) E bD c2 p0.1)(ce:Al (rL rI) E bE bF p0.2)(cf:Al A9 E bG bH p1){fuel:Nat}{r:Int×Int×Int}(bI:PD fuel p0 p1=some r):AK (D1 Tryz.prog) 35 [.agg #[sV bD p0.1 c2,sV bE p0.2 bF],sV bG p1 bH] E [] (fun w E' B'=>w= .tuple #[iV r.1,iV r.2.1,iV r.2.2]∧B'= []):=by
 refine A4 func35 fun Q eD cs H cg bm=>?_;unfold PD at bI;refine zg 2 rfl (Cb cg fun eE eF ag ci ck=>?_);refine zg 6 rfl (BW ci Ca BI rfl rfl ?_);obtain⟨av,cm,cn⟩:=bs bI;refine zg 1 rfl (BV (Nf (cc.Ah ag) (cd.Ah ag) (ce.Ah ag) (cf.Ah ag) cm) rfl rfl LZ ck ?_);rintro _ eG _ bn ⟨eH,bo,bp,rfl,rfl,co,bJ⟩ cp;refine zg 4 rfl (CO cp F9 fun U cq=>?_);refine zg 1 rfl (BU 3 cq Dv fun cr=>?_);refine C6 3 cr rfl fun eI a0 bK bL=>zg 8 rfl (AL cn (fun ct cu=>?_) (fun ct cv=>?_))
 ·refine zg 7 rfl ?_;obtain rfl:=oi cu;exact AD func35 rfl rfl (bm ((ag.Ab bn).Ab a0) rfl ⟨rfl,rfl⟩ bL)
 ·refine zg 8 rfl (JL.fl 1 bK underlying97 Dx EO ?_);obtain⟨cw,cy,cz⟩:=bs cv;refine BF (aM (bJ.Ah a0) cy) rfl rfl (AS func87 rfl) bL fun eJ a5 cA=>?_;obtain⟨eK,cB,cC⟩:=bs cz;refine Kz (vs:= [uV cw]) (Th cB) rfl rfl rfl rfl (AS func85 rfl) rfl cA ?_;rintro _ eL _ a6 ⟨rfl,rfl⟩ cD;obtain⟨eM,cE,cF⟩:=bs cC;have bM:=(co.Ah ((a0.Ab a5).Ab a6));refine zg 11 rfl ?_;rw [cE] at bM;obtain⟨V,Y,_,rfl,cG,⟨_,_,rfl,⟨eN,eO,rfl,cH⟩,⟨_,eP,rfl,⟨eQ,eR,rfl,cI⟩,cJ⟩⟩⟩:=bM;obtain⟨bN,cK,cM⟩:=bs cF;refine CM [] [(4,iV bN.1),(10,iV bN.2)] (fun eS bO bP=>?_) (fun cN=>?_)
  ·refine zg 6 rfl (AL cM (fun cO cP=>?_) (fun cO cQ=>?_))
   ·refine zg 6 rfl ?_;obtain rfl:=oi cP;exact AD func35 rfl rfl (bm (((((ag.Ab bn).Ab a0).Ab a5).Ab a6).Ab bO) rfl ⟨rfl,rfl⟩ bP)
   ·refine zg 9 rfl ?_;obtain rfl:=oi cQ;exact AD func35 rfl rfl (bm (((((ag.Ab bn).Ab a0).Ab a5).Ab a6).Ab bO) rfl ⟨rfl,rfl⟩ bP)
  ·refine JL.block (Cu cK (fun K=> []) (fun K=> [(4,iV K.1),(7,pV V Y),(8,pV U 0),(9,(fV 85)),(10,iV K.2.1),(35,iV K.2.2)]) Ar cD ?_);rintro K bc Z bQ cR ⟨eT,bq⟩ cT;have bR:=bq;unfold RG at bR;refine zg 5 rfl (AL bR (fun cV cW=>?_) (fun cV cX=>?_))
   ·refine zg 10 rfl (CO bQ (Dy type114) fun O cY=>?_);refine zg 4 rfl (JL.fl 1 (bK.Ah ((a5.Ab a6).Ab Z)) underlying97 Dx EO ?_);refine Bj underlying95 rfl rfl rfl ?_;obtain⟨cZ,c0,c1⟩:=bs cW;refine zg 2 rfl (Bt (fun L s=>∃(br:LH) (a7:List Value),Jn bc H br [bX O (([]:List Value)++a7).toArray 114] [(4,iV K.1),(7,pV V Y),(8,pV U 0),(9,(fV 85)),(10,iV K.2.1),(11,iV K.2.2),(12,pV O 0),(35,iV K.2.2)] L s ((rA 8 (rN .u16)).r br a7 cZ)) ?_ ?_)
    ·rintro _ _ ⟨br,a7,rfl,rfl,c3,bS,bT⟩;refine zg 7 rfl (AF (v:= .agg a7.toArray) rfl (fun ρ h=>KE (kk:=8) (pp:=(rN .u16)) bT (Dz underlying114) (Bw type114) (h _ _ rfl) (Mq (l:= []) 0 bS rfl)) ?_);obtain⟨c4,c5,c6⟩:=bs c1;refine zg 2 rfl (CM [] [(4,iV K.1),(7,pV V Y),(8,pV U 0),(9,(fV 85)),(10,iV K.2.1),(11,iV K.2.2),(17,iV c4),(35,iV K.2.2)] (fun eU c7 bU=>?_) (fun c8=>?_))
     ·obtain⟨bd,c9,da⟩:=bs c6;refine zg 6 rfl (CM [] [(4,iV bd.1),(7,pV V Y),(8,pV U 0),(9,(fV 85)),(10,iV bd.2),(35,iV K.2.2)] (fun eV db dc=>?_) (fun bV=>?_))
      ·obtain⟨dd,de,df⟩:=bs da;refine zg 2 rfl (Bb de rfl rfl rfl ?_);refine zg 2 rfl ?_;obtain rfl:=oi df;exact cT (bd.1,bd.2,dd) (((Z.Ab c3).Ab c7).Ab db) dc rfl bq
      ·refine AL c9 (fun dg dh=>?_) (fun dg di=>?_)
       ·refine zg 6 rfl ?_;obtain rfl:=oi dh;exact bV Ar bU rfl
       ·refine JL.skip ?_;obtain rfl:=oi di;exact bV Ar bU rfl
     ·refine JL.block (JS.drop 0 bS rfl fun dj=>?_);refine Cu c5 (fun a1=> []) (fun a1=> [(4,iV K.1),(7,pV V Y),(8,pV U 0),(9,(fV 85)),(10,iV K.2.1),(11,iV K.2.2),(17,iV a1.1),(35,iV K.2.2),(65,.agg a7.toArray),(66,iV a1.2)]) Ar dj ?_;rintro a1 eW bu bW dk ⟨eX,bv⟩ dl;have bY:=bv;unfold Sf at bY;refine zg 5 rfl (AL bY (fun dm dn=>?_) (fun dm dp=>?_))
      ·obtain⟨dq,dr,dt⟩:=bs dn;refine zg 5 rfl (Y3 (Rp.Ah _ bu bT) dr rfl rfl rfl rfl rfl underlying114 Em GO ?_ (fun _=>rfl));rintro _ rfl;obtain⟨bZ,du,dv⟩:=bs dt;refine zg 6 rfl (Kz (vs:= [uV dq]) (Th du) rfl rfl rfl rfl (AS func85 rfl) rfl bW ?_);rintro _ eY _ dw ⟨rfl,rfl⟩ dx;refine AF (v:=iV (max a1.1 bZ)) rfl (fun ρ h=>Yl.max2 (h _ _ rfl) (h _ _ rfl)) ?_;obtain⟨dy,dz,dA⟩:=bs dv;refine zg 4 rfl (Bb dz rfl rfl rfl ?_);refine zg 2 rfl ?_;obtain rfl:=oi dA;exact dl (max a1.1 bZ,dy) (bu.Ab dw) dx rfl bv
      ·refine JL.exit rfl ?_;obtain rfl:=oi dp;obtain rfl:=dk _ bv;exact c8 bu bW rfl
    ·intro dB;refine JL.block (CN c0 (fun L s a8=>∃(be:LH) (a9:List Value),Jn bc H be [bX O (([]:List Value)++a9).toArray 114] [(4,iV K.1),(7,pV V Y),(8,pV U 0),(9,(fV 85)),(10,iV K.2.1),(11,iV K.2.2),(12,pV O 0),(35,iV K.2.2),(39,sV bo av.2.1.2 bp),(40,iV (av.2.1.2.length:Int)),(41,iV a8.2)] L s ((rA 8 (rN .u16)).r be a9 a8.1)) ⟨bc,(List.replicate 8 (uV 0):List Value),rfl,rfl,Ar,cY,(J1 (E:=bc) (pp:=(rN .u16)) rfl)⟩ ?_);rintro _ _ a8 ⟨be,a9,rfl,rfl,al,b0,b1⟩ dC ⟨eZ,bw⟩ dD;have b2:=bw;unfold RF at b2;refine zg 5 rfl (AL b2 (fun dE dF=>?_) (fun dE dG=>?_))
     ·obtain⟨dH,dI,dJ⟩:=bs dF;refine zg 5 rfl (Cf (bJ.Ah ((((a0.Ab a5).Ab a6).Ab Z).Ab al)) dI underlying95 Ct ?_);rintro e0 e1 _ ⟨_,_,rfl,rfl,⟨_,_,rfl,⟨e2,e3,rfl,dK⟩,rfl⟩⟩ dL;refine BW dL FV Ct rfl rfl (CO b0 GU fun dM dN=>?_);refine BU 1 dN Ct fun dO=>?_;refine C6 1 dO rfl fun e4 am b3 dP=>zg 4 rfl (BW b3 FV Ct rfl rfl ?_);obtain⟨e5,dQ,dR⟩:=bs dJ;refine zg 1 rfl (BF (au (cG.Ah ((Z.Ab al).Ab am)) (cH.Ah ((Z.Ab al).Ab am)) (cI.Ah ((Z.Ab al).Ab am)) (Rp.Ah _ ((Z.Ab al).Ab am) cJ) (dK.Ah am) dQ) rfl rfl (AS func88 rfl) dP fun e6 bx dS=>?_);obtain⟨b4,dT,dU⟩:=bs dR;refine BV (I4 dT) rfl rfl IJ dS ?_;rintro _ bz _ bA ⟨dV,dW,rfl,rfl,dX⟩ dY;refine Bj underlying28 rfl rfl rfl ?_;obtain⟨b5,dZ,ea⟩:=bs dU;refine zg 2 rfl (Bt (fun L s=>∃(bf:LH) (bg:List Value),Jn bz H bf [bX O (([]:List Value)++bg).toArray 114] [(4,iV K.1),(7,pV V Y),(8,pV U 0),(9,(fV 85)),(10,iV K.2.1),(11,iV K.2.2),(12,pV O 0),(35,iV K.2.2),(39,sV bo av.2.1.2 bp),(40,iV (av.2.1.2.length:Int)),(41,iV a8.2)] L s ((rA 8 (rN .u16)).r bf bg b5)) ?_ ?_)
      ·rintro _ _ ⟨bf,bg,rfl,rfl,eb,ec,ed⟩;obtain⟨ee,ef,eg⟩:=bs ea;refine zg 2 rfl (Bb ef rfl rfl rfl ?_);refine zg 2 rfl ?_;obtain rfl:=oi eg;exact Az (dD _ _ (b5,ee) ⟨bf,bg,rfl,rfl,((((al.Ab am).Ab bx).Ab bA).Ab eb),ec,ed⟩ bw) rfl
      ·intro eh;refine JL.block (CN dZ (fun L s ba=>∃(bh:LH) (a2:List Value),Jn bz H bh [bX O (([]:List Value)++a2).toArray 114] [(4,iV K.1),(7,pV V Y),(8,pV U 0),(9,(fV 85)),(10,iV K.2.1),(11,iV K.2.2),(12,pV O 0),(14,pV dM 0),(35,iV K.2.2),(39,sV bo av.2.1.2 bp),(40,iV (av.2.1.2.length:Int)),(41,iV a8.2),(49,sV dV b4 dW),(50,iV (b4.length:Int)),(51,iV ba.2)] L s ((rA 8 (rN .u16)).r bh a2 ba.1)) ⟨bz,a9,rfl,rfl,Ar,dY,(Rp.Ah _ ((am.Ab bx).Ab bA) b1)⟩ ?_);rintro _ _ ba ⟨bh,a2,rfl,rfl,bi,bb,a3⟩ ei ⟨e7,bB⟩ ej;have b6:=bB;unfold RU at b6;refine zg 5 rfl (AL b6 (fun ek el=>?_) (fun ek em=>?_))
       ·obtain⟨a4,en,eo⟩:=bs el;refine zg 5 rfl (Cf (dX.Ah bi) en underlying28 AX ?_);rintro e8 e9 _ rfl ep;refine B8 0 ep Bx rfl rfl rfl (zg 2 rfl ?_);refine Dl 7 [O] ⟨⟨0,_,rfl⟩,trivial⟩ bb fun ht=>AW ht rfl [0,1] rfl ?_;obtain⟨b7,b8,eq⟩:=bs eo;obtain⟨_,rfl,_,_,er⟩:=Io (kk:=8) (pp:=(rN .u16)) a3 b8;refine By (v:= .pointer (some ⟨O,0+Int.toNat (a4)*1,none⟩)) 2 ht rfl rfl (fun ρ h s' hs=>Ju (kk:=8) (pp:=(rN .u16)) a3 b8 underlying114 Em (h _ _ rfl) (h _ _ rfl)) (By (v:= uV b7) 3 ht rfl rfl (fun ρ h s' hs=>Yl.load GO (h _ _ rfl) (Vi (l:= []) 0 bb rfl (by simp [A5]) hs (er 0 _ rfl))) ?_);refine B7 4 ht underlying104 AX rfl rfl rfl rfl (JG.lp 5 ht 0 (b3.Ah ((bx.Ab bA).Ab bi)) bb ⟨⟨0,_,rfl⟩,trivial⟩ Bx ?_);obtain⟨ap,et,eu⟩:=bs eq;refine Q0 (i:=6) ⟨⟨0,_,rfl⟩,trivial⟩ (vs:= [uV b7,iV dH.1]) (Ny et) (by decide+kernel) rfl rfl rfl LW rfl bb ?_;rintro _ b9 _ bj ⟨rfl,rfl⟩ ew;refine Cc [7,8] ?_;obtain⟨fa,bC,ex⟩:=bs eu;obtain⟨_,rfl,_,_,fb⟩:=Io (kk:=8) (pp:=(rN .u16)) (Rp.Ah _ bj a3) bC;refine AF (v:= .pointer (some ⟨O,0+Int.toNat (a4)*1,none⟩)) rfl (fun ρ h=>Ju (kk:=8) (pp:=(rN .u16)) (Rp.Ah _ bj a3) bC underlying114 Em (h _ _ rfl) (h _ _ rfl)) ?_;have bl:=OX (us:= [uV ap]) (y:=ap) (Rp.Ah _ bj a3) bC rfl;refine Kq (v:= uV ap) (l:= []) (ws:=a2) (us:= [uV ap]) (o:=Int.toNat (a4)*1) 0 rfl rfl rfl ew rfl rfl rfl Em (by simp [Value.cells,CP]) rfl bl.2 fun ca=>?_;replace bl:=bl.1;generalize ey:Hv a2 (Int.toNat (a4)*1) [uV ap]=cb at ca ⊢;have ez:(rA 8 (rN .u16)).r b9 cb (ba.1.set (Int.toNat a4) ap):=by rw [← ey];exact bl
        obtain⟨eA,eB,eC⟩:=bs ex;refine zg 3 rfl (Bb eB rfl rfl rfl ?_);refine zg 2 rfl ?_;obtain rfl:=oi eC;exact Az (ej _ _ ((ba.1.set (Int.toNat a4) ap),eA) ⟨b9,cb,rfl,rfl,(bi.Ab bj),ca,ez⟩ bB) rfl
       ·refine JL.exit rfl ?_;obtain rfl:=oi em;obtain rfl:=ei _ bB;exact Az (eh _ _ ⟨bh,a2,rfl,rfl,bi,bb,a3⟩) rfl
     ·refine JL.exit rfl ?_;obtain rfl:=oi dG;obtain rfl:=dC _ bw;exact Az (dB _ _ ⟨be,a9,rfl,rfl,al,b0,b1⟩) rfl
   ·refine JL.exit rfl ?_;obtain rfl:=oi cX;obtain rfl:=cR _ bq;exact cN Z bQ rfl
def HT(fuel:Nat)(p0:Bc)(p1:AI)(p2:AI):Option (Bool×Int):= (Hx fuel p0 p1).bind fun O=> if O≠0 then(some (false,O)) else((Hx fuel p0 p2).bind fun U=> if U≠0 then(some (false,U)) else((f92 fuel p0).bind fun ag=> (ag).bind fun K=> (f93 fuel K p1).bind fun V=> (f93 fuel K p2).bind fun Y=> Option.bind (if(V.2.length:Int)=0 then(some true) else(some (decide ((Y.2.length:Int)=0)))) fun al=> if al=true then(some (false,0)) else((f94 fuel p1 p2).bind fun am=> (f93 fuel K am).bind fun Z=> Option.bind (if 0<(Z.2.length:Int) then((As (V.1+Y.1)).bind fun ap=> some (decide (Z.1≤ap))) else(some false)) fun av=> some (av,0))))
theorem Sl{E:LH}{bg:Ao}{c2:Nat}{bh:Ao}{bi:Nat}{a0:Ao}{a1:Nat}{a2:Ao}{a3:Nat}{p0:Bc}{p1:AI}{p2:AI}(bj:GE E)(a4:Al (rL rI) E bg c2 p0.1)(a5:Al (rL rI) E bh bi p0.2)(a6:Al A9 E a0 a1 p1)(a7:Al A9 E a2 a3 p2){fuel:Nat}{r:Bool×Int}(bl:HT fuel p0 p1 p2=some r):AK (D1 Tryz.prog) 37 [.agg #[sV bg p0.1 c2,sV bh p0.2 bi],sV a0 p1 a1,sV a2 p2 a3] E [] (fun w E' B'=>w= .tuple #[.bool r.1,iV r.2]∧B'= []):=by
 refine A4 func37 fun Q cK cs H bC av=>?_;unfold HT at bl;refine zg 2 rfl (Cb bC fun cM cN K a8 bD=>?_);refine zg 6 rfl (BW a8 Ca BI rfl rfl ?_);obtain⟨cO,bE,bF⟩:=bs bl;refine zg 1 rfl (BF (Lc (bj.Ah K) (a4.Ah K) (a5.Ah K) (a6.Ah K) bE) rfl rfl Kl bD fun cP O bm=>?_);refine zg 7 rfl (AL bF (fun bG bH=>?_) (fun bG bI=>?_))
 ·refine zg 6 rfl ?_;obtain rfl:=oi bH;exact AD func37 rfl rfl (av (K.Ab O) rfl ⟨rfl,rfl⟩ bm)
 ·refine zg 4 rfl (BW (a8.Ah O) Ca BI rfl rfl ?_);obtain⟨cQ,bJ,bK⟩:=bs bI;refine zg 1 rfl (BF (Lc (bj.Ah (K.Ab O)) (a4.Ah (K.Ab O)) (a5.Ah (K.Ab O)) (a7.Ah (K.Ab O)) bJ) rfl rfl Kl bm fun cR V bL=>?_);refine Cr (S':= [[],[],[],[]]) rfl bL fun bn=>zg 7 rfl (AL bK (fun bM bN=>?_) (fun bM bO=>?_))
  ·refine zg 6 rfl ?_;obtain rfl:=oi bN;exact AD func37 rfl rfl (av ((K.Ab O).Ab V) rfl ⟨rfl,rfl⟩ bn)
  ·refine zg 3 rfl (BW (a8.Ah (O.Ab V)) Ca BI rfl rfl ?_);obtain⟨cT,bP,bQ⟩:=bs bO;refine BV (Nu (a4.Ah ((K.Ab O).Ab V)) (a5.Ah ((K.Ab O).Ab V)) bP) rfl rfl L2 bn ?_;rintro cV cW _ ap ⟨_,rfl,rfl,bR⟩ bS;obtain⟨cX,bT,bU⟩:=bs bQ;have bo:=bR;refine zg 6 rfl ?_;rw [bT] at bo;obtain⟨bV,bW,_,rfl,a9,⟨_,_,rfl,⟨cY,cZ,rfl,ba⟩,⟨_,c0,rfl,⟨c1,c3,rfl,bb⟩,bc⟩⟩⟩:=bo;obtain⟨c4,bY,bZ⟩:=bs bU;refine BV (NI a9 ba bb bc (a6.Ah (((K.Ab O).Ab V).Ab ap)) bY) rfl rfl L3 bS ?_;rintro _ c5 _ U ⟨c6,c7,rfl,rfl,c8⟩ b0;obtain⟨c9,b1,b2⟩:=bs bZ;refine zg 2 rfl (BV (NI (a9.Ah U) (ba.Ah U) (bb.Ah U) (Rp.Ah _ U bc) (a7.Ah ((((K.Ab O).Ab V).Ab ap).Ab U)) b1) rfl rfl L3 b0 ?_);rintro _ da _ ag ⟨db,dc,rfl,rfl,dd⟩ b3;refine Cr (S':= [[],[],[],[],[],[],[]]) rfl b3 fun b4=>CO b4 F9 fun b5 b6=>?_;refine CO b6 F9 fun bp b7=>?_;refine BU 7 b7 Dv fun b8=>?_;refine C6 7 b8 rfl fun de al bq b9=>Cr (S':= [[],[],[],[],[],[],[],[],[(bp,.cells #[iV 0,nS] 97 (0,0))]]) rfl b9 fun ca=>BU 8 ca Dv fun cb=>?_;refine C6 8 cb rfl fun bd Y br bu=>zg 4 rfl (JL.fl 1 (bq.Ah Y) underlying97 Dx EO ?_);refine Bj underlying95 rfl rfl rfl ?_;obtain⟨cc,cd,ce⟩:=bs b2;refine zg 2 rfl (ER [] (fun L s=>∃(bv:LH),Jm bd H bv [] [(1,sV a0 p1 a1),(2,sV a2 p2 a3),(10,pV bV bW),(11,pV b5 0),(12,pV bp 0),(43,.bool cc)] L s) ?_ ?_)
   ·rintro _ _ ⟨bv,rfl,rfl,Z,bw⟩;refine JL.done (BJ ce (fun cf cg=>?_) (fun cf ci=>?_))
    ·refine zg 5 rfl ?_;obtain rfl:=oi cg;exact AD func37 rfl rfl (av ((((((((K.Ab O).Ab V).Ab ap).Ab U).Ab ag).Ab al).Ab Y).Ab Z) rfl ⟨rfl,rfl⟩ bw)
    ·obtain⟨df,ck,cm⟩:=bs ci;refine zg 6 rfl (BV (aA (a6.Ah ((((((((K.Ab O).Ab V).Ab ap).Ab U).Ab ag).Ab al).Ab Y).Ab Z)) (a7.Ah ((((((((K.Ab O).Ab V).Ab ap).Ab U).Ab ag).Ab al).Ab Y).Ab Z)) ck) rfl rfl (AS func94 rfl) bw ?_);rintro _ dg _ am ⟨dh,di,rfl,rfl,cn⟩ co;obtain⟨dj,cp,cq⟩:=bs cm;refine BV (NI (a9.Ah (((((U.Ab ag).Ab al).Ab Y).Ab Z).Ab am)) (ba.Ah (((((U.Ab ag).Ab al).Ab Y).Ab Z).Ab am)) (bb.Ah (((((U.Ab ag).Ab al).Ab Y).Ab Z).Ab am)) (Rp.Ah _ (((((U.Ab ag).Ab al).Ab Y).Ab Z).Ab am) bc) cn cp) rfl rfl L3 co ?_;rintro _ dk _ be ⟨dl,dm,rfl,rfl,dn⟩ cr;refine Cr (S':= [[],[]]) rfl cr fun ct=>CO ct F9 fun dp cu=>?_;refine BU 2 cu Dv fun cv=>?_;refine C6 2 cv rfl fun dq bf bx bz=>zg 3 rfl (JL.fl 1 bx underlying97 Dx EO ?_);refine Bj underlying95 rfl rfl rfl ?_;obtain⟨cw,cy,cz⟩:=bs cq;refine zg 2 rfl (Dm 14 2 [] [(62,.bool cw)] (fun dr cA cB=>?_) (fun bA=>?_))
     ·refine zg 3 rfl ?_;obtain rfl:=oi cz;exact AD func37 rfl rfl (av ((((((((((((K.Ab O).Ab V).Ab ap).Ab U).Ab ag).Ab al).Ab Y).Ab Z).Ab am).Ab be).Ab bf).Ab cA) rfl ⟨rfl,rfl⟩ cB)
     ·refine Ei 53 cy (fun cC cD=>?_) (fun cC cE=>?_)
      ·refine JL.fl 0 bx underlying97 AX Bx ?_;refine JL.fl 0 (bq.Ah ((((Y.Ab Z).Ab am).Ab be).Ab bf)) underlying97 AX Bx ?_;refine JL.fl 0 (br.Ah (((Z.Ab am).Ab be).Ab bf)) underlying97 AX Bx ?_;obtain⟨dt,cF,cG⟩:=bs cD;refine Bb cF rfl rfl rfl (zg 2 rfl ?_);obtain rfl:=oi cG;exact bA Ar bz rfl
      ·refine zg 9 rfl ?_;obtain rfl:=oi cE;exact bA Ar bz rfl
   ·intro bB;refine Ei 38 cd (fun cH cI=>?_) (fun cH cJ=>?_)
    ·refine zg 5 rfl ?_;obtain rfl:=oi cI;exact Az (bB _ _ ⟨bd,rfl,rfl,Ar,bu⟩) rfl
    ·refine JL.fl 1 br underlying97 Dx EO ?_;refine Bj underlying95 rfl rfl rfl (zg 2 rfl ?_);obtain rfl:=oi cJ;exact Az (bB _ _ ⟨bd,rfl,rfl,Ar,bu⟩) rfl
end Pal
namespace Pal
open Go Go.Conc Go.Proofs
open Go.Proofs.Tryz
def J9(fuel:Nat):Option Bool:= (f71 fuel).bind fun am=> (PC fuel am 4).bind fun U=> (f71 fuel).bind fun ap=> (Pr fuel ap 5).bind fun V=> (f71 fuel).bind fun av=> (f72 fuel).bind fun a0=> (Pp fuel av a0 2).bind fun Y=> (f71 fuel).bind fun a1=> (Pw fuel a1 ([])).bind fun Z=> (f71 fuel).bind fun a2=> (f73 fuel).bind fun a3=> (PE fuel a2 a3 1).bind fun ag=> (f71 fuel).bind fun a4=> (PD fuel a4 ([])).bind fun K=> (f71 fuel).bind fun a5=> (f72 fuel).bind fun a6=> (f72 fuel).bind fun a7=> (HT fuel a5 a6 a7).bind fun al=> (f71 fuel).bind fun a8=> (f73 fuel).bind fun a9=> (PF fuel a8 a9).bind fun O=> Option.bind (if U.2=0 then(some (decide (V.2=0))) else(some false)) fun ba=> Option.bind (if ba=true then(some (decide (Y.2=0))) else(some false)) fun bb=> Option.bind (if bb=true then(some (decide (Z.2=0))) else(some false)) fun bc=> Option.bind (if bc=true then(some (decide (ag.2=0))) else(some false)) fun bd=> Option.bind (if bd=true then(some (decide (K.2.2=0))) else(some false)) fun be=> Option.bind (if be=true then(some (decide (al.2=0))) else(some false)) fun bf=> Option.bind (if bf=true then(some (decide (O.2.2=0))) else(some false)) fun bg=> Option.bind (if bg=true then(some (decide (V.1=3))) else(some false)) fun bh=> Option.bind (if bh=true then(some (decide (Z.1=15))) else(some false)) fun bi=> Option.bind (if bi=true then(some (decide (ag.1=1))) else(some false)) fun bj=> Option.bind (if bj=true then(some (decide (K.1=0))) else(some false)) fun bl=> Option.bind (if bl=true then(some (decide (K.2.1=9))) else(some false)) fun bm=> Option.bind (if bm=true then(some al.1) else(some false)) fun bn=> Option.bind (if bn=true then(some (decide (O.1=3))) else(some false)) fun bo=> Option.bind (if bo=true then((f32 fuel U.1 ([4,5]:List Int)).bind fun bp=> some bp) else(some false)) fun bq=> Option.bind (if bq=true then((f32 fuel Y.1 ([2,3,4]:List Int)).bind fun br=> some br) else(some false)) fun bu=> Option.bind (if bu=true then((f32 fuel O.2.1 ([3,4]:List Int)).bind fun bv=> some bv) else(some false)) fun bw=> some bw
theorem S1{E:LH}(a6:GE E){fuel:Nat}{r:Bool}(bI:J9 fuel=some r):AK (D1 Tryz.prog) 22 [] E [] (fun w E' B'=>w= .bool r∧B'= []):=by
 refine A4 func22 fun Q gu cs H cp cq=>?_;unfold J9 at bI;obtain⟨gv,cr,ct⟩:=bs bI;refine zg 6 rfl (BV (Iz cr) rfl rfl Ia cp ?_);rintro _ gw _ a3 ⟨gx,gy,gz,gA,rfl,rfl,cu,cv⟩ cw;obtain⟨am,cy,cz⟩:=bs ct;refine BV (Zg (a6.Ah a3) cu cv cy) rfl rfl (AS func51 rfl) cw ?_;rintro _ gB _ a7 ⟨ap,av,rfl,rfl,cA⟩ cB;obtain⟨gC,cC,cD⟩:=bs cz;refine zg 8 rfl (BV (Iz cC) rfl rfl Ia cB ?_);rintro _ gD _ a4 ⟨gE,gF,gG,gH,rfl,rfl,cE,cF⟩ cG;obtain⟨bc,cH,cI⟩:=bs cD;refine BF (ZV (a6.Ah ((a3.Ab a7).Ab a4)) cE cF cH) rfl rfl (AS func57 rfl) cG fun gI a8 cJ=>?_;obtain⟨gJ,cK,cM⟩:=bs cI;refine zg 8 rfl (BV (Iz cK) rfl rfl Ia cJ ?_);rintro _ gK _ a9 ⟨gL,gM,gN,gO,rfl,rfl,cN,cO⟩ cP;obtain⟨gP,cQ,cR⟩:=bs cM;refine BV (Pm cQ) rfl rfl NZ cP ?_;rintro _ gQ _ a1 ⟨gR,gS,rfl,rfl,cT⟩ cV;obtain⟨V,cW,cX⟩:=bs cR;refine BV (YI (a6.Ah (((((a3.Ab a7).Ab a4).Ab a8).Ab a9).Ab a1)) (cN.Ah a1) (cO.Ah a1) cT cW) rfl rfl (AS func43 rfl) cV ?_;rintro _ gT _ bd ⟨ag,al,rfl,rfl,cY⟩ cZ;obtain⟨gU,c0,c1⟩:=bs cX;refine zg 8 rfl (BV (Iz c0) rfl rfl Ia cZ ?_);rintro _ gV _ ba ⟨gW,gX,gY,gZ,rfl,rfl,c2,c3⟩ c4;obtain⟨a2,c5,c6⟩:=bs c1;refine BF (YU (a6.Ah (((((((a3.Ab a7).Ab a4).Ab a8).Ab a9).Ab a1).Ab bd).Ab ba)) c2 c3 Al.nil c5) rfl rfl (AS func28 rfl) c4 fun g0 be c7=>?_;obtain⟨g1,c8,c9⟩:=bs c6;refine zg 8 rfl (BV (Iz c8) rfl rfl Ia c7 ?_);rintro _ g3 _ bf ⟨g4,g5,g6,g7,rfl,rfl,da,db⟩ dc;obtain⟨g8,dd,de⟩:=bs c9;refine BV (Td dd) rfl rfl (AS func73 rfl) dc ?_;rintro _ g9 _ a5 ⟨ha,hb,rfl,rfl,df⟩ dg;obtain⟨a0,dh,di⟩:=bs de;refine BF (YH (a6.Ah ((((((((((a3.Ab a7).Ab a4).Ab a8).Ab a9).Ab a1).Ab bd).Ab ba).Ab be).Ab bf).Ab a5)) (da.Ah a5) (db.Ah a5) df dh) rfl rfl (AS func49 rfl) dg fun hc bh dj=>?_;obtain⟨hd,dk,dl⟩:=bs di;refine zg 8 rfl (BV (Iz dk) rfl rfl Ia dj ?_);rintro _ he _ bi ⟨hf,hj,hk,hl,rfl,rfl,dm,dn⟩ dp;obtain⟨O,dq,dr⟩:=bs dl;refine BF (Z4 (a6.Ah ((((((((((((a3.Ab a7).Ab a4).Ab a8).Ab a9).Ab a1).Ab bd).Ab ba).Ab be).Ab bf).Ab a5).Ab bh).Ab bi)) dm dn Al.nil dq) rfl rfl (AS func35 rfl) dp fun hm bl dt=>?_;obtain⟨hn,du,dv⟩:=bs dr;refine zg 10 rfl (BV (Iz du) rfl rfl Ia dt ?_);rintro _ ho _ bm ⟨hp,hq,hr,hu,rfl,rfl,dw,dx⟩ dy;obtain⟨hv,dz,dA⟩:=bs dv;refine BV (Pm dz) rfl rfl NZ dy ?_;rintro _ hw _ bg ⟨hx,hy,rfl,rfl,dB⟩ dC;obtain⟨hz,dD,dE⟩:=bs dA;refine BV (Pm dD) rfl rfl NZ dC ?_;rintro _ hA _ bb ⟨hB,hC,rfl,rfl,dF⟩ dG;obtain⟨U,dH,dI⟩:=bs dE;refine BF (Sl (a6.Ah ((((((((((((((((a3.Ab a7).Ab a4).Ab a8).Ab a9).Ab a1).Ab bd).Ab ba).Ab be).Ab bf).Ab a5).Ab bh).Ab bi).Ab bl).Ab bm).Ab bg).Ab bb)) (dw.Ah (bg.Ab bb)) (dx.Ah (bg.Ab bb)) (dB.Ah bb) dF dH) rfl rfl (AS func37 rfl) dG fun hD bn dJ=>?_;obtain⟨hE,dK,dL⟩:=bs dI;refine zg 8 rfl (BV (Iz dK) rfl rfl Ia dJ ?_);rintro _ hF _ bo ⟨hG,hH,hI,hJ,rfl,rfl,dM,dN⟩ dO;obtain⟨hK,dP,dQ⟩:=bs dL;refine BV (Td dP) rfl rfl (AS func73 rfl) dO ?_;rintro _ hL _ bj ⟨hM,hN,rfl,rfl,dR⟩ dS;obtain⟨K,dT,dU⟩:=bs dQ;refine BV (Yu (a6.Ah (((((((((((((((((((a3.Ab a7).Ab a4).Ab a8).Ab a9).Ab a1).Ab bd).Ab ba).Ab be).Ab bf).Ab a5).Ab bh).Ab bi).Ab bl).Ab bm).Ab bg).Ab bb).Ab bn).Ab bo).Ab bj)) (dM.Ah bj) (dN.Ah bj) dR dT) rfl rfl (AS func30 rfl) dS ?_;rintro _ hO _ bG ⟨Y,Z,rfl,rfl,dV⟩ bJ;obtain⟨dW,dX,dY⟩:=bs dU;refine zg 13 rfl (Dm 6 67 [] [(1,sV ap am.1 av),(3,iV bc.1),(5,sV ag V.1 al),(6,iV V.2),(7,iV a2.1),(8,iV a2.2),(9,iV a0.1),(10,iV a0.2),(11,iV O.1),(12,iV O.2.1),(13,iV O.2.2),(14,.bool U.1),(15,iV U.2),(16,iV K.1),(17,sV Y K.2.1 Z),(18,iV K.2.2),(71,.bool dW)] (fun hP bp bK=>?_) (fun bL=>?_))
 ·obtain⟨dZ,ea,eb⟩:=bs dY;refine zg 1 rfl (Dm 10 63 [] [(1,sV ap am.1 av),(3,iV bc.1),(5,sV ag V.1 al),(7,iV a2.1),(8,iV a2.2),(9,iV a0.1),(10,iV a0.2),(11,iV O.1),(12,iV O.2.1),(13,iV O.2.2),(14,.bool U.1),(15,iV U.2),(16,iV K.1),(17,sV Y K.2.1 Z),(18,iV K.2.2),(75,.bool dZ)] (fun hQ bq bM=>?_) (fun bN=>?_))
  ·obtain⟨ec,ed,ee⟩:=bs eb;refine zg 1 rfl (Dm 14 59 [] [(1,sV ap am.1 av),(3,iV bc.1),(5,sV ag V.1 al),(7,iV a2.1),(9,iV a0.1),(10,iV a0.2),(11,iV O.1),(12,iV O.2.1),(13,iV O.2.2),(14,.bool U.1),(15,iV U.2),(16,iV K.1),(17,sV Y K.2.1 Z),(18,iV K.2.2),(79,.bool ec)] (fun hR br bO=>?_) (fun bP=>?_))
   ·obtain⟨ef,eg,eh⟩:=bs ee;refine zg 1 rfl (Dm 18 55 [] [(1,sV ap am.1 av),(3,iV bc.1),(5,sV ag V.1 al),(7,iV a2.1),(9,iV a0.1),(11,iV O.1),(12,iV O.2.1),(13,iV O.2.2),(14,.bool U.1),(15,iV U.2),(16,iV K.1),(17,sV Y K.2.1 Z),(18,iV K.2.2),(83,.bool ef)] (fun hS bu bQ=>?_) (fun bR=>?_))
    ·obtain⟨ei,ej,ek⟩:=bs eh;refine zg 1 rfl (Dm 22 51 [] [(1,sV ap am.1 av),(3,iV bc.1),(5,sV ag V.1 al),(7,iV a2.1),(9,iV a0.1),(11,iV O.1),(12,iV O.2.1),(14,.bool U.1),(15,iV U.2),(16,iV K.1),(17,sV Y K.2.1 Z),(18,iV K.2.2),(87,.bool ei)] (fun hT bv bS=>?_) (fun bT=>?_))
     ·obtain⟨el,em,en⟩:=bs ek;refine zg 1 rfl (Dm 26 47 [] [(1,sV ap am.1 av),(3,iV bc.1),(5,sV ag V.1 al),(7,iV a2.1),(9,iV a0.1),(11,iV O.1),(12,iV O.2.1),(14,.bool U.1),(16,iV K.1),(17,sV Y K.2.1 Z),(18,iV K.2.2),(91,.bool el)] (fun hU bw bU=>?_) (fun bV=>?_))
      ·obtain⟨eo,ep,eq⟩:=bs en;refine zg 1 rfl (Dm 30 43 [] [(1,sV ap am.1 av),(3,iV bc.1),(5,sV ag V.1 al),(7,iV a2.1),(9,iV a0.1),(11,iV O.1),(12,iV O.2.1),(14,.bool U.1),(16,iV K.1),(17,sV Y K.2.1 Z),(95,.bool eo)] (fun hV bx bW=>?_) (fun bY=>?_))
       ·obtain⟨er,et,eu⟩:=bs eq;refine zg 1 rfl (Dm 34 39 [] [(1,sV ap am.1 av),(5,sV ag V.1 al),(7,iV a2.1),(9,iV a0.1),(11,iV O.1),(12,iV O.2.1),(14,.bool U.1),(16,iV K.1),(17,sV Y K.2.1 Z),(99,.bool er)] (fun hW bz bZ=>?_) (fun b0=>?_))
        ·obtain⟨ew,ex,ey⟩:=bs eu;refine zg 1 rfl (Dm 38 35 [] [(1,sV ap am.1 av),(5,sV ag V.1 al),(9,iV a0.1),(11,iV O.1),(12,iV O.2.1),(14,.bool U.1),(16,iV K.1),(17,sV Y K.2.1 Z),(103,.bool ew)] (fun hX bA b1=>?_) (fun b2=>?_))
         ·obtain⟨ez,eA,eB⟩:=bs ey;refine zg 1 rfl (Dm 42 31 [] [(1,sV ap am.1 av),(5,sV ag V.1 al),(11,iV O.1),(12,iV O.2.1),(14,.bool U.1),(16,iV K.1),(17,sV Y K.2.1 Z),(107,.bool ez)] (fun hY bB b3=>?_) (fun b4=>?_))
          ·obtain⟨eC,eD,eE⟩:=bs eB;refine zg 1 rfl (Dm 46 27 [] [(1,sV ap am.1 av),(5,sV ag V.1 al),(12,iV O.2.1),(14,.bool U.1),(16,iV K.1),(17,sV Y K.2.1 Z),(111,.bool eC)] (fun hZ bC b5=>?_) (fun b6=>?_))
           ·obtain⟨eF,eG,eH⟩:=bs eE;refine zg 1 rfl (Dm 50 23 [] [(1,sV ap am.1 av),(5,sV ag V.1 al),(14,.bool U.1),(16,iV K.1),(17,sV Y K.2.1 Z),(115,.bool eF)] (fun h0 bD b7=>?_) (fun b8=>?_))
            ·obtain⟨eI,eJ,eK⟩:=bs eH;refine zg 1 rfl (Dm 53 20 [] [(1,sV ap am.1 av),(5,sV ag V.1 al),(16,iV K.1),(17,sV Y K.2.1 Z),(118,.bool eI)] (fun h1 bE b9=>?_) (fun ca=>?_))
             ·obtain⟨eL,eM,eN⟩:=bs eK;refine zg 1 rfl (Dm 57 16 [] [(1,sV ap am.1 av),(5,sV ag V.1 al),(17,sV Y K.2.1 Z),(122,.bool eL)] (fun h2 bF cb=>?_) (fun cc=>?_))
              ·obtain⟨eO,eP,eQ⟩:=bs eN;refine zg 1 rfl (Dm 62 11 [] [(5,sV ag V.1 al),(17,sV Y K.2.1 Z),(127,.bool eO)] (fun h3 bH cd=>?_) (fun ce=>?_))
               ·obtain⟨eR,eS,eT⟩:=bs eQ;refine zg 1 rfl (Dm 67 6 [] [(17,sV Y K.2.1 Z),(132,.bool eR)] (fun h4 cf cg=>?_) (fun ci=>?_))
                ·obtain⟨eU,eV,eW⟩:=bs eT;refine zg 1 rfl (Dm 72 1 [] [(137,.bool eU)] (fun h5 eX eY=>?_) (fun ck=>?_))
                 ·refine zg 2 rfl ?_;obtain rfl:=oi eW;exact AD func22 rfl rfl (cq (((((((((((((((((((((((((((((((((((((a3.Ab a7).Ab a4).Ab a8).Ab a9).Ab a1).Ab bd).Ab ba).Ab be).Ab bf).Ab a5).Ab bh).Ab bi).Ab bl).Ab bm).Ab bg).Ab bb).Ab bn).Ab bo).Ab bj).Ab bG).Ab bp).Ab bq).Ab br).Ab bu).Ab bv).Ab bw).Ab bx).Ab bz).Ab bA).Ab bB).Ab bC).Ab bD).Ab bE).Ab bF).Ab bH).Ab cf).Ab eX) rfl ⟨rfl,rfl⟩ eY)
                 ·refine DU 133 eV (fun eZ e0=>?_) (fun eZ e1=>?_)
                  ·refine zg 1 rfl (DC (pp:=rI) [iV 3,iV 4] [3,4] rfl rfl rfl underlying28 AX CS (by decide) rfl rfl rfl ⟨rfl,rfl,trivial⟩ cg fun h6 h7 e2 e3=>?_);refine BT 0 e2 e3 rfl fun h8 cm e4 e5=>?_;obtain⟨h9,e6,e7⟩:=bs e0;refine BF (NF (dV.Ah ((((((((((((((((bp.Ab bq).Ab br).Ab bu).Ab bv).Ab bw).Ab bx).Ab bz).Ab bA).Ab bB).Ab bC).Ab bD).Ab bE).Ab bF).Ab bH).Ab cf).Ab cm)) e4 e6) rfl rfl LX e5 fun ia e8 e9=>zg 1 rfl ?_;obtain rfl:=oi e7;exact ck (cm.Ab e8) e9 rfl
                  ·refine zg 4 rfl ?_;obtain rfl:=oi e1;exact ck Ar cg rfl
                ·refine DU 128 eS (fun fa fb=>?_) (fun fa fc=>?_)
                 ·refine zg 1 rfl (DC (pp:=rI) [iV 2,iV 3,iV 4] [2,3,4] rfl rfl rfl underlying28 AX CS (by decide) rfl rfl rfl ⟨rfl,rfl,rfl,trivial⟩ cd fun ic ie fd fe=>?_);refine BT 0 fd fe rfl fun ig cn ff fg=>?_;obtain⟨ih,fh,fj⟩:=bs fb;refine BF (NF (cY.Ah (((((((((((((((((((((((((((((ba.Ab be).Ab bf).Ab a5).Ab bh).Ab bi).Ab bl).Ab bm).Ab bg).Ab bb).Ab bn).Ab bo).Ab bj).Ab bG).Ab bp).Ab bq).Ab br).Ab bu).Ab bv).Ab bw).Ab bx).Ab bz).Ab bA).Ab bB).Ab bC).Ab bD).Ab bE).Ab bF).Ab bH).Ab cn)) ff fh) rfl rfl LX fg fun ii fk fm=>zg 1 rfl ?_;obtain rfl:=oi fj;exact ci (cn.Ab fk) fm rfl
                 ·refine zg 4 rfl ?_;obtain rfl:=oi fc;exact ci Ar cd rfl
               ·refine DU 123 eP (fun fo fp=>?_) (fun fo fq=>?_)
                ·refine zg 1 rfl (DC (pp:=rI) [iV 4,iV 5] [4,5] rfl rfl rfl underlying28 AX CS (by decide) rfl rfl rfl ⟨rfl,rfl,trivial⟩ cb fun ij ik fs fu=>?_);refine BT 0 fs fu rfl fun il co fv fw=>?_;obtain⟨io,fx,fy⟩:=bs fp;refine BF (NF (cA.Ah (((((((((((((((((((((((((((((((((a4.Ab a8).Ab a9).Ab a1).Ab bd).Ab ba).Ab be).Ab bf).Ab a5).Ab bh).Ab bi).Ab bl).Ab bm).Ab bg).Ab bb).Ab bn).Ab bo).Ab bj).Ab bG).Ab bp).Ab bq).Ab br).Ab bu).Ab bv).Ab bw).Ab bx).Ab bz).Ab bA).Ab bB).Ab bC).Ab bD).Ab bE).Ab bF).Ab co)) fv fx) rfl rfl LX fw fun iq fz fA=>zg 1 rfl ?_;obtain rfl:=oi fy;exact ce (co.Ab fz) fA rfl
                ·refine zg 4 rfl ?_;obtain rfl:=oi fq;exact ce Ar cb rfl
              ·refine DU 119 eM (fun fB fC=>?_) (fun fB fD=>?_)
               ·refine zg 3 rfl ?_;obtain rfl:=oi fC;exact cc Ar b9 rfl
               ·refine zg 3 rfl ?_;obtain rfl:=oi fD;exact cc Ar b9 rfl
             ·refine DU 116 eJ (fun fE fF=>?_) (fun fE fG=>?_)
              ·refine zg 2 rfl ?_;obtain rfl:=oi fF;exact ca Ar b7 rfl
              ·refine zg 2 rfl ?_;obtain rfl:=oi fG;exact ca Ar b7 rfl
            ·refine DU 112 eG (fun fH fI=>?_) (fun fH fJ=>?_)
             ·refine zg 3 rfl ?_;obtain rfl:=oi fI;exact b8 Ar b5 rfl
             ·refine zg 3 rfl ?_;obtain rfl:=oi fJ;exact b8 Ar b5 rfl
           ·refine DU 108 eD (fun fK fL=>?_) (fun fK fM=>?_)
            ·refine zg 3 rfl ?_;obtain rfl:=oi fL;exact b6 Ar b3 rfl
            ·refine zg 3 rfl ?_;obtain rfl:=oi fM;exact b6 Ar b3 rfl
          ·refine DU 104 eA (fun fN fO=>?_) (fun fN fP=>?_)
           ·refine zg 3 rfl ?_;obtain rfl:=oi fO;exact b4 Ar b1 rfl
           ·refine zg 3 rfl ?_;obtain rfl:=oi fP;exact b4 Ar b1 rfl
         ·refine DU 100 ex (fun fQ fR=>?_) (fun fQ fS=>?_)
          ·refine zg 3 rfl ?_;obtain rfl:=oi fR;exact b2 Ar bZ rfl
          ·refine zg 3 rfl ?_;obtain rfl:=oi fS;exact b2 Ar bZ rfl
        ·refine DU 96 et (fun fT fU=>?_) (fun fT fW=>?_)
         ·refine zg 3 rfl ?_;obtain rfl:=oi fU;exact b0 Ar bW rfl
         ·refine zg 3 rfl ?_;obtain rfl:=oi fW;exact b0 Ar bW rfl
       ·refine DU 92 ep (fun fX fY=>?_) (fun fX fZ=>?_)
        ·refine zg 3 rfl ?_;obtain rfl:=oi fY;exact bY Ar bU rfl
        ·refine zg 3 rfl ?_;obtain rfl:=oi fZ;exact bY Ar bU rfl
      ·refine DU 88 em (fun ga gb=>?_) (fun ga gc=>?_)
       ·refine zg 3 rfl ?_;obtain rfl:=oi gb;exact bV Ar bS rfl
       ·refine zg 3 rfl ?_;obtain rfl:=oi gc;exact bV Ar bS rfl
     ·refine DU 84 ej (fun gd ge=>?_) (fun gd gf=>?_)
      ·refine zg 3 rfl ?_;obtain rfl:=oi ge;exact bT Ar bQ rfl
      ·refine zg 3 rfl ?_;obtain rfl:=oi gf;exact bT Ar bQ rfl
    ·refine DU 80 eg (fun gg gh=>?_) (fun gg gi=>?_)
     ·refine zg 3 rfl ?_;obtain rfl:=oi gh;exact bR Ar bO rfl
     ·refine zg 3 rfl ?_;obtain rfl:=oi gi;exact bR Ar bO rfl
   ·refine DU 76 ed (fun gj gk=>?_) (fun gj gl=>?_)
    ·refine zg 3 rfl ?_;obtain rfl:=oi gk;exact bP Ar bM rfl
    ·refine zg 3 rfl ?_;obtain rfl:=oi gl;exact bP Ar bM rfl
  ·refine DU 72 ea (fun gm gn=>?_) (fun gm gp=>?_)
   ·refine zg 3 rfl ?_;obtain rfl:=oi gn;exact bN Ar bK rfl
   ·refine zg 3 rfl ?_;obtain rfl:=oi gp;exact bN Ar bK rfl
 ·refine Ei 68 dX (fun gq gr=>?_) (fun gq gt=>?_)
  ·refine zg 3 rfl ?_;obtain rfl:=oi gr;exact bL Ar bJ rfl
  ·refine zg 3 rfl ?_;obtain rfl:=oi gt;exact bL Ar bJ rfl
end Pal
namespace Pal
theorem DZ{f:Nat→Option Int}{n i:Nat}{c:Int}(K:∀q,q<i→f q=none)(O:f i=some c)(hi:i<n):(List.range n).findSome? f=some c:=by
 have key:∀(k:Nat),i<k→(List.range k).findSome? f=some c:=by
  intro k
  induction k with
  | zero=>intro h;omega
  | succ k U=>
   intro h;rw [List.range_succ,List.findSome?_append];by_cases e:i=k
   ·subst e;have:(List.range i).findSome? f=none:=List.findSome?_eq_none_iff.2 fun q V=>K q (List.mem_range.1 V);rw [this];simp [O]
   ·rw [U (by omega)];rfl
 exact key n hi
theorem F1{f:Nat→Option Int}{n:Nat}(K:∀q,q<n→f q=none):(List.range n).findSome? f=none:=List.findSome?_eq_none_iff.2 fun q O=>K q (List.mem_range.1 O)
def Fo(n:Nat)(m:Int)(b:Bool)(l:List Int)(i:Nat):Option Int:=
 if l.getD i 0<0∨(n:Int) - 1<l.getD i 0 then some 3 else if l.getD i 0=m∧b=false then some 8 else if 0<i∧l.getD i 0≤l.getD (i - 1) 0 then some 5 else none
def ET(n:Nat)(m:Int)(b:Bool)(l:List Int):Option Int:=(List.range l.length).findSome? (Fo n m b l)
theorem Ep{α:Type}{l:List α}{i:Nat}{d:α}(h:i<l.length):l.getD i d=l[i]:=by rw [List.getD_eq_getElem?_getD,List.getElem?_eq_getElem h];rfl
theorem Rt{F:Nat}{J:JW}{m:Int}{l:List Int}{b:Bool}(am:100<F)(ap:l.length<100)(av:J.1.length<100):A1 (f136 F J m l b) (fun e=>e.map (·.1)=ET J.1.length m b l):=by
 unfold f136;refine AB (S:=fun q=>(∃c,q=Sum.inl (some (c,m))∧ET J.1.length m b l=some c)∨(q=Sum.inr ()∧ET J.1.length m b l=none)) ?_ ?_
 ·refine Cl l.length (fun i s=>s=(i:Int)∧∀q,q<i→Fo J.1.length m b l q=none) ⟨rfl,fun q al=>by omega⟩ (by omega) ?_ ?_
  ·rintro i s hi ⟨rfl,O⟩;unfold JM;have hg:l.getD i 0=l[i]:=Ep hi;refine Bs (by omega) (Bl (m:=i) rfl hi ?_);refine AT ((J.1.length:Int) - 1) rfl (by omega) (by omega) (AM (Jz F _ _ _) ?_);refine Bq (fun h=>?_) (fun h=>?_)
   ·have U:=of_decide_eq_true h;exact Ak (.inl ⟨3,rfl,DZ O (by unfold Fo;rw [hg,if_pos U]) hi⟩)
   ·have U:¬(l[i]<0∨(J.1.length:Int) - 1<l[i]):=fun x=>h (decide_eq_true x);refine AB (S:=fun c=>c=decide (l[i]=m∧b=false)) ?_ ?_
    ·refine Bq (fun K=>Ak ?_) (fun K=>Ak ?_)
     ·cases b <;> simp [K]
     ·simp [K]
    ·rintro c rfl;refine Bq (fun K=>?_) (fun K=>?_)
     ·have Y:=of_decide_eq_true K;exact Ak (.inl ⟨8,rfl,DZ O (by unfold Fo;rw [hg,if_neg U,if_pos Y]) hi⟩)
     ·have Y:¬(l[i]=m∧b=false):=fun x=>K (decide_eq_true x);refine AB (S:=fun c=>c=decide (0<i∧l[i]≤l.getD (i - 1) 0)) ?_ ?_
      ·refine Bq (fun V=>?_) (fun V=>?_)
       ·have ag:i - 1<l.length:=by omega
        refine AT ((i - 1:Nat):Int) (by omega) (by omega) (by omega) (Bl (m:=i - 1) rfl ag ?_);refine Ak ?_;rw [Ep ag];exact decide_eq_decide.2 ⟨fun x=>⟨by omega,x⟩,fun x=>x.2⟩
       ·exact Ak (decide_eq_false (by omega)).symm
      ·rintro c rfl;refine Bq (fun V=>?_) (fun V=>?_)
       ·have Z:=of_decide_eq_true V;exact Ak (.inl ⟨5,rfl,DZ O (by unfold Fo;rw [hg,if_neg U,if_neg Y,if_pos Z]) hi⟩)
       ·have Z:¬(0<i∧l[i]≤l.getD (i - 1) 0):=fun x=>V (decide_eq_true x);refine AT ((i+1:Nat):Int) (by simp) (by omega) (by omega) ?_;refine Ak ⟨rfl,fun q al=>?_⟩;by_cases e:q=i
        ·subst e;unfold Fo;rw [hg,if_neg U,if_neg Y,if_neg Z]
        ·exact O q (by omega)
  ·rintro s ⟨rfl,O⟩;unfold JM;exact A7 (by omega) (Ak ⟨_,rfl,.inr ⟨rfl,F1 O⟩⟩)
 ·rintro q (⟨c,rfl,h⟩ | ⟨rfl,h⟩)
  ·exact Ak h.symm
  ·exact Ak h.symm
theorem My(F:Nat)(a lo hi:Int):f104 F a lo hi=some (decide (lo≤a∧a≤hi)):=by
 unfold f104;by_cases h:lo≤a
 ·simp [h]
 ·simp [h]
theorem VF{F:Nat}{J:JW}{m:Int}{l:List Int}(ag:100<F)(al:l.length<100)(am:J.1.length<100):f114 F J l=some (if l.length=0 then 7 else if 3<l.length then 6 else(ET J.1.length m true l).getD 0):=by
 refine C3 ?_;unfold f114;refine Bq (fun h=>?_) (fun h=>?_)
 ·rw [if_pos (show l.length=0 by omega)];exact Ak rfl
 rw [if_neg (show ¬l.length=0 by omega)];refine Bq (fun h=>?_) (fun h=>?_)
 ·rw [if_pos (show 3<l.length by omega)];exact Ak rfl
 rw [if_neg (show ¬3<l.length by omega)];refine AB (S:=fun q=>(∃c,q=Sum.inl c∧ET J.1.length m true l=some c)∨(q=Sum.inr ()∧ET J.1.length m true l=none)) ?_ ?_
 ·refine Cl l.length (fun i s=>s=(i:Int)∧∀q,q<i→Fo J.1.length m true l q=none) ⟨rfl,fun q Z=>by omega⟩ (by omega) ?_ ?_
  ·rintro i s hi ⟨rfl,K⟩;unfold Mv;have hg:l.getD i 0=l[i]:=Ep hi;refine Bs (by omega) (Bl (m:=i) rfl hi ?_);refine AT ((J.1.length:Int) - 1) rfl (by omega) (by omega) (AM (My F _ _ _) ?_);refine Bq (fun h=>?_) (fun h=>?_)
   ·have U:l[i]<0∨(J.1.length:Int) - 1<l[i]:=by simp at h;omega
    exact Ak (.inl ⟨3,rfl,DZ K (by unfold Fo;rw [hg,if_pos U]) hi⟩)
   ·have U:¬(l[i]<0∨(J.1.length:Int) - 1<l[i]):=by simp at h;omega
    refine AB (S:=fun c=>c=decide (0<i∧l[i]≤l.getD (i - 1) 0)) ?_ ?_
    ·refine Bq (fun O=>?_) (fun O=>?_)
     ·have Y:i - 1<l.length:=by omega
      refine Bl (m:=i) rfl hi (AT ((i - 1:Nat):Int) (by omega) (by omega) (by omega) ?_);refine Bl (m:=i - 1) rfl Y (Ak ?_);rw [Ep Y];exact decide_eq_decide.2 ⟨fun x=>⟨by omega,x⟩,fun x=>x.2⟩
     ·exact Ak (decide_eq_false (by omega)).symm
    ·rintro c rfl;refine Bq (fun O=>?_) (fun O=>?_)
     ·have V:=of_decide_eq_true O;exact Ak (.inl ⟨5,rfl,DZ K (by unfold Fo;rw [hg,if_neg U,if_neg (by simp),if_pos V]) hi⟩)
     ·have V:¬(0<i∧l[i]≤l.getD (i - 1) 0):=fun x=>O (decide_eq_true x);refine AT ((i+1:Nat):Int) (by simp) (by omega) (by omega) ?_;refine Ak ⟨rfl,fun q Z=>?_⟩;by_cases e:q=i
      ·subst e;unfold Fo;rw [hg,if_neg U,if_neg (by simp),if_neg V]
      ·exact K q (by omega)
  ·rintro s ⟨rfl,K⟩;unfold Mv;exact A7 (by omega) (Ak ⟨_,rfl,.inr ⟨rfl,F1 K⟩⟩)
 ·rintro q (⟨c,rfl,h⟩ | ⟨rfl,h⟩)
  ·exact Ak (by rw [h];rfl)
  ·exact Ak (by rw [h];rfl)
theorem Wp{F:Nat}{J:JW}{m:Int}{l:List Int}(am:100<F)(ap:l.length<100)(av:J.1.length<100):f115 F J m l=some (if 3<l.length then 6 else(ET J.1.length m false l).getD 0):=by
 refine C3 ?_;unfold f115;refine Bq (fun h=>?_) (fun h=>?_)
 ·rw [if_pos (show 3<l.length by omega)];exact Ak rfl
 rw [if_neg (show ¬3<l.length by omega)];refine AB (S:=fun q=>(∃c,q=Sum.inl c∧ET J.1.length m false l=some c)∨(q=Sum.inr ()∧ET J.1.length m false l=none)) ?_ ?_
 ·refine Cl l.length (fun i s=>s=(i:Int)∧∀q,q<i→Fo J.1.length m false l q=none) ⟨rfl,fun q al=>by omega⟩ (by omega) ?_ ?_
  ·rintro i s hi ⟨rfl,K⟩;unfold Mw;have hg:l.getD i 0=l[i]:=Ep hi;refine Bs (by omega) (Bl (m:=i) rfl hi ?_);refine AT ((J.1.length:Int) - 1) rfl (by omega) (by omega) (AM (My F _ _ _) ?_);refine Bq (fun h=>?_) (fun h=>?_)
   ·have O:l[i]<0∨(J.1.length:Int) - 1<l[i]:=by simp at h;omega
    exact Ak (.inl ⟨3,rfl,DZ K (by unfold Fo;rw [hg,if_pos O]) hi⟩)
   ·have O:¬(l[i]<0∨(J.1.length:Int) - 1<l[i]):=by simp at h;omega
    refine Bl (m:=i) rfl hi (Bq (fun V=>?_) (fun V=>?_))
    ·exact Ak (.inl ⟨8,rfl,DZ K (by unfold Fo;rw [hg,if_neg O,if_pos ⟨V,rfl⟩]) hi⟩)
    have Z:¬(l[i]=m∧false=false):=fun x=>V x.1;refine AB (S:=fun c=>c=decide (0<i∧l[i]≤l.getD (i - 1) 0)) ?_ ?_
    ·refine Bq (fun U=>?_) (fun U=>?_)
     ·have ag:i - 1<l.length:=by omega
      refine Bl (m:=i) rfl hi (AT ((i - 1:Nat):Int) (by omega) (by omega) (by omega) ?_);refine Bl (m:=i - 1) rfl ag (Ak ?_);rw [Ep ag];exact decide_eq_decide.2 ⟨fun x=>⟨by omega,x⟩,fun x=>x.2⟩
     ·exact Ak (decide_eq_false (by omega)).symm
    ·rintro c rfl;refine Bq (fun U=>?_) (fun U=>?_)
     ·have Y:=of_decide_eq_true U;exact Ak (.inl ⟨5,rfl,DZ K (by unfold Fo;rw [hg,if_neg O,if_neg Z,if_pos Y]) hi⟩)
     ·have Y:¬(0<i∧l[i]≤l.getD (i - 1) 0):=fun x=>U (decide_eq_true x);refine AT ((i+1:Nat):Int) (by simp) (by omega) (by omega) ?_;refine Ak ⟨rfl,fun q al=>?_⟩;by_cases e:q=i
      ·subst e;unfold Fo;rw [hg,if_neg O,if_neg Z,if_neg Y]
      ·exact K q (by omega)
  ·rintro s ⟨rfl,K⟩;unfold Mw;exact A7 (by omega) (Ak ⟨_,rfl,.inr ⟨rfl,F1 K⟩⟩)
 ·rintro q (⟨c,rfl,h⟩ | ⟨rfl,h⟩)
  ·exact Ak (by rw [h];rfl)
  ·exact Ak (by rw [h];rfl)
def Ej(J:JW)(i:Nat):Option Int:=
 if(J.1.getD i []).length=0 then some 7 else if 3<(J.1.getD i []).length then some 6 else match ET J.1.length i true (J.1.getD i []) with
  | some c=>some c
  | none=>if 3<(J.2.getD i []).length then some 6 else ET J.1.length i false (J.2.getD i [])
def CJ(J:JW):Option Int:=if J.1.length=0 then some 7 else if 8<J.1.length then some 6 else if J.2.length≠J.1.length then some 9 else(List.range J.1.length).findSome? (Ej J)
structure NL (J:JW):Prop where
 l1:J.1.length≤20
 l2:J.2.length≤20
 n1:∀l∈J.1,l.length≤20
 n2:∀l∈J.2,l.length≤20
theorem Wh{F:Nat}{J:JW}(Z:100<F)(V:NL J):A1 (f113 F J) (fun e=>e.map (·.1)=CJ J):=by
 have ap:=V.l1;unfold f113 CJ;refine Bq (fun h=>?_) (fun h=>?_)
 ·rw [if_pos (show J.1.length=0 by omega)];exact Ak rfl
 rw [if_neg (show ¬J.1.length=0 by omega)];refine Bq (fun h=>?_) (fun h=>?_)
 ·rw [if_pos (show 8<J.1.length by omega)];exact Ak rfl
 rw [if_neg (show ¬8<J.1.length by omega)];refine Bq (fun h=>?_) (fun h=>?_)
 ·rw [if_pos (show J.2.length≠J.1.length by omega)];exact Ak rfl
 rw [if_neg (show ¬J.2.length≠J.1.length by omega)];refine AB (S:=fun q=>(∃c,q=Sum.inl (some c)∧(List.range J.1.length).findSome? (Ej J)=some c.1)∨(q=Sum.inr ()∧(List.range J.1.length).findSome? (Ej J)=none)) ?_ ?_
 ·refine Cl J.1.length (fun i s=>s=(i:Int)∧∀q,q<i→Ej J q=none) ⟨rfl,fun q am=>by omega⟩ (by omega) ?_ ?_
  ·rintro i s hi ⟨rfl,K⟩;unfold Jy;have U:i<J.2.length:=by omega
   have O:J.1.getD i []=J.1[i]:=Ep hi;have g2:J.2.getD i []=J.2[i]:=Ep U;have n1:=V.n1 _ (List.getElem_mem hi);have n2:=V.n2 _ (List.getElem_mem U);refine Bs (by omega) ?_;refine Bl (m:=i) rfl hi ?_;refine Bq (fun h=>?_) (fun av=>?_)
   ·exact Ak (.inl ⟨(7,(i:Int)),rfl,DZ K (by unfold Ej;rw [O,if_pos (by omega)]) hi⟩)
   refine Bq (fun h=>?_) (fun a0=>?_)
   ·exact Ak (.inl ⟨(6,(i:Int)),rfl,DZ K (by unfold Ej;rw [O,if_neg (by omega),if_pos (by omega)]) hi⟩)
   refine AB (Rt Z (by omega) (by omega)) ?_;intro e he;refine Bq (fun h=>?_) (fun h=>?_)
   ·obtain⟨c,rfl⟩:=Option.isSome_iff_exists.1 h;refine Ak (.inl ⟨c,rfl,DZ K ?_ hi⟩);unfold Ej;rw [O,if_neg (by omega),if_neg (by omega),← he];rfl
   ·obtain rfl:e=none:=by cases e <;> simp_all
    have Y:ET J.1.length (i:Int) true J.1[i]=none:=he.symm;refine Bl (m:=i) rfl U ?_;refine Bq (fun h=>?_) (fun a1=>?_)
    ·refine Ak (.inl ⟨(6,(i:Int)),rfl,DZ K ?_ hi⟩);unfold Ej;rw [O,g2,if_neg (by omega),if_neg (by omega),Y];simp only;rw [if_pos (by omega)]
    refine Bl (m:=i) rfl U (AB (Rt Z (by omega) (by omega)) ?_);intro ag al;refine Bq (fun h=>?_) (fun h=>?_)
    ·obtain⟨c,rfl⟩:=Option.isSome_iff_exists.1 h;refine Ak (.inl ⟨c,rfl,DZ K ?_ hi⟩);unfold Ej;rw [O,g2,if_neg (by omega),if_neg (by omega),Y];simp only;rw [if_neg (by omega),← al];rfl
    ·obtain rfl:ag=none:=by cases ag <;> simp_all
     refine AT ((i+1:Nat):Int) (by simp) (by omega) (by omega) (Ak ⟨rfl,fun q am=>?_⟩);by_cases e:q=i
     ·subst e;unfold Ej;rw [O,g2,if_neg (by omega),if_neg (by omega),Y];simp only;rw [if_neg (by omega),← al];rfl
     ·exact K q (by omega)
  ·rintro s ⟨rfl,K⟩;unfold Jy;exact A7 (by omega) (Ak ⟨_,rfl,.inr ⟨rfl,F1 K⟩⟩)
 ·rintro q (⟨c,rfl,h⟩ | ⟨rfl,h⟩)
  ·exact Ak h.symm
  ·exact Ak h.symm
theorem MB{n:Nat}{m:Int}{b:Bool}{l:List Int}{c:Int}(h:ET n m b l=some c):c≠0:=by
 obtain⟨i,_,hi⟩:=List.exists_of_findSome?_eq_some h;unfold Fo at hi;split at hi
 ·cases hi;omega
 ·split at hi
  ·cases hi;omega
  ·split at hi
   ·cases hi;omega
   ·cases hi
theorem Xp{J:JW}{i:Nat}{c:Int}(h:Ej J i=some c):c≠0:=by
 unfold Ej at h;split at h
 ·cases h;omega
 ·split at h
  ·cases h;omega
  ·split at h
   ·rename_i e;cases h;exact MB e
   ·split at h
    ·cases h;omega
    ·exact MB h
theorem Te{J:JW}{c:Int}(h:CJ J=some c):c≠0:=by
 unfold CJ at h;split at h
 ·cases h;omega
 ·split at h
  ·cases h;omega
  ·split at h
   ·cases h;omega
   ·obtain⟨i,_,hi⟩:=List.exists_of_findSome?_eq_some h;exact Xp hi
theorem XQ{F:Nat}{J:JW}(ag:100<F)(V:NL J):f68 F J=some ((CJ J).getD 0):=by
 have am:=V.l1;refine C3 ?_;unfold f68 CJ;refine Bq (fun h=>?_) (fun h=>?_)
 ·rw [if_pos (show J.1.length=0 by omega)];exact Ak rfl
 rw [if_neg (show ¬J.1.length=0 by omega)];refine Bq (fun h=>?_) (fun h=>?_)
 ·rw [if_pos (show 8<J.1.length by omega)];exact Ak rfl
 rw [if_neg (show ¬8<J.1.length by omega)];refine Bq (fun h=>?_) (fun h=>?_)
 ·rw [if_pos (show J.2.length≠J.1.length by omega)];exact Ak rfl
 rw [if_neg (show ¬J.2.length≠J.1.length by omega)];refine AB (S:=fun q=>(∃c,q=Sum.inl c∧(List.range J.1.length).findSome? (Ej J)=some c)∨(q=Sum.inr ()∧(List.range J.1.length).findSome? (Ej J)=none)) ?_ ?_
 ·refine Cl J.1.length (fun i s=>s=(i:Int)∧∀q,q<i→Ej J q=none) ⟨rfl,fun q al=>by omega⟩ (by omega) ?_ ?_
  ·rintro i s hi ⟨rfl,K⟩;unfold Nb;have Y:i<J.2.length:=by omega
   have U:J.1.getD i []=J.1[i]:=Ep hi;have g2:J.2.getD i []=J.2[i]:=Ep Y;have n1:=V.n1 _ (List.getElem_mem hi);have n2:=V.n2 _ (List.getElem_mem Y);refine Bs (by omega) ?_;refine Bl (m:=i) rfl hi ?_;refine AM (VF (m:=(i:Int)) ag (by omega) (by omega)) ?_;by_cases O:J.1[i].length=0
   ·rw [if_pos O];exact Bs (by omega) (Ak (.inl ⟨7,rfl,DZ K (by unfold Ej;rw [U,if_pos O]) hi⟩))
   rw [if_neg O];by_cases c2:3<J.1[i].length
   ·rw [if_pos c2];exact Bs (by omega) (Ak (.inl ⟨6,rfl,DZ K (by unfold Ej;rw [U,if_neg O,if_pos c2]) hi⟩))
   rw [if_neg c2];cases he:ET J.1.length (i:Int) true J.1[i] with
   | some c=>
    exact Bs (MB he) (Ak (.inl ⟨c,rfl,DZ K (by unfold Ej;rw [U,if_neg O,if_neg c2,he]) hi⟩))
   | none=>
    refine A7 (by simp) (Bl (m:=i) rfl Y ?_);refine AM (Wp (m:=(i:Int)) ag (by omega) (by omega)) ?_;by_cases c3:3<J.2[i].length
    ·rw [if_pos c3];refine Bs (by omega) (Ak (.inl ⟨6,rfl,DZ K ?_ hi⟩));unfold Ej;rw [U,g2,if_neg O,if_neg c2,he];simp only;rw [if_pos c3]
    rw [if_neg c3];cases Z:ET J.1.length (i:Int) false J.2[i] with
    | some c=>
     refine Bs (MB Z) (Ak (.inl ⟨c,rfl,DZ K ?_ hi⟩));unfold Ej;rw [U,g2,if_neg O,if_neg c2,he];simp only;rw [if_neg c3,Z]
    | none=>
     refine A7 (by simp) (AT ((i+1:Nat):Int) (by simp) (by omega) (by omega) ?_);refine Ak ⟨rfl,fun q al=>?_⟩;by_cases e:q=i
     ·subst e;unfold Ej;rw [U,g2,if_neg O,if_neg c2,he];simp only;rw [if_neg c3,Z]
     ·exact K q (by omega)
  ·rintro s ⟨rfl,K⟩;unfold Nb;exact A7 (by omega) (Ak ⟨_,rfl,.inr ⟨rfl,F1 K⟩⟩)
 ·rintro q (⟨c,rfl,h⟩ | ⟨rfl,h⟩)
  ·exact Ak (by rw [h];rfl)
  ·exact Ak (by rw [h];rfl)
theorem Qb{n:Nat}{m:Int}{b:Bool}{l:List Int}(h:ET n m b l=none):HA n l∧l.Pairwise (·<·)∧(b=false→m ∉ l):=by
 have K:∀i (hi:i<l.length),¬(l[i]<0∨(n:Int) - 1<l[i])∧¬(l[i]=m∧b=false)∧¬(0<i∧l[i]≤l.getD (i - 1) 0):=fun i hi=>by
  have:=List.findSome?_eq_none_iff.1 h i (List.mem_range.2 hi);unfold Fo at this;rw [Ep hi] at this;split at this
  ·cases this
  ·split at this
   ·cases this
   ·split at this
    ·cases this
    ·rename_i U V Y;exact⟨U,V,Y⟩
 refine⟨fun x Z=>?_,?_,fun hb hm=>?_⟩
 ·obtain⟨i,hi,rfl⟩:=List.mem_iff_getElem.1 Z;have:=(K i hi).1;omega
 ·have step:∀i (hi:i+1<l.length),l[i]<l[i+1]:=fun i hi=>by
   have:=(K (i+1) hi).2.2;rw [show i+1 - 1=i by omega,Ep (by omega)] at this;omega
  rw [List.pairwise_iff_getElem];intro i j hi ap av;have key:∀k (O:i+1+k<l.length),l[i]<l[i+1+k]:=fun k=>by
   induction k with
   | zero=>intro O;exact step i O
   | succ k ag=>intro O;have al:=ag (by omega);have am:=step (i+1+k) (by omega);exact Int.lt_trans al am
  have:=key (j - i - 1) (by omega);simpa [show i+1+(j - i - 1)=j by omega] using this
 ·obtain⟨i,hi,e⟩:=List.mem_iff_getElem.1 hm;exact(K i hi).2.1 ⟨e,hb⟩
theorem VU{J:JW}(h:CJ J=none):VJ J.1.length J:=by
 unfold CJ at h;split at h
 ·cases h
 rename_i av;split at h
 ·cases h
 rename_i a0;split at h
 ·cases h
 rename_i a1;have O:∀i,i<J.1.length→(J.1.getD i []).length≠0∧(J.1.getD i []).length≤3∧ET J.1.length i true (J.1.getD i [])=none∧(J.2.getD i []).length≤3∧ET J.1.length i false (J.2.getD i [])=none:=fun i hi=>by
  have:=List.findSome?_eq_none_iff.1 h i (List.mem_range.2 hi);unfold Ej at this;split at this
  ·cases this
  ·split at this
   ·cases this
   ·split at this
    ·cases this
    ·rename_i ag a2 _ al;split at this
     ·cases this
     ·rename_i a3;exact⟨ag,by omega,al,by omega,this⟩
 refine⟨by omega,by omega,rfl,by omega,fun i l K=>?_,fun i l K=>?_⟩
 ·have hi:=(List.getElem?_eq_some_iff.1 K).1;obtain⟨am,U,V,_,_⟩:=O i hi;have e:J.1.getD i []=l:=by rw [List.getD_eq_getElem?_getD,K];rfl
  rw [e] at am U V;obtain⟨v1,v2,_⟩:=Qb V;exact⟨⟨U,v1,v2⟩,by omega⟩
 ·have hi:i<J.1.length:=by have:=(List.getElem?_eq_some_iff.1 K).1;omega
  obtain⟨_,_,_,Y,Z⟩:=O i hi;have e:J.2.getD i []=l:=by rw [List.getD_eq_getElem?_getD,K];rfl
  rw [e] at Y Z;obtain⟨v1,v2,ap⟩:=Qb Z;exact⟨⟨Y,v1,v2⟩,ap rfl⟩
end Pal
namespace Pal
theorem Yg{F n a m:Nat}{J:JW}{due K:List Bool}(a3:100<F)(V:VJ n J)(a0:HX J n a due)(hm:m<n)(ag:K.length=n):
  A1 (iter (JH F J due (K,(m:Int))) F (K,0)) (fun r=>r.length=n∧∀x:Nat,x<n→(r[x]? =some true↔K[x]? =some true∨((AG J a).testBit m=true∧(x:Int)∈J.1.getD m []))):=by
 have a4:=V.l1;have a5:=V.le;have O:m<J.1.length:=by omega
 obtain⟨al,a6⟩:=V.nx m _ (List.getElem?_eq_getElem O);have hlen:=al.len;have a1:J.1.getD m []=J.1[m]:=Ep O;have am:=a0.2 m hm;cases ap:(AG J a).testBit m with
 | false=>
  refine Cl 0 (fun i st=>st=(K,0)) rfl (by omega) (fun i st hi=>by omega) ?_;rintro st rfl;unfold JH;refine Bl (m:=m) rfl O (AB (S:=fun c=>c=false) ?_ ?_)
  ·refine Bq (fun h=>?_) (fun h=>Ak rfl);exact AM (D3 (m:=m) rfl am) (Ak ap)
  ·rintro c rfl;refine A7 (by simp) (Ak ⟨_,rfl,ag,fun x U=>?_⟩);simp
 | true=>
  refine Cl J.1[m].length (fun i st=>∃nx:List Bool,st=(nx,(i:Int))∧nx.length=n∧∀x:Nat,x<n→(nx[x]? =some true↔K[x]? =some true∨(x:Int)∈J.1[m].take i)) ⟨K,rfl,ag,fun x U=>by simp⟩ (by omega) ?_ ?_
  ·rintro i st hi ⟨nx,rfl,Y,Z⟩;unfold JH;refine Bl (m:=m) rfl O (AB (S:=fun c=>c=true) ?_ ?_)
   ·refine Bs (by simp only;omega) (AM (D3 (m:=m) rfl am) ?_);exact Ak ap
   ·rintro c rfl;refine Bs rfl (Bl (m:=m) rfl O ?_);refine Bl (m:=i) rfl hi ?_;have U:=al.inr J.1[m][i] (List.getElem_mem hi);have av:J.1[m][i].toNat<nx.length:=by omega
    refine Bl (m:=J.1[m][i].toNat) (show J.1[m][i]=_ by omega) av (AT ((i+1:Nat):Int) (by simp) (by omega) (by omega) ?_);refine Ak ⟨nx.set J.1[m][i].toNat true,rfl,by simpa using Y,fun x a2=>?_⟩;rw [VK av,Z x a2,List.take_add_one,List.getElem?_eq_getElem hi];simp only [Option.toList_some,List.mem_append,List.mem_singleton];rw [or_assoc];refine or_congr Iff.rfl (or_congr Iff.rfl ⟨fun h=>by omega,fun h=>by omega⟩)
  ·rintro st ⟨nx,rfl,Y,Z⟩;unfold JH;refine Bl (m:=m) rfl O (AB (S:=fun c=>c=false) (A7 (by simp) (Ak rfl)) ?_);rintro c rfl;refine A7 (by simp) (Ak ⟨_,rfl,Y,fun x U=>?_⟩);rw [Z x U,List.take_length,a1];simp
theorem WZ{F n a:Nat}{J:JW}{due:List Bool}(ag:100<F)(Y:VJ n J)(Z:HX J n a due):A1 (f119 F J due) (HX J n (a+1)):=by
 have a2:=Y.le;have al:=Z.1;unfold f119;refine AM (b:=List.replicate n false) ?_ ?_
 ·unfold F3;rw [if_pos (by omega),al];rfl
 refine AB (S:=HX J n (a+1)) ?_ (fun r am=>Ak am);refine Cl n (fun k st=>∃nx:List Bool,st=(nx,(k:Int))∧PH J n a k nx) ⟨_,rfl,by simp,fun x U=>?_⟩ (by omega) ?_ ?_
 ·rw [List.getElem?_replicate,if_pos U];simp
 ·rintro k st ap ⟨nx,rfl,V⟩;unfold MI;refine Bs (by simp only;omega) (AB (Yg (m:=k) ag Y Z ap V.1) ?_);rintro av ⟨a0,g2⟩;refine AT ((k+1:Nat):Int) (by simp) (by omega) (by omega) (Ak ⟨av,rfl,a0,fun x U=>?_⟩);rw [g2 x U,V.2 x U];constructor
  ·rintro(⟨m,a1,K,O⟩ | ⟨K,O⟩)
   ·exact⟨m,by omega,K,O⟩
   ·exact⟨k,by omega,K,O⟩
  ·rintro⟨m,a1,K,O⟩;rcases Nat.lt_or_ge m k with h | h
   ·exact .inl ⟨m,h,K,O⟩
   ·obtain rfl:m=k:=by omega
    exact .inr ⟨K,O⟩
 ·rintro st ⟨nx,rfl,V⟩;unfold MI;exact A7 (by simp only;omega) (Ak ⟨_,rfl,V.due Y⟩)
theorem aT{n:Nat}{J:JW}(K:0<n):HX J n 0 ((List.replicate n false).set 0 true):=by
 refine⟨by simp,fun m hm=>?_⟩;by_cases e:m=0
 ·subst e;rw [List.getElem?_set_self (by simpa using hm)];exact congrArg some (show true=(1:Nat).testBit 0 by decide)
 ·rw [List.getElem?_set_ne (by omega),List.getElem?_replicate,if_pos hm];have:(AG J 0).testBit m=false:=by
   show(1:Nat).testBit m=false;have:=Nat.testBit_two_pow_of_ne (n:=0) (m:=m) (by omega);simpa using this
  rw [this]
theorem ZP{F n a:Nat}{J:JW}(V:100<F)(K:VJ n J)(al:a<13):A1 (f82 F J (a:Int)) (HX J n a):=by
 have am:=K.le;have U:=K.pos;have Y:=K.l1;unfold f82;refine AM (b:=List.replicate n false) ?_ ?_
 ·unfold F3;rw [if_pos (by omega),Y];rfl
 refine Bl (m:=0) rfl (by simpa using U) (AB (S:=HX J n a) ?_ (fun r Z=>Ak Z));refine Cl a (fun i st=>∃d:List Bool,st=(d,(i:Int))∧HX J n i d) ⟨_,rfl,aT U⟩ (by omega) ?_ ?_
 ·rintro i st hi ⟨d,rfl,O⟩;unfold MP;refine Bs (by simp only;omega) (AB (WZ V K O) ?_);intro d2 ag;exact AT ((i+1:Nat):Int) (by simp) (by omega) (by omega) (Ak ⟨d2,rfl,ag⟩)
 ·rintro st ⟨d,rfl,O⟩;unfold MP;exact A7 (by simp) (Ak ⟨_,rfl,O⟩)
theorem SL{F:Nat}{l:List (List Int)}(ag:100<F)(al:l.length≤20)(U:∀x∈l,x.length≤20):f77 F l=some l:=by
 refine C3 ?_;unfold f77;refine AM (b:=List.replicate l.length []) ?_ ?_
 ·unfold F3;rw [if_pos (by omega)];rfl
 refine AB (S:=fun r=>r=l) ?_ (fun r V=>Ak V);refine Cl l.length (fun i s=>s.2=(i:Int)∧s.1=l.take i++List.replicate (l.length - i) []) ⟨rfl,by simp⟩ (by omega) ?_ ?_
 ·rintro i ⟨o,c⟩ hi ⟨K,O⟩;simp only at K O;subst K;subst O;unfold MQ;refine Bs (by simp only;omega) (Bl (m:=i) rfl hi ?_);refine AM (b:=l[i]) ?_ ?_
  ·unfold f108;have:CF ([]:List Int) l[i]=some l[i]:=by unfold CF;rw [if_pos (by have:=U _ (List.getElem_mem hi);simp;omega)];rfl
   rw [this];rfl
  have Y:(l.take i).length=i:=by rw [List.length_take];omega
  refine Bl (m:=i) rfl (by simp;omega) (AT ((i+1:Nat):Int) (by simp) (by omega) (by omega) ?_);refine Ak ⟨rfl,?_⟩;simp only;rw [show Int.toNat (i:Int)=i by omega,List.set_append,if_neg (by omega),Y,Nat.sub_self];obtain⟨k,Z⟩:∃k,l.length - i=k+1:=⟨l.length - i - 1,by omega⟩;rw [Z,List.replicate_succ,List.set_cons_zero,List.take_add_one,List.getElem?_eq_getElem hi,show l.length - (i+1)=k by omega];simp only [Option.toList_some,List.append_assoc,List.cons_append,List.nil_append]
 ·rintro⟨o,c⟩ ⟨K,O⟩;simp only at K O;subst K;subst O;unfold MQ;exact A7 (by simp) (Ak ⟨_,rfl,by simp⟩)
theorem ZG{F:Nat}{J:JW}(O:100<F)(K:NL J):f26 F J=some J:=by
 unfold f26;rw [SL O K.l1 K.n1,Option.bind_some,SL O K.l2 K.n2];rfl
theorem Zb{F:Nat}{l:List Int}(K:100<F)(O:l.length≤20):f32 F l l=some true:=by
 refine C3 ?_;unfold f32;refine AB (S:=fun q=>q=Sum.inr ()) ?_ (by rintro q rfl;exact Ak (by simp));refine Cl l.length (fun i s=>s=(i:Int)) rfl (by omega) ?_ ?_
 ·rintro i s hi rfl;unfold Nl;refine AB (S:=fun c=>c=true) (Bs (by omega) (Ak (decide_eq_true (by omega)))) ?_;rintro c rfl;refine Bs rfl (Bl (m:=i) rfl hi ?_);refine Bl (m:=i) rfl hi (A7 (by simp) ?_);exact AT ((i+1:Nat):Int) (by simp) (by omega) (by omega) (Ak rfl)
 ·rintro s rfl;unfold Nl;refine AB (S:=fun c=>c=false) (A7 (by omega) (Ak rfl)) ?_;rintro c rfl;exact A7 (by simp) (Ak ⟨_,rfl,rfl⟩)
theorem SI{F:Nat}{l:List (List Int)}(K:100<F)(U:l.length≤20)(O:∀x∈l,x.length≤20):f84 F l l=some true:=by
 refine C3 ?_;unfold f84;refine AB (S:=fun q=>q=Sum.inr ()) ?_ (by rintro q rfl;exact Ak (by simp));refine Cl l.length (fun i s=>s=(i:Int)) rfl (by omega) ?_ ?_
 ·rintro i s hi rfl;unfold M1;refine AB (S:=fun c=>c=true) (Bs (by omega) (Ak (decide_eq_true (by omega)))) ?_;rintro c rfl;refine Bs rfl (Bl (m:=i) rfl hi ?_);refine Bl (m:=i) rfl hi (AM (Zb K (O _ (List.getElem_mem hi))) ?_);refine A7 (by simp) (AT ((i+1:Nat):Int) (by simp) (by omega) (by omega) ?_);exact Ak rfl
 ·rintro s rfl;unfold M1;refine AB (S:=fun c=>c=false) (A7 (by omega) (Ak rfl)) ?_;rintro c rfl;exact A7 (by simp) (Ak ⟨_,rfl,rfl⟩)
theorem YD{F:Nat}{J:JW}(O:100<F)(K:NL J):f33 F J J=some true:=by
 refine C3 ?_;unfold f33;refine AM (SI O K.l1 K.n1) (AB (S:=fun c=>c=true) (Bs rfl (AM (SI O K.l2 K.n2) (Ak rfl))) ?_);rintro c rfl;exact Ak rfl
theorem VJ.nl{n:Nat}{J:JW}(K:VJ n J):NL J:=by
 have U:=K.l1;have V:=K.l2;have Y:=K.le;refine⟨by omega,by omega,fun l O=>?_,fun l O=>?_⟩
 ·obtain⟨i,hi,rfl⟩:=List.mem_iff_getElem.1 O;have:=(K.nx i _ (List.getElem?_eq_getElem hi)).1.len;omega
 ·obtain⟨i,hi,rfl⟩:=List.mem_iff_getElem.1 O;have:=(K.fl i _ (List.getElem?_eq_getElem hi)).1.len;omega
theorem SX{F:Nat}{l:List (List Int)}(Z:100<F):A1 (f76 F l) (fun r=>r=false→l.length≤20∧∀x∈l,x.length≤20):=by
 unfold f76;refine AB (S:=fun q=>q=Sum.inl true∨(q=Sum.inr ()∧∀x∈l.take 20,x.length≤20)) ?_ ?_
 ·refine Cl (min l.length 20) (fun i s=>s=(i:Int)∧∀x∈l.take i,x.length≤20) ⟨rfl,by simp⟩ (by omega) ?_ ?_
  ·rintro i s hi ⟨rfl,O⟩;have U:i<l.length:=by omega
   unfold M8;refine AB (S:=fun c=>c=true) (Bs (by omega) (Ak (decide_eq_true (by omega)))) ?_;rintro c rfl;refine Bs rfl (Bl (m:=i) rfl U ?_);refine Bq (fun h=>Ak (.inl rfl)) (fun h=>?_);refine AT ((i+1:Nat):Int) (by simp) (by omega) (by omega) (Ak ⟨rfl,fun x K=>?_⟩);rw [List.take_add_one,List.getElem?_eq_getElem U] at K;simp only [Option.toList_some,List.mem_append,List.mem_singleton] at K;rcases K with K | rfl
   ·exact O x K
   ·omega
  ·rintro s ⟨rfl,O⟩;unfold M8;refine AB (S:=fun c=>c=false) (Bq (fun h=>Ak (decide_eq_false (by omega))) (fun _=>Ak rfl)) ?_;rintro c rfl;refine A7 (by simp) (Ak ⟨_,rfl,.inr ⟨rfl,fun x K=>O x ?_⟩⟩);rcases Nat.lt_or_ge l.length 20 with h | h
   ·rw [Nat.min_eq_left (by omega),List.take_length];exact List.mem_of_mem_take K
   ·rw [Nat.min_eq_right h];exact K
 ·rintro q (rfl | ⟨rfl,h⟩)
  ·exact Ak fun h=>by cases h
  ·refine Ak fun Y=>?_;have:=of_decide_eq_false Y;have V:l.length≤20:=by omega
   rw [List.take_of_length_le V] at h;exact⟨V,h⟩
theorem YF{F:Nat}{J:JW}(O:100<F):A1 (f21 F J) (fun r=>r=false→NL J):=by
 unfold f21;refine AB (SX O) ?_;intro r U;refine AB (S:=fun c=>c=false→NL J) ?_ (fun c V=>Ak V);refine Bq (fun h=>Ak fun K=>(by cases K)) (fun h=>?_);obtain⟨Y,g2⟩:=U (by simpa using h);refine AB (SX O) ?_;intro q Z;refine Ak fun K=>?_;obtain⟨ag,al⟩:=Z K;exact⟨Y,ag,g2,al⟩
theorem YO{F k:Nat}{b:Fi}{J:JW}(O:100<F)(Z:NL J)(hb:BG k b)(U:k<100):A1 (f24 F J b) (fun r=>(∃n K,VJ n K∧r.1= [J,K,K])∧BG (k+301) r.2):=by
 unfold f24;refine AB (Z2 (mx:=7) O hb U (by omega) (by omega)) ?_;rintro⟨K,ag⟩ ⟨⟨n,_,V⟩,Y⟩;exact Ak ⟨⟨n,K,V,rfl⟩,Y⟩
end Pal
namespace Pal
theorem Rc(F:Nat)(e:Option (Int×Int)):Ln F e=some ((e.map (·.1)).getD 0):=by
 cases e with
 | none=>
  have:=Qj F;unfold Lm at this;exact this
 | some q=>rfl
theorem Ud{s n:Nat}(h:s<2 ^ n)(d:Nat):CB s (n+d)=CB s n:=by
 induction d with
 | zero=>rfl
 | succ d K=>
  rw [← Nat.add_assoc,N8,if_neg,K];have:s<2 ^ (n+d):=Nat.lt_of_lt_of_le h (Nat.pow_le_pow_right (by omega) (by omega));rw [Nat.testBit_lt_two_pow this];decide
def Fh(n:Nat)(lk:List (Int×Int))(i:Nat):Option Int:=
 if(lk.getD i (0,0)).1<0∨6<(lk.getD i (0,0)).1 then some 1 else if 0<i∧(lk.getD i (0,0)).1<(lk.getD (i - 1) (0,0)).1 then some 5 else if(lk.getD i (0,0)).2<0∨(n:Int) - 1<(lk.getD i (0,0)).2 then some 3 else none
def HS(n:Nat)(lk:List (Int×Int)):Option Int:=if 4<lk.length then some 6 else(List.range lk.length).findSome? (Fh n lk)
def CL(J:JW)(lk:List (Int×Int)):Int:=match CJ J with | some c=>c | none=>(HS J.1.length lk).getD 0
theorem Vz{F:Nat}{J:JW}{lk:List (Int×Int)}(am:100<F)(ap:J.1.length<100):A1 (f116 F J lk) (fun e=>e.map (·.1)=HS J.1.length lk):=by
 unfold f116 HS;refine Bq (fun h=>?_) (fun h=>?_)
 ·rw [if_pos (by omega)];exact Ak rfl
 rw [if_neg (by omega)];refine AB (S:=fun q=>(∃c,q=Sum.inl (some c)∧(List.range lk.length).findSome? (Fh J.1.length lk)=some c.1)∨(q=Sum.inr ()∧(List.range lk.length).findSome? (Fh J.1.length lk)=none)) ?_ ?_
 ·refine Cl lk.length (fun i s=>s=(i:Int)∧∀q,q<i→Fh J.1.length lk q=none) ⟨rfl,fun q al=>by omega⟩ (by omega) ?_ ?_
  ·rintro i s hi ⟨rfl,K⟩;unfold Jw;have hg:lk.getD i (0,0)=lk[i]:=Ep hi;refine Bs (by omega) (Bl (m:=i) rfl hi ?_);refine AM (Jz F _ _ _) (Bq (fun h=>?_) (fun h=>?_))
   ·have O:=of_decide_eq_true h;exact Ak (.inl ⟨(1,(i:Int)),rfl,DZ K (by unfold Fh;rw [hg,if_pos O]) hi⟩)
   have O:¬(lk[i].1<0∨6<lk[i].1):=fun x=>h (decide_eq_true x);refine AB (S:=fun c=>c=decide (0<i∧lk[i].1<(lk.getD (i - 1) (0,0)).1)) ?_ ?_
   ·refine Bq (fun U=>?_) (fun U=>?_)
    ·have ag:i - 1<lk.length:=by omega
     refine AT ((i - 1:Nat):Int) (by omega) (by omega) (by omega) (Bl (m:=i - 1) rfl ag ?_);refine Ak ?_;rw [Ep ag];exact decide_eq_decide.2 ⟨fun x=>⟨by omega,x⟩,fun x=>x.2⟩
    ·exact Ak (decide_eq_false (by omega)).symm
   ·rintro c rfl;refine Bq (fun U=>?_) (fun U=>?_)
    ·have V:=of_decide_eq_true U;exact Ak (.inl ⟨(5,(i:Int)),rfl,DZ K (by unfold Fh;rw [hg,if_neg O,if_pos V]) hi⟩)
    have V:¬(0<i∧lk[i].1<(lk.getD (i - 1) (0,0)).1):=fun x=>U (decide_eq_true x);refine AT ((J.1.length:Int) - 1) rfl (by omega) (by omega) ?_;refine AM (Jz F _ _ _) ?_;refine Bq (fun Y=>?_) (fun Y=>?_)
    ·have Z:=of_decide_eq_true Y;exact Ak (.inl ⟨(3,(i:Int)),rfl,DZ K (by unfold Fh;rw [hg,if_neg O,if_neg V,if_pos Z]) hi⟩)
    have Z:¬(lk[i].2<0∨(J.1.length:Int) - 1<lk[i].2):=fun x=>Y (decide_eq_true x);refine AT ((i+1:Nat):Int) (by simp) (by omega) (by omega) ?_;refine Ak ⟨rfl,fun q al=>?_⟩;by_cases e:q=i
    ·subst e;unfold Fh;rw [hg,if_neg O,if_neg V,if_neg Z]
    ·exact K q (by omega)
  ·rintro s ⟨rfl,K⟩;unfold Jw;exact A7 (by omega) (Ak ⟨_,rfl,.inr ⟨rfl,F1 K⟩⟩)
 ·rintro q (⟨c,rfl,h⟩ | ⟨rfl,h⟩)
  ·exact Ak h.symm
  ·exact Ak h.symm
theorem Mp{F:Nat}{J:JW}{lk:List (Int×Int)}(K:100<F)(O:NL J):Hx F J lk=some (CL J lk):=by
 have Y:=O.l1;refine C3 ?_;unfold Hx CL;refine AB (Wh K O) ?_;intro e he;rw [← he];cases e with
 | some q=>
  exact Bs rfl (AM (Rc F _) (Ak rfl))
 | none=>
  refine A7 (by simp) (AB (Vz K (by omega)) ?_);intro U V;refine AM (Rc F _) (Ak ?_);show(U.map (·.1)).getD 0=(HS J.1.length lk).getD 0;rw [V]
theorem R6{F:Nat}{J:JW}{lk:List (Int×Int)}(am:100<F)(ag:NL J):f70 F J lk=some (CL J lk):=by
 have av:=ag.l1;refine C3 ?_;unfold f70 CL;refine AM (XQ am ag) ?_;cases h:CJ J with
 | some c=>exact Bs (Te h) (Ak rfl)
 | none=>
  refine A7 (by simp) ?_;unfold HS;refine Bq (fun h=>?_) (fun h=>?_)
  ·simp only;rw [if_pos (by omega)];exact Ak rfl
  simp only;rw [if_neg (show ¬4<lk.length by omega)];refine AB (S:=fun q=>(∃c,q=Sum.inl c∧(List.range lk.length).findSome? (Fh J.1.length lk)=some c)∨(q=Sum.inr ()∧(List.range lk.length).findSome? (Fh J.1.length lk)=none)) ?_ ?_
  ·refine Cl lk.length (fun i s=>s=(i:Int)∧∀q,q<i→Fh J.1.length lk q=none) ⟨rfl,fun q ap=>by omega⟩ (by omega) ?_ ?_
   ·rintro i s hi ⟨rfl,K⟩;unfold M7;have hg:lk.getD i (0,0)=lk[i]:=Ep hi;refine Bs (by omega) (Bl (m:=i) rfl hi ?_);refine AM (My F _ _ _) (Bq (fun h=>?_) (fun h=>?_))
    ·have O:lk[i].1<0∨6<lk[i].1:=by simp at h;omega
     exact Ak (.inl ⟨1,rfl,DZ K (by unfold Fh;rw [hg,if_pos O]) hi⟩)
    have O:¬(lk[i].1<0∨6<lk[i].1):=by simp at h;omega
    refine AB (S:=fun c=>c=decide (0<i∧lk[i].1<(lk.getD (i - 1) (0,0)).1)) ?_ ?_
    ·refine Bq (fun U=>?_) (fun U=>?_)
     ·have al:i - 1<lk.length:=by omega
      refine Bl (m:=i) rfl hi (AT ((i - 1:Nat):Int) (by omega) (by omega) (by omega) ?_);refine Bl (m:=i - 1) rfl al (Ak ?_);rw [Ep al];exact decide_eq_decide.2 ⟨fun x=>⟨by omega,x⟩,fun x=>x.2⟩
     ·exact Ak (decide_eq_false (by omega)).symm
    ·rintro c rfl;refine Bq (fun U=>?_) (fun U=>?_)
     ·have V:=of_decide_eq_true U;exact Ak (.inl ⟨5,rfl,DZ K (by unfold Fh;rw [hg,if_neg O,if_pos V]) hi⟩)
     have V:¬(0<i∧lk[i].1<(lk.getD (i - 1) (0,0)).1):=fun x=>U (decide_eq_true x);refine Bl (m:=i) rfl hi ?_;refine AT ((J.1.length:Int) - 1) rfl (by omega) (by omega) ?_;refine AM (My F _ _ _) ?_;refine Bq (fun Y=>?_) (fun Y=>?_)
     ·have Z:lk[i].2<0∨(J.1.length:Int) - 1<lk[i].2:=by simp at Y;omega
      exact Ak (.inl ⟨3,rfl,DZ K (by unfold Fh;rw [hg,if_neg O,if_neg V,if_pos Z]) hi⟩)
     have Z:¬(lk[i].2<0∨(J.1.length:Int) - 1<lk[i].2):=by simp at Y;omega
     refine AT ((i+1:Nat):Int) (by simp) (by omega) (by omega) (Ak ⟨rfl,fun q ap=>?_⟩);by_cases e:q=i
     ·subst e;unfold Fh;rw [hg,if_neg O,if_neg V,if_neg Z]
     ·exact K q (by omega)
   ·rintro s ⟨rfl,K⟩;unfold M7;exact A7 (by omega) (Ak ⟨_,rfl,.inr ⟨rfl,F1 K⟩⟩)
  ·rintro q (⟨c,rfl,h⟩ | ⟨rfl,h⟩)
   ·rw [h];exact Ak rfl
   ·rw [h];exact Ak rfl
theorem Ss{F:Nat}{lk:List (Int×Int)}(K:100<F)(O:lk.length≤20):f34 F lk lk=some true:=by
 refine C3 ?_;unfold f34;refine AB (S:=fun q=>q=Sum.inr ()) ?_ (by rintro q rfl;exact Ak (by simp));refine Cl lk.length (fun i s=>s=(i:Int)) rfl (by omega) ?_ ?_
 ·rintro i s hi rfl;unfold M0;refine AB (S:=fun c=>c=true) (Bs (by omega) (Ak (decide_eq_true (by omega)))) ?_;rintro c rfl;refine Bs rfl (Bl (m:=i) rfl hi ?_);refine Bl (m:=i) rfl hi (A7 (by simp) ?_);exact AT ((i+1:Nat):Int) (by simp) (by omega) (by omega) (Ak rfl)
 ·rintro s rfl;unfold M0;refine AB (S:=fun c=>c=false) (A7 (by omega) (Ak rfl)) ?_;rintro c rfl;exact A7 (by simp) (Ak ⟨_,rfl,rfl⟩)
theorem SO{F:Nat}{lk:List (Int×Int)}(K:lk.length<1000):f27 F lk=some lk:=by
 unfold f27 CF;rw [if_pos (by simp;omega)]
 rfl
end Pal
namespace Pal
open Go Go.Conc
theorem MS{P:Program}{J:Judge P}{Q:Goroutine→St→Prop}{b:Frame}{n:Nat}{ds:List Deferred}{ops:Array Oper}{k:List Item}{cs:List Frame}{m fuel:Nat}{D:Nat→Bool}{listed:Array Bool}{L L':Env}{s:St}(k':AU J Q b n ds ops k cs m D fuel listed L' s)(h:G3 L L'=G4 L'):AU J Q b n ds ops k cs m D fuel listed L s:=CE (M6 h) k'
def Hz{α:Type}(p:Rp α):Rp (List α):=⟨1,fun E ws xs=>(xs= []∧ws= [.slice none 0 0])∨(xs≠ []∧(rL p).r E ws xs),
 fun hle h=>h.imp id fun h=>⟨h.1,(rL p).Ah hle h.2⟩,fun h=>by
  rcases h with⟨_,rfl⟩ | ⟨_,h⟩
  ·rfl
  ·exact(rL p).len h,fun h w hw=>by
  rcases h with⟨_,rfl⟩ | ⟨_,h⟩
  ·simp at hw;subst hw;rfl
  ·exact(rL p).one h w hw⟩
theorem SR{α:Type}{p:Rp α}{E:LH}{ws:List Value}{xs:List α}(h:(Hz p).r E ws xs):(rL p).r E ws xs:=by
 rcases h with⟨rfl,rfl⟩ | ⟨_,h⟩
 ·exact⟨none,0,rfl,Al.nil⟩
 ·exact h
theorem Al.aZ{α:Type}{p:Rp α}{E:LH}{a:Option Addr}{c:Nat}{xs:List (List α)}(h:Al (Hz p) E a c xs):Al (rL p) E a c xs:=by
 obtain⟨K,h⟩:=h;refine⟨K,h.imp id ?_⟩;rintro⟨bk,off,O,U⟩;refine⟨bk,off,O,fun i x V=>?_⟩;obtain⟨ws,Y,Z⟩:=U i x V;exact⟨ws,SR Y,Z⟩
def Ly{α:Type}(xs:List α):Option Unit:=if xs= [] then some () else none
def NS{α:Type}(xs:List α):Option Unit:=if xs= [] then none else some ()
theorem Vf{α:Type}{xs:List α}{u:Unit}(h:Ly xs=some u):xs= []:=by
 unfold Ly at h;split at h
 ·assumption
 ·cases h
theorem VC{α:Type}{xs:List α}{u:Unit}(h:NS xs=some u):xs≠ []:=by
 unfold NS at h;split at h
 ·cases h
 ·assumption
instance {α:Type} [DecidableEq α] (xs:List α):Decidable (xs= []):=inferInstance
theorem Va{f:Array Value}{y:Nat}{v w:Value}(h:y<f.size):A0 (A0 f y [v]) (y*1) [w]=A0 f y [w]:=by
 simp [A0]
theorem WQ{f:Array Value}{y:Nat}{v:Value}(h:y<f.size):(A0 f y [v])[y*1]? =some v:=by
 simp [A0,h]
theorem Yk{f:Array Value}{y z:Nat}{v:Value}(h:z≠y):(A0 f y [v])[z]? =f[z]? :=by
 simp only [A0];exact Array.getElem?_setIfInBounds_ne (by omega)
theorem OL.hole{α:Type}{e:TypeId}{pp:Rp α}{E:LH}{a:Option Addr}{c:Nat}{g:Seg}{xs:List (List α)}{m:Int}{x:List α}{u:Unit}(h:OL e (Hz pp) E a c g xs)(hm:ix xs m=some x)(Y:Ly x=some u):
  ∃bk f,a=some ⟨bk,0,none⟩∧g= [(bk,.cells (A0 f m.toNat [.slice none 0 0]) e (0,0))]∧m.toNat<f.size∧OL e (Hz pp) E (some ⟨bk,0,none⟩) c [(bk,.cells f e (0,0))] xs∧
   ∀E' x' v,Le E E'→x'≠ []→(rL pp).r E' [v] x'→OL e (Hz pp) E' (some ⟨bk,0,none⟩) c [(bk,.cells (A0 f m.toNat [v]) e (0,0))] (xs.set m.toNat x'):=by
 have Z:=Vf Y;subst Z;obtain⟨K,rfl,ag⟩:=Gy hm;obtain⟨bk,f,ws,rfl,rfl,al,O,am,_⟩:=OL.get h ag;have U:(Hz pp).n=1:=rfl;rw [U] at O am;have ap:ws= [.slice none 0 0]:=by
  rcases al with⟨_,h⟩ | ⟨h,_⟩
  ·exact h
  ·exact absurd rfl h
 subst ap;have av:f[K]? =some (.slice none 0 0):=by have:=O 0 _ rfl;simpa using this
 have a0:A0 f K [.slice none 0 0]=f:=by
  simp only [A0];apply Array.ext_getElem?;intro j;by_cases V:K=j
  ·subst V;rw [Array.getElem?_setIfInBounds_self_of_lt (by omega),av]
  ·rw [Array.getElem?_setIfInBounds_ne V]
 refine⟨bk,f,rfl,?_,by simp;omega,h,fun E' x' v hle a1 a2=>?_⟩
 ·rw [show((K:Int)).toNat=K by omega,a0]
 ·obtain⟨a4,_,_,_,a3⟩:=OL.again (h.Ah hle) hm (o:=K*1) (by simp [U]);have:=a3 x' [v] (.inr ⟨a1,a2⟩);simpa using this
theorem OL.beside{α:Type}{e:TypeId}{pp:Rp α}{E:LH}{bk c:Nat}{f:Array Value}{xs:List (List α)}{m z:Int}{x:List α}(h:OL e (Hz pp) E (some ⟨bk,0,none⟩) c [(bk,.cells f e (0,0))] xs){Y:List α}(hm:ix xs m=some Y)(K:As (m+1)=some z)(Z:ix xs z=some x):
  ∃O U,Al pp E O U x∧∀(v:Value) (q:Nat) w,[Value.slice O x.length U][q]? =some w→(A0 f m.toNat [v])[z.toNat*1+q]? =some w:=by
 obtain⟨ws,ag,al,_,_⟩:=OL.again h Z rfl;obtain⟨O,U,rfl,am⟩:=SR ag;refine⟨O,U,am,fun v q w V=>?_⟩;obtain⟨ap,rfl,_⟩:=Gy hm;have av:z=(ap:Int)+1:=by
  unfold As at K;split at K
  ·exact(Option.some.inj K).symm
  ·cases K
 cases q with
 | zero=>
  rw [Yk (by omega)];exact al 0 w V
 | succ q=>simp at V
section
variable {P:Program}{J:Judge P}{Q:Goroutine→St→Prop}{b:Frame}{n:Nat}{L L':Env}{ds:List Deferred}{k:List Item}{cs:List Frame}{s:St}{ops:Array Oper}{E H:LH}{S:List Seg}{i:Nat}{rest:List Nat}
variable {d:Option Tmp}{x y:Operand}{t u ty e:TypeId}{p:String}{af:Array Edge}{g:Option (Nat×Bool)}{v w:Value}
theorem YN{bk o:Nat}{f:Array Value}(j:Nat)(O:o<f.size)(U:Av E H S)(V:BC P t=some 1)(Y:EC b n L ops i=some ⟨d,.store t x y,ty,p,af,g⟩)
  (Z:ev L x=some (.pointer (some ⟨bk,o*1,none⟩))) (ag:ev L y=some v) (al:S[j]? =some [(bk,.cells (A0 f o [w]) e (0,0))]) (K:v.cells= #[v]) (am:CP v=true)
  (h:Av E H (S.set j [(bk,.cells (A0 f o [v]) e (0,0))])→JL J Q b n (AH L d undef) ds (.inRegion ops rest::k) cs (An E H (S.set j [(bk,.cells (A0 f o [v]) e (0,0))]))):
  JL J Q b n L ds (.inRegion ops (i::rest)::k) cs (An E H S):=by
 have ap:A0 (A0 f o [w]) (o*1) v.cells.toList=A0 f o [v]:=by rw [K];exact Va O
 refine Po j U (by rw [K];exact V) Y Z ag al (by rw [ap];exact h) (by rw [K,Mb];simp;omega) (by rw [K];simpa using am)
end
section
variable {P:Program}{J:Judge P}{Q:Goroutine→St→Prop}{b:Frame}{n:Nat}{ds:List Deferred}{ops:Array Oper}{k:List Item}{cs:List Frame}{m fuel:Nat}{listed:Array Bool}{L:Env}{E H:LH}{S:List Seg}
variable {d:Option Tmp}{x y:Operand}{t ty e:TypeId}{p:String}{af:Array Edge}{g:Option (Nat×Bool)}{v:Value}{i:Nat}
theorem Take.Tb{α:Type}{pp:Rp α}(O:Av E H S)(U:ops[i]? =some ⟨d,.buildSlice t 0 #[],ty,p,af,g⟩)(hw:Be L ops ⟨d,.buildSlice t 0 #[],ty,p,af,g⟩=some true)(V:BE n d=true)
  (ht:P.underlying t=some (.slice e)) (Y:BC P e=some pp.n)
  (h:∀r seg,OL e pp E (some ⟨r,0,none⟩) 0 seg ([]:List α)→Av E H (S++ [seg])→AU J Q b n ds ops k cs m D9 fuel (Bg listed i) (AH L d (.slice (some ⟨r,0,none⟩) 0 0)) (An E H (S++ [seg]))):
  Take J Q b n ds ops k cs m D9 fuel listed L (An E H S) i:=
 Take.Ke U (by simp [Dt,V]) hw fun ρ ag=>by
  rw [Oq]
  refine AE _ _ ?_
  unfold Instr.buildSlice
  refine AE _ _ (De ht ?_)
  refine AE _ _ (EP Y ?_)
  rw [if_neg (by omega),if_pos (by omega)]
  refine AE (x:=pure #[]) _ ?_
  simp only [lp,pure,List.map_toArray,List.map_nil,Instr.fill]
  refine AE _ _ (GV O fun r K=>?_)
  rw [(En K).1]
  exact h r _ ⟨[],.inr ⟨r,_,rfl,rfl,by simp,Nat.le_refl _,by simp⟩,rfl,fun i x ws Z=>by simp at Z⟩ (En K).2
theorem Take.Pc{α:Type}{pp:Rp α}{t1:TypeId}{U c cx:Nat}{a ax:Option Addr}{seg:Seg}{xs ys V:List α}{ats:Array TypeId}{z:Value}(j:Nat)(Z:Av E H S)(ag:CF xs ys=some V)
  (al:ops[i]? =some ⟨d,.call ⟨.builtin .append,#[x,y],ats⟩,ty,p,af,g⟩) (hw:Be L ops ⟨d,.call ⟨.builtin .append,#[x,y],ats⟩,ty,p,af,g⟩=some true) (am:BE n d=true)
  (ap:ev L x=some (.slice a xs.length c)) (av:ev L y=some (.slice ax ys.length cx)) (a0:ats[0]? =some t) (a1:ats[1]? =some t1) (ht:P.underlying t=some (.slice e)) (a2:P.underlying t1=some (.slice e)) (a3:BC P e=some pp.n) (hb:Ez P e=some U) (a4:zeroOf P e=some z) (a5:z.cells.size=pp.n)
  (a6:0<U) (a7:U≤64) (hg:OL e pp E a c seg xs) (a8:Al pp E ax cx ys) (a9:S[j]? =some seg)
  (h:∀K O g seg',OL e pp E K O seg' V→Av E H (S.set j (g++seg'))→AU J Q b n ds ops k cs m D9 fuel (Bg listed i) (AH L d (.slice K V.length O)) (An E H (S.set j (g++seg')))):
  Take J Q b n ds ops k cs m D9 fuel listed L (An E H S) i:=
 Take.Ke al (by simp [Dt,am]) hw fun ρ Y=>RO j ag (Y _ _ ap) (Y _ _ av) a0 a1 ht a2 a3 hb a4 a5 a6 a7 hg (by
  obtain⟨ba,bb,bc,bd,_⟩:=a8.OM (H:=H) (B:=S.flatten)
  exact⟨ba,bd,bb,bc⟩) Z a9 fun K O be seg' bf bg=>h K O be seg' bf bg
end
theorem Al.cut{α:Type}{pp:Rp α}{E:LH}{a:Option Addr}{c:Nat}{xs ys:List α}{lo hi:Int}(V:Al pp E a c xs)(hC:ID xs lo hi=some ys):
  ∃Y Z,Al pp E Y Z ys∧∀{P:Program} {ρ:Operand→Value} {s:St} {d:Option Tmp} {x:Operand} {t ty e:TypeId} {p:String} {af:Array Edge} {g:Option (Nat×Bool)} {olo ohi:Option Operand},P.underlying t=some (.slice e)→BC P e=some pp.n→ρ x= .slice a xs.length c→
   (match ohi with | some w=>ρ w=iV hi | none=>hi=xs.length)→(match olo with | some w=>ρ w=iV lo | none=>lo=0)→Yl P ⟨d,.slice t x olo ohi none,ty,p,af,g⟩ ρ s (.slice Y ys.length Z):=by
 unfold ID at hC;split at hC
 rotate_left
 ·cases hC
 rename_i hb;obtain⟨a4,a5,ap⟩:=hb;cases hC;obtain⟨lo,rfl⟩:∃l:Nat,lo=l:=⟨lo.toNat,by omega⟩;obtain⟨hi,rfl⟩:∃l:Nat,hi=l:=⟨hi.toNat,by omega⟩;simp only [Int.toNat_natCast] at*;have a6:=V.1;have hlen:((xs.take hi).drop lo).length=hi - lo:=by simp;omega
 have ag:∀ad:Addr,a=some ad→ad.spot=none∨c=0:=fun ad K=>by
  rcases V.2 with⟨_,h⟩ | ⟨bk,off,h,_⟩
  ·exact h ad K
  ·rw [h] at K;cases K;exact .inl rfl
 refine⟨if c=lo then a else a.map (·.add (lo*pp.n)),c - lo,⟨by rw [hlen];omega,?_⟩,?_⟩
 ·by_cases av:hi - lo=0
  ·left;refine⟨List.eq_nil_of_length_eq_zero (by rw [hlen];exact av),fun ad K=>?_⟩;split at K
   ·exact(ag ad K).imp id fun h=>by omega
   ·cases a with
    | none=>cases K
    | some a0=>
     simp only [Option.map_some,Option.some.injEq] at K;subst K;exact .inl (by rw [Dj ((ag a0 rfl).resolve_right (by omega))])
  ·right;rcases V.2 with⟨h,_⟩ | ⟨bk,off,rfl,O⟩
   ·subst h;simp at ap;omega
   ·refine⟨bk,off+lo*pp.n,?_,fun q z U=>?_⟩
    ·rw [if_neg (by omega),Option.map_some,Dj rfl]
    ·rw [List.getElem?_drop,List.getElem?_take] at U;split at U
     ·obtain⟨ws,a1,al⟩:=O _ z U;refine⟨ws,a1,?_⟩;rw [Nat.add_mul] at al;rw [Nat.add_assoc];exact al
     ·cases U
 ·intro P ρ s d x t ty e p af g olo ohi ht a2 a3 O am;rw [hlen];refine Yl.slice (mx:=c) (hi:=hi) (lo:=lo) ht a2 a3 rfl ?_ ?_ (Nat.le_refl _) (by omega) (by omega)
  ·cases ohi with
   | none=>exact⟨by simp only at O;omega,rfl⟩
   | some w=>exact O
  ·cases olo with
   | none=>simp only at am;show lo=0;omega
   | some w=>exact am
end Pal
namespace Pal
open Go Go.Conc Go.Proofs
open Go.Proofs.Tryz
variable {J:Judge Tryz.prog}{E:LH}
def K0(fuel:Nat)(p0:Bc)(U:(List (List (List Int)))×Int)(V:(List (List Int))×Int)(Y:Int)(O:(List Int)×Int)(K:(List Int)×Int):Option (Bh ((List Int)×Int) ((List Int))):= (ix p0.1 V.2).bind fun Z=> if K.2<(Z.length:Int) then((ix K.1 O.2).bind fun ag=> (As (U.2+1)).bind fun al=> (ix U.1 al).bind fun am=> (ix p0.1 V.2).bind fun ap=> (ix ap K.2).bind fun av=> (ix am av).bind fun a0=> (As (O.2 - Y)).bind fun a1=> (ix a0 a1).bind fun a2=> (As (ag+a2)).bind fun a3=> (ix K.1 O.2).bind fun a5=> (As (K.2+1)).bind fun a4=> some (.more ((K.1.set (Int.toNat O.2) a3),a4))) else(some (.done K.1))
def J0(fuel:Nat)(p0:Bc)(p1:AI)(V:Int)(O:(List (List (List Int)))×Int)(Y:(List (List Int))×Int)(U:Int)(K:(List Int)×Int):Option (Bh ((List Int)×Int) ((List Int))):= if K.2≤(p1.length:Int) then(Option.bind (if O.2=V then(Option.bind (if K.2=U then((ix K.1 K.2).bind fun ap=> some (K.1.set (Int.toNat K.2) 1)) else(some K.1)) fun Z=> some Z) else(Option.bind (iter (K0 fuel p0 O Y U K) fuel (K.1,0)) fun ag=> some ag)) fun al=> (As (K.2+1)).bind fun am=> some (.more (al,am))) else(some (.done K.1))
def MX(fuel:Nat)(p0:Bc)(p1:AI)(p2:Int)(V:Int)(O:(List (List (List Int)))×Int)(K:(List (List Int))×Int):Option (Bh ((List (List Int))×Int) ((List (List Int)))):= if K.2<(p0.1.length:Int) then((As ((p1.length:Int)+1)).bind fun Y=> (F3 Y (0:Int)).bind fun Z=> (f118 fuel p0 p1 p2 O.2 K.2).bind fun U=> Option.bind (iter (J0 fuel p0 p1 V O K U) fuel (Z,U)) fun ag=> (room K.1 ag).bind fun al=> (As (K.2+1)).bind fun am=> some (.more (al,am))) else(some (.done K.1))
def O5(fuel:Nat)(p0:Bc)(p1:AI)(p2:Int)(U:Int)(K:(List (List (List Int)))×Int):Option (Bh ((List (List (List Int)))×Int) ((List (List (List Int))))):= if 0≤K.2 then((ix K.1 K.2).bind fun V=> (Ly V).bind fun Z=> Option.bind (iter (MX fuel p0 p1 p2 U K) fuel ([],0)) fun O=> (NS O).bind fun ag=> (As (K.2 - 1)).bind fun Y=> some (.more ((K.1.set (Int.toNat K.2) O),Y))) else(some (.done K.1))
def f80(fuel:Nat)(p0:Bc)(p1:AI)(p2:Int):Option ((List (List (List Int)))):= (f117 fuel p1).bind fun K=> (As (K+1)).bind fun O=> (F3 O ([]:List (List Int))).bind fun U=> Option.bind (iter (O5 fuel p0 p1 p2 K) fuel (U,K)) fun V=> some V
theorem aD{bp:Ao}{c2:Nat}{cf:Ao}{cg:Nat}{Z:Ao}{ag:Nat}{p0:Bc}{p1:AI}{p2:Int}(bS:Al (rL rI) E bp c2 p0.1)(cW:Al (rL rI) E cf cg p0.2)(ci:Al A9 E Z ag p1){fuel:Nat}{r:(List (List (List Int)))}(ck:f80 fuel p0 p1 p2=some r):AK J 80 [.agg #[sV bp p0.1 c2,sV cf p0.2 cg],sV Z p1 ag,iV p2] E [] (fun w E' B'=>∃(cm:Ao) (cn:Nat),w= sV cm r cn∧B'= []∧Al (rL (rL rI)) E' cm cn r):=by
 refine A4 func80 fun Q gt cs H cX cY=>?_;unfold f80 at ck;refine zg 2 rfl (Cb cX fun al gu bf bq cZ=>?_);obtain⟨am,c0,c1⟩:=bs ck;refine zg 5 rfl (BF (YK (ci.Ah bf) c0) rfl rfl (AS func117 rfl) cZ fun bT a4 c3=>?_);obtain⟨gv,c4,c5⟩:=bs c1;refine zg 5 rfl (Bb c4 rfl rfl rfl ?_);obtain⟨c6,c7,c8⟩:=bs c5;refine JS.make (pp:=(Hz (rL rI))) c7 rfl rfl rfl rfl rfl underlying105 BR (Cx type22) (by decide) (Dy type22) (by decide) (.inl ⟨rfl,rfl⟩) c3 fun c9 da db dc=>?_;obtain⟨co,dd,de⟩:=bs c8;refine zg 8 rfl (Bt (fun L s=>∃(bU:LH) (br:Ao) (bu:Nat) (bV:Seg),Jn bT H bU [bV] [(8,sV br co bu)] L s (OL 22 (Hz (rL rI)) bU br bu bV co)) ?_ ?_)
 ·rintro _ _ ⟨bU,br,bu,bV,rfl,rfl,df,dg,dh⟩;refine zg 5 rfl (BT 0 dh dg rfl fun gw di bW dj=>?_);replace bW:=Al.aZ bW;obtain rfl:=oi de;exact AD func80 rfl rfl (cY (((bf.Ab a4).Ab df).Ab di) rfl ⟨br,bu,rfl,rfl,bW⟩ dj)
 ·intro dk;refine JL.block (CN dd (fun L s K=>∃(bg:LH) (bv:Ao) (Y:Nat) (bw:Seg),Jn bT H bg [bw] [(1,sV Z p1 ag),(2,iV p2),(3,pV al 0),(7,iV am),(8,sV bv K.1 Y),(9,iV K.2)] L s (OL 22 (Hz (rL rI)) bg bv Y bw K.1)) ⟨bT,(AZ c9),c6.length,da,rfl,rfl,Ar,dc,db⟩ ?_);rintro _ _ K ⟨bg,bv,Y,bw,rfl,rfl,a2,cp,cq⟩ dl ⟨gx,bY⟩ dm;have cr:=bY;unfold O5 at cr;refine zg 6 rfl (AL cr (fun dn dp=>?_) (fun dn dq=>?_))
  ·obtain⟨gy,bx,dr⟩:=bs dp;obtain⟨gz,dt,du⟩:=bs dr;refine zg 7 rfl ?_;obtain⟨U,a9,rfl,rfl,ct,dv,dw⟩:=OL.hole cq bx dt;obtain⟨bc,dx,dy⟩:=bs du;refine Bt (fun L s=>∃(bZ:LH) (bm:Ao) (bn:Nat) (b0:Seg),Jn bg H bZ [bX U (A0 a9 (Int.toNat K.2) [sV bm bc bn]) 22,b0] [(1,sV Z p1 ag),(2,iV p2),(3,pV al 0),(7,iV am),(8,.slice (AZ U) K.1.length Y),(9,iV K.2)] L s (OL 28 (rL rI) bZ bm bn b0 bc)) ?_ ?_
   ·rintro _ _ ⟨bZ,bm,bn,b0,rfl,rfl,cu,dz,dA⟩;obtain⟨gA,dB,dC⟩:=bs dy;refine L9 (BT 1 dA dz rfl fun dD cv dE dF=>?_);have dG:=dw _ bc (sV bm bc bn) (cu.Ab cv) (VC dB) ⟨_,_,rfl,dE⟩;have dH:(K.1.set (Int.toNat K.2) bc).length=K.1.length:=List.length_set;refine Gf (L':= [(1,.slice Z p1.length ag),(2,iV p2),(3,pV al 0),(7,iV am),(8,.slice (AZ U) ((K.1.set (Int.toNat K.2) bc)).length Y),(9,iV K.2)]) ⟨rfl,rfl,rfl,rfl,by rw [dH];rfl,rfl,trivial⟩ ?_;obtain⟨dI,dJ,dK⟩:=bs dC;refine zg 2 rfl (Cg dJ rfl rfl rfl ?_);refine zg 2 rfl ?_;obtain rfl:=oi dK;exact Az (dm _ _ ((K.1.set (Int.toNat K.2) bc),dI) ⟨dD,(AZ U),Y,[(U,.cells (A0 a9 (Int.toNat K.2) [sV bm bc bn]) 22 (0,0))],rfl,rfl,((a2.Ab cu).Ab cv),dF,dG⟩ bY) rfl
   ·intro dL;refine JL.block (CN dx (fun L s V=>∃(bz:LH) (av:Ao) (a0:Nat) (a5:Seg),Jn bg H bz [bX U (A0 a9 (Int.toNat K.2) [sV av V.1 a0]) 22,a5] [(1,sV Z p1 ag),(2,iV p2),(3,pV al 0),(7,iV am),(8,.slice (AZ U) K.1.length Y),(9,iV K.2),(10,iV V.2)] L s (OL 28 (rL rI) bz av a0 a5 V.1)) ⟨bg,none,0,[],rfl,rfl,Ar,cp,OL.nil⟩ ?_);rintro _ _ V ⟨bz,av,a0,a5,rfl,rfl,a1,cw,cy⟩ dM ⟨gB,b1⟩ dN;have cz:=b1;unfold MX at cz;refine zg 4 rfl (JL.fl 0 (bq.Ah ((a4.Ab a2).Ab a1)) underlying24 BR Cs ?_);refine Bj underlying22 rfl rfl rfl (zg 2 rfl ?_);refine AL cz (fun dO dP=>?_) (fun dO dQ=>?_)
    ·refine zg 6 rfl (Bj underlying25 rfl rfl rfl ?_);obtain⟨gC,dR,dS⟩:=bs dP;refine Bb dR rfl rfl rfl ?_;obtain⟨dT,dU,dV⟩:=bs dS;refine JS.make (pp:=rI) dU rfl rfl rfl rfl rfl underlying28 AX (Cx type3) (by decide) CS (by decide) rfl cw fun dW dX dY dZ=>zg 4 rfl (BW (bq.Ah ((a4.Ab a2).Ab a1)) Ca BI rfl rfl ?_);obtain⟨a6,ea,eb⟩:=bs dV;refine zg 4 rfl (BF (Y1 (bS.Ah (((bf.Ab a4).Ab a2).Ab a1)) (cW.Ah (((bf.Ab a4).Ab a2).Ab a1)) (ci.Ah (((bf.Ab a4).Ab a2).Ab a1)) ea) rfl rfl (AS func118 rfl) dZ fun b2 bd ec=>?_);obtain⟨b3,ed,ee⟩:=bs eb;refine zg 8 rfl (Bt (fun L s=>∃(b4:LH) (bA:Ao) (bB:Nat) (b5:Seg),Jn b2 H b4 [bX U (A0 a9 (Int.toNat K.2) [sV av V.1 a0]) 22,a5,b5] [(1,sV Z p1 ag),(2,iV p2),(3,pV al 0),(7,iV am),(8,.slice (AZ U) K.1.length Y),(9,iV K.2),(10,iV V.2),(11,sV bA b3 bB)] L s (OL 3 rI b4 bA bB b5 b3)) ?_ ?_)
     ·rintro _ _ ⟨b4,bA,bB,b5,rfl,rfl,cA,cB,ef⟩;refine zg 5 rfl (AF (v:= .pointer (some ⟨U,Int.toNat (K.2)*1,none⟩)) rfl (fun ρ h=>Jp bx underlying105 BR (h _ _ rfl) (h _ _ rfl)) ?_);refine AF (v:= sV av V.1 a0) rfl (fun ρ h=>Yl.load Cs (h _ _ rfl) (DY (j:=0) cB rfl (WQ ct))) (zg 1 rfl ?_);refine BT 2 ef cB rfl fun eg cC eh ei=>?_;obtain⟨ej,ek,el⟩:=bs ee;refine JS.app (pp:=(rL rI)) (v:= sV bA b3 bB) (a:=av) (c:=a0) 1 ek rfl rfl rfl rfl (fun _=>rfl) rfl (fun _=>rfl) rfl rfl rfl underlying22 underlying22 underlying22 BZ (Cx type28) Fq rfl (by decide) (by decide) (by decide) (by decide) (cy.Ah ((bd.Ab cA).Ab cC)) ⟨_,_,rfl,eh⟩ ei rfl fun gD em en eo ep eq=>AF (v:= .pointer (some ⟨U,Int.toNat (K.2)*1,none⟩)) rfl (fun ρ h=>Jp bx underlying105 BR (h _ _ rfl) (h _ _ rfl)) (YN 0 ct eq BR rfl rfl rfl rfl rfl rfl fun er=>?_);obtain⟨et,eu,ew⟩:=bs el;refine zg 4 rfl (Bb eu rfl rfl rfl ?_);refine zg 2 rfl ?_;obtain rfl:=oi ew;exact Az (dN _ _ (ej,et) ⟨eg,em,en,eo,rfl,rfl,(((a1.Ab bd).Ab cA).Ab cC),er,ep⟩ b1) rfl
     ·intro ex;refine JL.block (CN ed (fun L s O=>∃(a3:LH) (ba:Ao) (bb:Nat) (bl:Seg),Jn b2 H a3 [bX U (A0 a9 (Int.toNat K.2) [sV av V.1 a0]) 22,a5,bl] [(1,sV Z p1 ag),(2,iV p2),(3,pV al 0),(7,iV am),(8,.slice (AZ U) K.1.length Y),(9,iV K.2),(10,iV V.2),(11,sV ba O.1 bb),(12,iV a6),(13,iV O.2)] L s (OL 3 rI a3 ba bb bl O.1)) ⟨b2,(AZ dW),dT.length,dX,rfl,rfl,Ar,ec,(dY.Ah bd)⟩ ?_);rintro _ _ O ⟨a3,ba,bb,bl,rfl,rfl,bh,bC,bD⟩ ey ⟨gE,b6⟩ ez;have cD:=b6;unfold J0 at cD;refine zg 5 rfl (Bj underlying25 rfl rfl rfl ?_);refine zg 2 rfl (AL cD (fun eA eB=>?_) (fun eA eC=>?_))
      ·obtain⟨b7,eD,eE⟩:=bs eB;refine zg 2 rfl (Bt (fun L s=>∃(bE:LH) (bF:Ao) (bG:Nat) (bH:Seg),Jn a3 H bE [bX U (A0 a9 (Int.toNat K.2) [sV av V.1 a0]) 22,a5,bH] [(1,sV Z p1 ag),(2,iV p2),(3,pV al 0),(7,iV am),(8,.slice (AZ U) K.1.length Y),(9,iV K.2),(10,iV V.2),(11,sV bF b7 bG),(12,iV a6),(13,iV O.2)] L s (OL 3 rI bE bF bG bH b7)) ?_ ?_)
       ·rintro _ _ ⟨bE,bF,bG,bH,rfl,rfl,eF,eG,eH⟩;obtain⟨eI,eJ,eK⟩:=bs eE;refine zg 2 rfl (Bb eJ rfl rfl rfl ?_);refine zg 2 rfl ?_;obtain rfl:=oi eK;exact Az (ez _ _ (b7,eI) ⟨bE,bF,bG,bH,rfl,rfl,(bh.Ab eF),eG,eH⟩ b6) rfl
       ·intro cE;refine zg 8 rfl (AL eD (fun eL eM=>?_) (fun eL eN=>?_))
        ·obtain⟨cF,eO,eP⟩:=bs eM;refine zg 7 rfl (Bt (fun L s=>∃(bI:LH) (bJ:Ao) (bK:Nat) (bL:Seg),Jn a3 H bI [bX U (A0 a9 (Int.toNat K.2) [sV av V.1 a0]) 22,a5,bL] [(1,sV Z p1 ag),(2,iV p2),(3,pV al 0),(7,iV am),(8,.slice (AZ U) K.1.length Y),(9,iV K.2),(10,iV V.2),(11,sV bJ cF bK),(12,iV a6),(13,iV O.2)] L s (OL 3 rI bI bJ bK bL cF)) ?_ ?_)
         ·rintro _ _ ⟨bI,bJ,bK,bL,rfl,rfl,eQ,eR,eS⟩;refine JL.exit rfl ?_;obtain rfl:=oi eP;exact Az (cE _ _ ⟨bI,bJ,bK,bL,rfl,rfl,eQ,eR,eS⟩) rfl
         ·intro cG;refine AL eO (fun eT eU=>?_) (fun eT eV=>?_)
          ·obtain⟨gF,eW,eX⟩:=bs eU;refine zg 3 rfl (I0 2 bD eW rfl rfl rfl rfl rfl rfl underlying28 AX ?_);rintro cH b8 f241 _ eY rfl gG eZ e0 gH gI;refine JS.store (v:=iV 1) (off:=b8) 2 rfl rfl rfl bC rfl rfl AX (by simp [Value.cells,CP]) eY (by have:=eZ;simp only [Rp.n,rK,rN,rB,rP,rL] at this;show _+1≤_;omega) fun e1=>?_;have e2:=e0 (1) [iV 1] rfl;have cI:(O.1.set (Int.toNat O.2) 1).length=O.1.length:=List.length_set;refine Gf (L':= [(1,.slice Z p1.length ag),(2,iV p2),(3,pV al 0),(7,iV am),(8,.slice (AZ U) K.1.length Y),(9,iV K.2),(10,iV V.2),(11,.slice ba ((O.1.set (Int.toNat O.2) 1)).length bb),(12,iV a6),(13,iV O.2),(43,iV O.2),(44,.slice Z p1.length ag),(45,iV (p1.length:Int)),(46,.bool (decide (O.2≤(p1.length:Int)))),(49,iV K.2),(50,iV am),(51,.bool (decide (K.2=am))),(52,iV O.2),(53,iV a6),(54,.bool (decide (O.2=a6))),(55,.slice ba ((O.1.set (Int.toNat O.2) 1)).length bb),(56,iV O.2),(57,pV cH b8)]) ⟨rfl,rfl,rfl,rfl,rfl,rfl,rfl,by rw [cI];rfl,rfl,rfl,rfl,rfl,rfl,rfl,rfl,rfl,rfl,rfl,rfl,rfl,by rw [cI];rfl,rfl,rfl,trivial⟩ ?_;refine JL.done ?_;obtain rfl:=oi eX;exact Az (cG _ _ ⟨a3,ba,bb,[(cH,.cells (A0 f241 b8 [iV 1]) 3 (0,0))],rfl,rfl,Ar,e1,e2⟩) rfl
          ·refine JL.skip ?_;obtain rfl:=oi eV;exact Az (cG _ _ ⟨a3,ba,bb,bl,rfl,rfl,Ar,bC,bD⟩) rfl
        ·obtain⟨cJ,e3,e4⟩:=bs eN;refine zg 5 rfl (Bt (fun L s=>∃(bM:LH) (bN:Ao) (bO:Nat) (bP:Seg),Jn a3 H bM [bX U (A0 a9 (Int.toNat K.2) [sV av V.1 a0]) 22,a5,bP] [(1,sV Z p1 ag),(2,iV p2),(3,pV al 0),(7,iV am),(8,.slice (AZ U) K.1.length Y),(9,iV K.2),(10,iV V.2),(11,sV bN cJ bO),(12,iV a6),(13,iV O.2)] L s (OL 3 rI bM bN bO bP cJ)) ?_ ?_)
         ·rintro _ _ ⟨bM,bN,bO,bP,rfl,rfl,e5,e6,e7⟩;refine L9 ?_;obtain rfl:=oi e4;exact Az (cE _ _ ⟨bM,bN,bO,bP,rfl,rfl,e5,e6,e7⟩) rfl
         ·intro e8;refine JL.block (CN e3 (fun L s ap=>∃(bo:LH) (bQ:Ao) (be:Nat) (bR:Seg),Jn a3 H bo [bX U (A0 a9 (Int.toNat K.2) [sV av V.1 a0]) 22,a5,bR] [(1,sV Z p1 ag),(2,iV p2),(3,pV al 0),(7,iV am),(8,.slice (AZ U) K.1.length Y),(9,iV K.2),(10,iV V.2),(11,sV bQ ap.1 be),(12,iV a6),(13,iV O.2),(14,iV ap.2)] L s (OL 3 rI bo bQ be bR ap.1)) ⟨a3,ba,bb,bl,rfl,rfl,Ar,bC,bD⟩ ?_);rintro _ _ ap ⟨bo,bQ,be,bR,rfl,rfl,bi,a7,b9⟩ e9 ⟨gJ,ca⟩ fa;have cK:=ca;unfold K0 at cK;refine zg 4 rfl (JL.fl 0 (bq.Ah (((((a4.Ab a2).Ab a1).Ab bd).Ab bh).Ab bi)) underlying24 BR Cs ?_);obtain⟨cb,fb,fc⟩:=bs cK;refine zg 1 rfl (Cf (bS.Ah ((((((bf.Ab a4).Ab a2).Ab a1).Ab bd).Ab bh).Ab bi)) fb underlying22 BZ ?_);rintro fd fe _ ⟨ff,fg,rfl,gK⟩ fh;refine B8 0 fh CZ rfl rfl rfl (Bj underlying28 rfl rfl rfl ?_);refine zg 2 rfl (AL fc (fun fj fk=>?_) (fun fj fm=>?_))
          ·obtain⟨cM,cN,fo⟩:=bs fk;refine zg 3 rfl ?_;obtain⟨bj,gL,_,rfl,rfl,rfl,fp⟩:=OL.Ty b9 cN;obtain⟨cc,cO,fq⟩:=bs fo;obtain⟨cP,cQ,fs⟩:=bs fq;obtain⟨cR,cT,fu,fv⟩:=OL.beside (dv.Ah (((a1.Ab bd).Ab bh).Ab bi)) bx cO cQ;refine Dl 27 [bj,U] ⟨⟨2,_,rfl⟩,⟨0,_,rfl⟩,trivial⟩ a7 fun ht=>AW ht rfl [0,1,2,3] rfl (By (v:= .pointer (some ⟨bj,(Int.toNat (O.2)*1),none⟩)) 4 ht rfl rfl (fun ρ h s' hs=>Jp cN underlying28 AX (h _ _ rfl) (h _ _ rfl)) ?_);refine By (v:=iV cM) 5 ht rfl rfl (fun ρ h s' hs=>Yl.load Bx (h _ _ rfl) (Im 2 a7 rfl (by simp [A5]) hs (fp 0 _ rfl))) (AW ht rfl [6,7] rfl ?_);refine By 8 ht rfl rfl (fun ρ h s' hs=>MJ (h _ _ rfl) (h _ _ rfl) cO) (By (v:= .pointer (some ⟨U,(Int.toNat (cc)*1),none⟩)) 9 ht rfl rfl (fun ρ h s' hs=>Jp cQ underlying105 BR (h _ _ rfl) (h _ _ rfl)) ?_);refine By (v:= sV cR cP cT) 10 ht rfl rfl (fun ρ h s' hs=>Yl.load Cs (h _ _ rfl) (Im 0 a7 rfl (by simp [A5]) hs ((fv (sV av V.1 a0)) 0 _ rfl))) (B7 11 ht underlying24 BR rfl rfl rfl rfl ?_);refine JG.lp 12 ht 0 (bq.Ah (((((a4.Ab a2).Ab a1).Ab bd).Ab bh).Ab bi)) a7 ⟨⟨2,_,rfl⟩,⟨0,_,rfl⟩,trivial⟩ Cs ?_;refine B4 13 ht rfl rfl ?_;obtain⟨fw,fx,fy⟩:=bs fs;refine Cy 14 (bS.Ah ((((((bf.Ab a4).Ab a2).Ab a1).Ab bd).Ab bh).Ab bi)) fx ht underlying22 BZ ?_;rintro fz fA _ ⟨fB,fC,rfl,fD⟩ fE;refine JG.lp 15 ht 0 fE a7 ⟨⟨2,_,rfl⟩,⟨0,_,rfl⟩,trivial⟩ CZ ?_;refine B4 16 ht rfl rfl ?_;obtain⟨fF,fG,fH⟩:=bs fy;refine Cy 17 fD fG ht underlying28 AX ?_;rintro fI fJ _ rfl fK;refine JG.lp 18 ht 0 fK a7 ⟨⟨2,_,rfl⟩,⟨0,_,rfl⟩,trivial⟩ Bx ?_;obtain⟨fL,fM,fN⟩:=bs fH;refine Cy 19 fu fM ht underlying22 BZ ?_;rintro fO fP _ ⟨fQ,fR,rfl,fS⟩ fT;refine JG.lp 20 ht 0 fT a7 ⟨⟨2,_,rfl⟩,⟨0,_,rfl⟩,trivial⟩ CZ ?_;refine AW ht rfl [21,22] rfl ?_;obtain⟨fU,fW,fX⟩:=bs fN;refine By 23 ht rfl rfl (fun ρ h s' hs=>C9 (h _ _ rfl) (h _ _ rfl) fW) ?_;obtain⟨fY,fZ,ga⟩:=bs fX;refine Cy 24 fS fZ ht underlying28 AX ?_;rintro gb gc _ rfl gd;refine JG.lp 25 ht 0 gd a7 ⟨⟨2,_,rfl⟩,⟨0,_,rfl⟩,trivial⟩ Bx ?_;obtain⟨a8,ge,gf⟩:=bs ga;refine By 26 ht rfl rfl (fun ρ h s' hs=>MJ (h _ _ rfl) (h _ _ rfl) ge) (Cc [27,28] ?_);obtain⟨gM,gg,gh⟩:=bs gf;refine I0 2 b9 gg rfl rfl rfl rfl rfl rfl underlying28 AX ?_;rintro cV cd gi _ gj rfl gN gk gl gO gP;refine JS.store (v:=iV a8) (off:=cd) 2 rfl rfl rfl a7 rfl rfl AX (by simp [Value.cells,CP]) gj (by have:=gk;simp only [Rp.n,rK,rN,rB,rP,rL] at this;show _+1≤_;omega) fun gm=>?_;have gn:=gl a8 [iV a8] rfl;have ce:(ap.1.set (Int.toNat O.2) a8).length=ap.1.length:=List.length_set;refine Gf (L':= [(1,.slice Z p1.length ag),(2,iV p2),(3,pV al 0),(7,iV am),(8,.slice (AZ U) K.1.length Y),(9,iV K.2),(10,iV V.2),(11,.slice (AZ bj) ((ap.1.set (Int.toNat O.2) a8)).length be),(12,iV a6),(13,iV O.2),(14,iV ap.2),(58,iV ap.2),(59,pV al 0),(60,.slice bp p0.1.length c2),(61,iV V.2),(62,pV fd fe),(63,.slice ff cb.length fg),(64,iV (cb.length:Int)),(65,.bool (decide (ap.2<(cb.length:Int)))),(68,.slice (AZ bj) ((ap.1.set (Int.toNat O.2) a8)).length be),(69,iV O.2),(70,.slice (AZ bj) ((ap.1.set (Int.toNat O.2) a8)).length be),(71,iV O.2),(72,.pointer (some ⟨bj,(Int.toNat (O.2)*1),none⟩)),(73,iV cM),(74,.slice (AZ U) K.1.length Y),(75,iV K.2),(76,iV cc),(77,.pointer (some ⟨U,(Int.toNat (cc)*1),none⟩)),(78,.slice cR cP.length cT),(79,pV al 0),(80,.slice bp p0.1.length c2),(81,iV V.2),(82,pV fz fA),(83,.slice fB fw.length fC),(84,iV ap.2),(85,pV fI fJ),(86,iV fF),(87,pV fO fP),(88,.slice fQ fL.length fR),(89,iV O.2),(90,iV a6),(91,iV fU),(92,pV gb gc),(93,iV fY),(94,iV a8),(95,pV cV cd)]) ⟨rfl,rfl,rfl,rfl,rfl,rfl,rfl,by rw [ce];rfl,rfl,rfl,rfl,rfl,rfl,rfl,rfl,rfl,rfl,rfl,rfl,by rw [ce];rfl,rfl,by rw [ce];rfl,rfl,rfl,rfl,rfl,rfl,rfl,rfl,rfl,rfl,rfl,rfl,rfl,rfl,rfl,rfl,rfl,rfl,rfl,rfl,rfl,rfl,rfl,rfl,rfl,rfl,trivial⟩ ?_;obtain⟨gp,gq,gr⟩:=bs gh;refine zg 4 rfl (Bb gq rfl rfl rfl ?_);refine zg 2 rfl ?_;obtain rfl:=oi gr;exact Az (fa _ _ ((ap.1.set (Int.toNat O.2) a8),gp) ⟨bo,(AZ bj),be,[(cV,.cells (A0 gi cd [iV a8]) 3 (0,0))],rfl,rfl,bi,gm,gn⟩ ca) rfl
          ·refine JL.exit rfl ?_;obtain rfl:=oi fm;obtain rfl:=e9 _ ca;exact Az (e8 _ _ ⟨bo,bQ,be,bR,rfl,rfl,bi,a7,b9⟩) rfl
      ·refine JL.exit rfl ?_;obtain rfl:=oi eC;obtain rfl:=ey _ b6;exact Az (ex _ _ ⟨a3,ba,bb,bl,rfl,rfl,bh,bC,bD⟩) rfl
    ·refine JL.exit rfl ?_;obtain rfl:=oi dQ;obtain rfl:=dM _ b1;exact Az (dL _ _ ⟨bz,av,a0,a5,rfl,rfl,a1,cw,cy⟩) rfl
  ·refine JL.exit rfl ?_;obtain rfl:=oi dq;obtain rfl:=dl _ bY;exact Az (dk _ _ ⟨bg,bv,Y,bw,rfl,rfl,a2,cp,cq⟩) rfl
end Pal
namespace Pal
open Go Go.Conc Go.Proofs
open Go.Proofs.Tryz
variable {J:Judge Tryz.prog}{E:LH}
def K7(fuel:Nat)(U:(List (List (List Int))))(V:(List Bool))(O:(List Int)×Int)(K:(List Int)×Int):Option (Bh ((List Int)×Int) ((List Int))):= Option.bind (if K.2<(K.1.length:Int) then((ix V O.2).bind fun Y=> some Y) else(some false)) fun Z=> if Z=true then((ix K.1 K.2).bind fun ag=> (ix U (0)).bind fun al=> (ix al O.2).bind fun am=> (ix am K.2).bind fun ap=> (As (ag+ap)).bind fun av=> (ix K.1 K.2).bind fun a1=> (As (K.2+1)).bind fun a0=> some (.more ((K.1.set (Int.toNat K.2) av),a0))) else(some (.done K.1))
def M5(fuel:Nat)(U:(List (List (List Int))))(O:(List Bool))(K:(List Int)×Int):Option (Bh ((List Int)×Int) ((List Int))):= if K.2<(O.length:Int) then(Option.bind (iter (K7 fuel U O K) fuel (K.1,0)) fun V=> (As (K.2+1)).bind fun Y=> some (.more (V,Y))) else(some (.done K.1))
def MZ(fuel:Nat)(p0:Bc)(p1:AI)(O:(List (List (List Int))))(K:(List (List Int))×Int):Option (Bh ((List (List Int))×Int) ((List (List Int)))):= if K.2≤12 then((As ((p1.length:Int)+1)).bind fun U=> (F3 U (0:Int)).bind fun V=> (f82 fuel p0 K.2).bind fun Y=> Option.bind (iter (M5 fuel O Y) fuel (V,0)) fun Z=> (room K.1 Z).bind fun ag=> (As (K.2+1)).bind fun al=> some (.more (ag,al))) else(some (.done K.1))
def f79(fuel:Nat)(p0:Bc)(p1:AI)(p2:Int):Option ((List (List Int))):= (f80 fuel p0 p1 p2).bind fun K=> Option.bind (iter (MZ fuel p0 p1 K) fuel ([],0)) fun O=> some O
theorem aw{bO:Ao}{c2:Nat}{bP:Ao}{bQ:Nat}{Z:Ao}{ag:Nat}{p0:Bc}{p1:AI}{p2:Int}(bR:Al (rL rI) E bO c2 p0.1)(bS:Al (rL rI) E bP bQ p0.2)(ce:Al A9 E Z ag p1){fuel:Nat}{r:(List (List Int))}(bT:f79 fuel p0 p1 p2=some r):AK J 79 [.agg #[sV bO p0.1 c2,sV bP p0.2 bQ],sV Z p1 ag,iV p2] E [] (fun w E' B'=>∃(bU:Ao) (bV:Nat),w= sV bU r bV∧B'= []∧Al (rL rI) E' bU bV r):=by
 refine A4 func79 fun Q ew cs H cf cg=>?_;unfold f79 at bT;refine zg 2 rfl (Cb cf fun a2 ex a6 bW ci=>?_);refine zg 4 rfl (BW bW Ca BI rfl rfl ?_);obtain⟨av,ck,cm⟩:=bs bT;refine zg 2 rfl (BV (aD (bR.Ah a6) (bS.Ah a6) (ce.Ah a6) ck) rfl rfl (AS func80 rfl) ci ?_);rintro _ bA _ bi ⟨a0,a1,rfl,rfl,cn⟩ co;obtain⟨bY,cp,cq⟩:=bs cm;refine zg 11 rfl (Bt (fun L s=>∃(bB:LH) (bj:Ao) (bl:Nat) (bC:Seg),Jn bA H bB [bC] [(8,sV bj bY bl)] L s (OL 28 (rL rI) bB bj bl bC bY)) ?_ ?_)
 ·rintro _ _ ⟨bB,bj,bl,bC,rfl,rfl,cr,ct,cu⟩;refine zg 5 rfl (BT 0 cu ct rfl fun ey cv cw cy=>?_);obtain rfl:=oi cq;exact AD func79 rfl rfl (cg (((a6.Ab bi).Ab cr).Ab cv) rfl ⟨bj,bl,rfl,rfl,cw⟩ cy)
 ·intro cz;refine JL.block (CN cp (fun L s O=>∃(bm:LH) (U:Ao) (V:Nat) (al:Seg),Jn bA H bm [al] [(1,sV Z p1 ag),(3,pV a2 0),(7,sV a0 av a1),(8,sV U O.1 V),(9,iV O.2)] L s (OL 28 (rL rI) bm U V al O.1)) ⟨bA,none,0,[],rfl,rfl,Ar,co,OL.nil⟩ ?_);rintro _ _ O ⟨bm,U,V,al,rfl,rfl,a7,bZ,b0⟩ cA ⟨ez,bD⟩ cB;have b1:=bD;unfold MZ at b1;refine zg 6 rfl (AL b1 (fun cC cD=>?_) (fun cC cE=>?_))
  ·refine zg 6 rfl (Bj underlying25 rfl rfl rfl ?_);obtain⟨eA,cF,cG⟩:=bs cD;refine Bb cF rfl rfl rfl ?_;obtain⟨cH,cI,cJ⟩:=bs cG;refine JS.make (pp:=rI) cI rfl rfl rfl rfl rfl underlying28 AX (Cx type3) (by decide) CS (by decide) rfl bZ fun cK cM cN cO=>zg 4 rfl (BW (bW.Ah (bi.Ab a7)) Ca BI rfl rfl ?_);obtain⟨ba,cP,cQ⟩:=bs cJ;refine zg 1 rfl (BV (ak (bR.Ah ((a6.Ab bi).Ab a7)) (bS.Ah ((a6.Ab bi).Ab a7)) cP) rfl rfl (AS func82 rfl) cO ?_);rintro _ bE _ bn ⟨bb,bc,rfl,rfl,cR⟩ cT;obtain⟨bF,cV,cW⟩:=bs cQ;refine zg 7 rfl (Bt (fun L s=>∃(bG:LH) (bo:Ao) (bp:Nat) (bH:Seg),Jn bE H bG [al,bH] [(1,sV Z p1 ag),(3,pV a2 0),(7,sV a0 av a1),(8,sV U O.1 V),(9,iV O.2),(10,sV bo bF bp)] L s (OL 3 rI bG bo bp bH bF)) ?_ ?_)
   ·rintro _ _ ⟨bG,bo,bp,bH,rfl,rfl,b2,cX,cY⟩;refine zg 3 rfl (BT 1 cY cX rfl fun cZ b3 c0 c1=>?_);obtain⟨c3,c4,c5⟩:=bs cW;refine JS.app (pp:=(rL rI)) (v:= sV bo bF bp) (a:=U) (c:=V) 0 c4 rfl rfl rfl rfl (fun _=>rfl) rfl (fun _=>rfl) rfl rfl rfl underlying22 underlying22 underlying22 BZ (Cx type28) Fq rfl (by decide) (by decide) (by decide) (by decide) (b0.Ah ((bn.Ab b2).Ab b3)) ⟨_,_,rfl,c0⟩ c1 rfl fun eB c6 c7 c8 c9 da=>?_;obtain⟨db,dc,dd⟩:=bs c5;refine zg 5 rfl (Bb dc rfl rfl rfl ?_);refine zg 2 rfl ?_;obtain rfl:=oi dd;exact Az (cB _ _ (c3,db) ⟨cZ,c6,c7,c8,rfl,rfl,(((a7.Ab bn).Ab b2).Ab b3),da,c9⟩ bD) rfl
   ·intro de;refine JL.block (CN cV (fun L s am=>∃(a3:LH) (bd:Ao) (be:Nat) (bf:Seg),Jn bE H a3 [al,bf] [(1,sV Z p1 ag),(3,pV a2 0),(7,sV a0 av a1),(8,sV U O.1 V),(9,iV O.2),(10,sV bd am.1 be),(11,sV bb ba bc),(12,iV am.2)] L s (OL 3 rI a3 bd be bf am.1)) ⟨bE,(AZ cK),cH.length,cM,rfl,rfl,Ar,cT,(cN.Ah bn)⟩ ?_);rintro _ _ am ⟨a3,bd,be,bf,rfl,rfl,bq,b4,b5⟩ df ⟨eC,bI⟩ dg;have b6:=bI;unfold M5 at b6;refine zg 5 rfl (Bj underlying68 rfl rfl rfl ?_);refine zg 2 rfl (AL b6 (fun dh di=>?_) (fun dh dj=>?_))
    ·obtain⟨bJ,dk,dl⟩:=bs di;refine zg 7 rfl (Bt (fun L s=>∃(br:LH) (bu:Ao) (bv:Nat) (bw:Seg),Jn a3 H br [al,bw] [(1,sV Z p1 ag),(3,pV a2 0),(7,sV a0 av a1),(8,sV U O.1 V),(9,iV O.2),(10,sV bu bJ bv),(11,sV bb ba bc),(12,iV am.2)] L s (OL 3 rI br bu bv bw bJ)) ?_ ?_)
     ·rintro _ _ ⟨br,bu,bv,bw,rfl,rfl,dm,dn,dp⟩;obtain⟨dq,dr,dt⟩:=bs dl;refine zg 3 rfl (Bb dr rfl rfl rfl ?_);refine zg 2 rfl ?_;obtain rfl:=oi dt;exact Az (dg _ _ (bJ,dq) ⟨br,bu,bv,bw,rfl,rfl,(bq.Ab dm),dn,dp⟩ bI) rfl
     ·intro du;refine JL.block (CN dk (fun L s K=>∃(a8:LH) (bg:Ao) (ap:Nat) (bh:Seg),Jn a3 H a8 [al,bh] [(1,sV Z p1 ag),(3,pV a2 0),(7,sV a0 av a1),(8,sV U O.1 V),(9,iV O.2),(10,sV bg K.1 ap),(11,sV bb ba bc),(12,iV am.2),(13,iV K.2)] L s (OL 3 rI a8 bg ap bh K.1)) ⟨a3,bd,be,bf,rfl,rfl,Ar,b4,b5⟩ ?_);rintro _ _ K ⟨a8,bg,ap,bh,rfl,rfl,bx,b7,bK⟩ dv ⟨eD,bL⟩ dw;have b8:=bL;unfold K7 at b8;refine zg 5 rfl (Bj underlying28 rfl rfl rfl ?_);obtain⟨b9,dx,dy⟩:=bs b8;refine zg 2 rfl (ER [] (fun L s=>∃(bz:LH),Jm a8 H bz [al,bh] [(1,sV Z p1 ag),(3,pV a2 0),(7,sV a0 av a1),(8,sV U O.1 V),(9,iV O.2),(10,sV bg K.1 ap),(11,sV bb ba bc),(12,iV am.2),(13,iV K.2),(44,.bool b9)] L s) ?_ ?_)
      ·rintro _ _ ⟨bz,rfl,rfl,a9,a4⟩;refine JL.done (BJ dy (fun dz dA=>?_) (fun dz dB=>?_))
       ·obtain⟨ca,cb,dC⟩:=bs dA;refine zg 3 rfl ?_;obtain⟨a5,f193,_,rfl,rfl,rfl,dD⟩:=OL.Ty (bK.Ah a9) cb;refine Dl 16 [a5] ⟨⟨1,_,rfl⟩,trivial⟩ a4 fun ht=>AW ht rfl [0,1,2,3] rfl (By (v:= .pointer (some ⟨a5,(Int.toNat (K.2)*1),none⟩)) 4 ht rfl rfl (fun ρ h s' hs=>Jp cb underlying28 AX (h _ _ rfl) (h _ _ rfl)) ?_);refine By (v:=iV ca) 5 ht rfl rfl (fun ρ h s' hs=>Yl.load Bx (h _ _ rfl) (Im 1 a4 rfl (by simp [A5]) hs (dD 0 _ rfl))) (B4 6 ht rfl rfl ?_);obtain⟨dE,dF,dG⟩:=bs dC;refine Cy 7 (cn.Ah ((((a7.Ab bn).Ab bq).Ab bx).Ab a9)) dF ht underlying105 BR ?_;rintro dH dI _ ⟨dJ,dK,rfl,dL⟩ dM;refine JG.lp 8 ht 0 dM a4 ⟨⟨1,_,rfl⟩,trivial⟩ Cs ?_;refine B4 9 ht rfl rfl ?_;obtain⟨dN,dO,dP⟩:=bs dG;refine Cy 10 dL dO ht underlying22 BZ ?_;rintro dQ dR _ ⟨dS,dT,rfl,dU⟩ dV;refine JG.lp 11 ht 0 dV a4 ⟨⟨1,_,rfl⟩,trivial⟩ CZ ?_;refine B4 12 ht rfl rfl ?_;obtain⟨dW,dX,dY⟩:=bs dP;refine Cy 13 dU dX ht underlying28 AX ?_;rintro dZ ea _ rfl eb;refine JG.lp 14 ht 0 eb a4 ⟨⟨1,_,rfl⟩,trivial⟩ Bx ?_;obtain⟨Y,ec,ed⟩:=bs dY;refine By 15 ht rfl rfl (fun ρ h s' hs=>MJ (h _ _ rfl) (h _ _ rfl) ec) (Cc [16,17] ?_);obtain⟨eE,ee,ef⟩:=bs ed;refine I0 1 (bK.Ah a9) ee rfl rfl rfl rfl rfl rfl underlying28 AX ?_;rintro cc bM f222 _ eg rfl eF eh ei eG eH;refine JS.store (v:=iV Y) (off:=bM) 1 rfl rfl rfl a4 rfl rfl AX (by simp [Value.cells,CP]) eg (by have:=eh;simp only [Rp.n,rK,rN,rB,rP,rL] at this;show _+1≤_;omega) fun ej=>?_;have ek:=ei Y [iV Y] rfl;have bN:(K.1.set (Int.toNat K.2) Y).length=K.1.length:=List.length_set;refine Gf (L':= [(1,.slice Z p1.length ag),(3,pV a2 0),(7,.slice a0 av.length a1),(8,.slice U O.1.length V),(9,iV O.2),(10,.slice (AZ a5) ((K.1.set (Int.toNat K.2) Y)).length ap),(11,.slice bb ba.length bc),(12,iV am.2),(13,iV K.2),(44,.bool b9),(47,.slice (AZ a5) ((K.1.set (Int.toNat K.2) Y)).length ap),(48,iV K.2),(49,.slice (AZ a5) ((K.1.set (Int.toNat K.2) Y)).length ap),(50,iV K.2),(51,.pointer (some ⟨a5,(Int.toNat (K.2)*1),none⟩)),(52,iV ca),(53,.slice a0 av.length a1),(54,pV dH dI),(55,.slice dJ dE.length dK),(56,iV am.2),(57,pV dQ dR),(58,.slice dS dN.length dT),(59,iV K.2),(60,pV dZ ea),(61,iV dW),(62,iV Y),(63,pV cc bM)]) ⟨rfl,rfl,rfl,rfl,rfl,by rw [bN];rfl,rfl,rfl,rfl,rfl,by rw [bN];rfl,rfl,by rw [bN];rfl,rfl,rfl,rfl,rfl,rfl,rfl,rfl,rfl,rfl,rfl,rfl,rfl,rfl,rfl,trivial⟩ ?_;obtain⟨el,em,en⟩:=bs ef;refine zg 4 rfl (Bb em rfl rfl rfl ?_);refine zg 2 rfl ?_;obtain rfl:=oi en;exact Az (dw _ _ ((K.1.set (Int.toNat K.2) Y),el) ⟨bz,(AZ a5),ap,[(cc,.cells (A0 f222 bM [iV Y]) 3 (0,0))],rfl,rfl,(bx.Ab a9),ej,ek⟩ bL) rfl
       ·refine JL.exit rfl ?_;obtain rfl:=oi dB;obtain rfl:=dv _ bL;exact Az (du _ _ ⟨bz,bg,ap,bh,rfl,rfl,(bx.Ab a9),a4,(bK.Ah a9)⟩) rfl
      ·intro cd;refine Ei 39 dx (fun eo ep=>?_) (fun eo eq=>?_)
       ·obtain⟨eI,er,et⟩:=bs ep;refine zg 2 rfl (Cf (cR.Ah (bq.Ab bx)) er underlying68 Ie ?_);rintro eJ eK _ rfl eu;refine B8 0 eu (Dz underlying4) rfl rfl rfl (zg 1 rfl ?_);obtain rfl:=oi et;exact Az (cd _ _ ⟨a8,rfl,rfl,Ar,b7⟩) rfl
       ·refine zg 5 rfl ?_;obtain rfl:=oi eq;exact Az (cd _ _ ⟨a8,rfl,rfl,Ar,b7⟩) rfl
    ·refine JL.exit rfl ?_;obtain rfl:=oi dj;obtain rfl:=df _ bI;exact Az (de _ _ ⟨a3,bd,be,bf,rfl,rfl,bq,b4,b5⟩) rfl
  ·refine JL.exit rfl ?_;obtain rfl:=oi cE;obtain rfl:=cA _ bD;exact Az (cz _ _ ⟨bm,U,V,al,rfl,rfl,a7,bZ,b0⟩) rfl
def M9(fuel:Nat)(U:(List (List Int)))(O:Int)(K:Int):Option (Bh Int ((Int)⊕(Unit))):= if K≤12 then((ix U K).bind fun V=> (ix V O).bind fun Y=> if 0<Y then(some (.done (Sum.inl O))) else((As (K+1)).bind fun Z=> some (.more Z))) else(some (.done (Sum.inr ())))
def Na(fuel:Nat)(p1:AI)(O:(List (List Int)))(K:Int):Option (Bh Int ((Int)⊕(Unit))):= if K≤(p1.length:Int) then(Option.bind (iter (M9 fuel O K) fuel 0) fun U=> Sum.elim (fun r=>some (.done (Sum.inl r))) (fun Y=> (As (K+1)).bind fun V=> some (.more V)) U) else(some (.done (Sum.inr ())))
def f95(fuel:Nat)(p0:Bc)(p1:AI):Option Int:= (f79 fuel p0 p1 (-1)).bind fun K=> Option.bind (iter (Na fuel p1 K) fuel 0) fun O=> Sum.elim (fun r=>some r) (fun U=> some (-1)) O
theorem Pe{a2:Ao}{c2:Nat}{a3:Ao}{a4:Nat}{K:Ao}{O:Nat}{p0:Bc}{p1:AI}(bn:Al (rL rI) E a2 c2 p0.1)(bo:Al (rL rI) E a3 a4 p0.2)(bp:Al A9 E K O p1){fuel:Nat}{r:Int}(a5:f95 fuel p0 p1=some r):AK J 95 [.agg #[sV a2 p0.1 c2,sV a3 p0.2 a4],sV K p1 O] E [] (fun w E' B'=>w=iV r∧B'= []):=by
 refine A4 func95 fun Q cf cs H bq a6=>?_;unfold f95 at a5;refine zg 2 rfl (Cb bq fun cg ci U br bu=>?_);refine zg 4 rfl (BW br Ca BI rfl rfl ?_);obtain⟨am,bv,bw⟩:=bs a5;refine zg 1 rfl (BV (aw (bn.Ah U) (bo.Ah U) (bp.Ah U) bv) rfl rfl (AS func79 rfl) bu ?_);rintro _ bx _ a7 ⟨ap,av,rfl,rfl,bz⟩ bA;obtain⟨a8,bB,a9⟩:=bs bw;refine zg 7 rfl (Bt (fun L s=>∃(ba:Unit) (bb:LH),a8=Sum.inr ba∧Jm bx H bb [] [] L s) ?_ ?_)
 ·rintro _ _ ⟨ba,bb,rfl,rfl,rfl,bC,bD⟩;have bE:=elim_inr a9;refine zg 4 rfl ?_;obtain rfl:=oi bE;exact AD func95 rfl rfl (a6 ((U.Ab a7).Ab bC) rfl ⟨rfl,rfl⟩ bD)
 ·intro bF;refine JL.block (Cu bB (fun V=> []) (fun V=> [(1,sV K p1 O),(5,sV ap am av),(6,iV V)]) Ar bA ?_);rintro V bc Y bd be ⟨ck,Z⟩ bG;have bf:=Z;unfold Na at bf;refine zg 5 rfl (Bj underlying25 rfl rfl rfl ?_);refine zg 2 rfl (AL bf (fun bH bI=>?_) (fun bH bJ=>?_))
  ·obtain⟨bg,bK,bh⟩:=bs bI;refine zg 7 rfl (Bt (fun L s=>∃(bi:Unit) (bj:LH),bg=Sum.inr bi∧Jm bc H bj [] [(1,sV K p1 O),(5,sV ap am av),(6,iV V)] L s) ?_ ?_)
   ·rintro _ _ ⟨bi,bj,rfl,rfl,rfl,bL,bM⟩;have bN:=elim_inr bh;obtain⟨bO,bP,bQ⟩:=bs bN;refine zg 3 rfl (Bb bP rfl rfl rfl ?_);refine zg 2 rfl ?_;obtain rfl:=oi bQ;exact bG bO (Y.Ab bL) bM rfl Z
   ·intro bR;refine JL.block (Cu bK (fun a0=> []) (fun a0=> [(1,sV K p1 O),(5,sV ap am av),(6,iV V),(7,iV a0)]) Ar bd ?_);rintro a0 bS ag a1 bl ⟨cm,al⟩ bT;have bm:=al;unfold M9 at bm;refine zg 6 rfl (AL bm (fun bU bV=>?_) (fun bU bW=>?_))
    ·obtain⟨cn,bY,bZ⟩:=bs bV;refine zg 7 rfl (Cf (bz.Ah (Y.Ab ag)) bY underlying22 BZ ?_);rintro co cp _ ⟨cq,cr,rfl,b0⟩ b1;refine B8 0 b1 CZ rfl rfl rfl ?_;obtain⟨ct,b2,b3⟩:=bs bZ;refine zg 1 rfl (Cf b0 b2 underlying28 AX ?_);rintro cu cv _ rfl b4;refine B8 0 b4 Bx rfl rfl rfl (zg 2 rfl ?_);refine AL b3 (fun b5 b6=>?_) (fun b5 b7=>?_)
     ·refine zg 5 rfl ?_;obtain rfl:=oi b6;obtain rfl:=bl _ al;have b8:=elim_inl bh;obtain rfl:=oi b8;obtain rfl:=be _ Z;have b9:=elim_inl a9;obtain rfl:=oi b9;exact AD func95 rfl rfl (a6 (((U.Ab a7).Ab Y).Ab ag) rfl ⟨rfl,rfl⟩ a1)
     ·obtain⟨ca,cb,cc⟩:=bs b7;refine zg 4 rfl (Bb cb rfl rfl rfl ?_);refine zg 2 rfl ?_;obtain rfl:=oi cc;exact bT ca ag a1 rfl al
    ·refine JL.exit rfl ?_;obtain rfl:=oi bW;have cd:bg=(Sum.inr ()):=(bl _ al).symm;exact Az (bR _ _ ⟨(),bS,cd,rfl,rfl,ag,a1⟩) rfl
  ·refine JL.exit rfl ?_;obtain rfl:=oi bJ;have ce:a8=(Sum.inr ()):=(be _ Z).symm;exact Az (bF _ _ ⟨(),bc,ce,rfl,rfl,Y,bd⟩) rfl
end Pal
namespace Pal
theorem X7{F n:Nat}{lk:Bm}(O:BH n lk):f117 F lk=some ((CC lk:Nat):Int):=by
 have U:=O.len;refine C3 ?_;unfold f117 CC;refine Bq (fun h=>?_) (fun h=>?_)
 ·have:lk= []:=List.length_eq_zero_iff.1 (by omega);subst this;exact Ak rfl
 ·have K:lk.length - 1<lk.length:=by omega
  refine AT ((lk.length - 1:Nat):Int) (by omega) (by omega) (by omega) (Bl (m:=lk.length - 1) rfl K ?_);rw [List.getLast?_eq_getElem?,List.getElem?_eq_getElem K];have:=O.yr _ (List.getElem_mem K);refine Ak ?_;simp only;omega
theorem WY{F:Nat}{l:List Int}{x:Int}(O:100<F)(U:l.length<100):f137 F l x=some (decide (x∈l)):=by
 refine C3 ?_;unfold f137;refine AB (S:=fun q=>(q=Sum.inl true∧x∈l)∨(q=Sum.inr ()∧x ∉ l)) ?_ ?_
 ·refine Cl l.length (fun i s=>s=(i:Int)∧x ∉ l.take i) ⟨rfl,by simp⟩ (by omega) ?_ ?_
  ·rintro i s hi ⟨rfl,K⟩;unfold MC;refine Bs (by omega) (Bl (m:=i) rfl hi ?_);refine Bq (fun h=>?_) (fun h=>?_)
   ·exact Ak (.inl ⟨rfl,h▸List.getElem_mem hi⟩)
   ·refine AT ((i+1:Nat):Int) (by simp) (by omega) (by omega) (Ak ⟨rfl,?_⟩);rw [List.take_add_one,List.getElem?_eq_getElem hi];simp only [Option.toList_some,List.mem_append,List.mem_singleton,not_or];exact⟨K,fun e=>h e.symm⟩
  ·rintro s ⟨rfl,K⟩;unfold MC;rw [List.take_length] at K;exact A7 (by omega) (Ak ⟨_,rfl,.inr ⟨rfl,K⟩⟩)
 ·rintro q (⟨rfl,h⟩ | ⟨rfl,h⟩)
  ·exact Ak (decide_eq_true h).symm
  ·exact Ak (decide_eq_false h).symm
theorem VW:∀k,k<16→Dp (1<<<k)=1:=by decide
def PQ(h:Int)(q:Nat):Prop:=(h= -1∧q=16)∨(h=(q:Int)∧q<8)
theorem WW(lk:Bm)(y:Nat)(m:Int)(k:Nat):∀i,(BS lk y m k).testBit i=true→i<k:=fun i h=>((HM lk y m i k).1 h).1
def Jd(J:JW)(lk:Bm)(q y:Nat)(m:Int)(k:Nat):Prop:=(∀l∈lk.take k,l.1=(y:Int)→Fe J m l=true)∧(BS lk y m k).testBit q=false
theorem Xt{F n m y q:Nat}{J:JW}{lk:Bm}{h:Int}(a6:100<F)(al:VJ n J)(a7:BH n lk)(hm:m<n)(a1:PQ h q):
  f118 F J lk h (y:Int) (m:Int)=some (match Es J lk q y (m:Int) with | some c=>(c:Int) | none=>100):=by
 have bm:=a7.len;refine C3 ?_;unfold f118;refine AB (S:=fun r=>(∃c:Nat,r=Sum.inr (c:Int)∧Es J lk q y (m:Int)=some c)∨(r=Sum.inl 100∧Es J lk q y (m:Int)=none)) ?_ ?_
 ·refine Cl lk.length (fun i s=>s=(((Dp (BS lk y (m:Int) i):Nat):Int),(i:Int))∧Jd J lk q y (m:Int) i) ⟨by simp [BS,show Dp 0=0 by decide],by simp,by simp [BS]⟩ (by omega) ?_ ?_
  ·rintro i s hi ⟨rfl,V,Y⟩;unfold MM;have bn:Dp (BS lk y (m:Int) i)≤16:=Mg _;have a8:Es J lk q y (m:Int)≠none→Jd J lk q y (m:Int) (i+1):=fun am=>by
    unfold Es at am;split at am
    ·rename_i hh;refine⟨fun l O=>OF.1 hh.1 l (List.mem_of_mem_take O),?_⟩;cases hb:(BS lk y (m:Int) (i+1)).testBit q with
     | false=>rfl
     | true=>
      obtain⟨bo,l,g2,a9,ba⟩:=(HM _ _ _ _ _).1 hb;have:=(HM lk y (m:Int) q lk.length).2 ⟨by omega,l,g2,a9,ba⟩;rw [hh.2] at this;cases this
    ·exact absurd rfl am
   refine Bs (by simp only;omega) ?_;have next:∀(c:Int),c=((Dp (BS lk y (m:Int) (i+1)):Nat):Int)→Jd J lk q y (m:Int) (i+1)→A1 ((As ((i:Int)+1)).bind fun x=>some (Bh.more (A:=Int⊕Int) (c,x))) (Bh.sat (fun s=>s=(((Dp (BS lk y (m:Int) (i+1)):Nat):Int),((i+1:Nat):Int))∧Jd J lk q y (m:Int) (i+1)) fun r=>(∃c:Nat,r=Sum.inr (c:Int)∧Es J lk q y (m:Int)=some c)∨(r=Sum.inl 100∧Es J lk q y (m:Int)=none)):=fun c bb bc=>by
    exact AT ((i+1:Nat):Int) (by simp) (by omega) (by omega) (Ak ⟨by rw [bb],bc⟩)
   have U:BS lk y (m:Int) (i+1)=if lk[i].1=(y:Int)∧(m:Int)≠lk[i].2 then BS lk y (m:Int) i ||| 1<<<i else BS lk y (m:Int) i:=by
    rw [BS,List.getElem?_eq_getElem hi]
   have a2:∀l∈lk.take (i+1),l∈lk.take i∨l=lk[i]:=fun l O=>by
    rw [List.take_add_one,List.getElem?_eq_getElem hi] at O;simp only [Option.toList_some,List.mem_append,List.mem_singleton] at O;exact O
   by_cases K:lk[i].1=(y:Int)∧(m:Int)≠lk[i].2
   ·rw [if_pos K] at U;refine AB (S:=fun r=>(r=Sum.inl 100∧¬Jd J lk q y (m:Int) (i+1))∨(r=Sum.inr ((Dp (BS lk y (m:Int) (i+1)):Nat):Int)∧Jd J lk q y (m:Int) (i+1))) ?_ ?_
    ·refine Bl (m:=i) rfl hi (AB (S:=fun b=>b=false) ?_ ?_)
     ·exact A7 (by simp [K.1]) (Ak (decide_eq_false fun e=>K.2 e.symm))
     ·rintro b rfl;refine A7 (by simp) ?_;have bd:(BS lk y (m:Int) (i+1)).testBit i=true:=(HM _ _ _ _ _).2 ⟨by omega,lk[i],List.getElem?_eq_getElem hi,K.1,K.2⟩;have be:Dp (BS lk y (m:Int) (i+1))=Dp (BS lk y (m:Int) i)+1:=by
       rw [U,OI,VW i (by omega)];rintro j ⟨bf,bg⟩;have:=WW _ _ _ _ _ bf;rw [Nat.one_shiftLeft,Nat.testBit_two_pow,decide_eq_true_iff] at bg;omega
      by_cases hh:(i:Int)=h
      ·refine AB (S:=fun b=>b=true) (Bs hh (Ak rfl)) ?_;rintro b rfl;refine Bs rfl (Ak (.inl ⟨rfl,fun ap=>?_⟩));have:q=i:=by rcases a1 with⟨g,_⟩ | ⟨g,_⟩ <;> omega
       have a3:=ap.2;rw [this,bd] at a3;cases a3
      ·have bh:(BS lk y (m:Int) (i+1)).testBit q=false:=by
        rw [U,Nat.testBit_or,Y,Nat.one_shiftLeft,Nat.testBit_two_pow];simp only [Bool.false_or,decide_eq_false_iff_not];intro e;rcases a1 with⟨_,g⟩ | ⟨g,_⟩
        ·omega
        ·exact hh (by omega)
       have ap:=Ep (d:=([]:List Int)) (l:=J.2) (i:=m) (by have:=al.l2;omega);have bp:=(al.PN m).len;refine AB (S:=fun b=>b= !decide (lk[i].2∈J.2.getD m [])) ?_ ?_
       ·refine A7 hh (Bl (m:=m) rfl (by have:=al.l2;omega) ?_);rw [← ap];exact AM (WY a6 (by omega)) (Ak rfl)
       ·rintro b rfl;have a4:Fe J (m:Int) lk[i]=decide (lk[i].2∈J.2.getD m []):=by
         unfold Fe;rw [decide_eq_false K.2];simp
        by_cases Z:lk[i].2∈J.2.getD m []
        ·refine A7 (by rw [decide_eq_true Z];simp) (AT ((Dp (BS lk y (m:Int) i)+1:Nat):Int) (by simp) (by omega) (by omega) ?_);refine Ak (.inr ⟨by rw [be],fun l O ag=>?_,bh⟩);rcases a2 l O with av | rfl
         ·exact V l av ag
         ·rw [a4];exact decide_eq_true Z
        ·refine Bs (by rw [decide_eq_false Z];rfl) (Ak (.inl ⟨rfl,fun bi=>?_⟩));have:=bi.1 lk[i] (by rw [List.take_add_one,List.getElem?_eq_getElem hi];simp only [Option.toList_some,List.mem_append,List.mem_singleton];exact .inr trivial) K.1;rw [a4] at this;exact Z (of_decide_eq_true this)
    ·rintro r (⟨rfl,a0⟩ | ⟨rfl,a0⟩)
     ·rw [Sum.elim_inl];refine Ak (.inr ⟨rfl,?_⟩);cases e:Es J lk q y (m:Int) with
      | none=>rfl
      | some c=>exact absurd (a8 (by rw [e];simp)) a0
     ·rw [Sum.elim_inr];exact next _ rfl a0
   ·rw [if_neg K] at U;have bj:Jd J lk q y (m:Int) (i+1):=⟨fun l O ag=>by
     rcases a2 l O with av | rfl
     ·exact V l av ag
     ·unfold Fe
      by_cases e:(m:Int)=lk[i].2
      ·rw [decide_eq_true e];rfl
      ·exact absurd ⟨ag,e⟩ K,by rw [U];exact Y⟩
    refine AM (b:=Sum.inr ((Dp (BS lk y (m:Int) i):Nat):Int)) ?_ (by rw [Sum.elim_inr];exact next _ (by rw [U]) bj)
    refine C3 (Bl (m:=i) rfl hi ?_);refine AB (S:=fun b=>b=true) ?_ (by rintro b rfl;exact Bs rfl (Ak rfl));refine Bq (fun _=>Ak rfl) (fun e=>Ak (decide_eq_true ?_));have bl:lk[i].1=(y:Int):=by simpa using e
    by_cases a5:(m:Int)=lk[i].2
    ·exact a5.symm
    ·exact absurd ⟨bl,a5⟩ K
  ·rintro s ⟨rfl,V,Y⟩;unfold MM;refine A7 (by simp) (Ak ⟨_,rfl,.inl ⟨_,rfl,?_⟩⟩);rw [List.take_length] at V;unfold Es;rw [if_pos ⟨OF.2 V,Y⟩]
 ·rintro r (⟨c,rfl,h⟩ | ⟨rfl,h⟩)
  ·rw [h];exact Ak rfl
  ·rw [h];exact Ak rfl
end Pal
namespace Pal
theorem JU{α:Type}{f:Nat→α}{N i:Nat}(h:i<N):((List.range N).map f)[i]? =some (f i):=by simp [h]
theorem La{α:Type}{f:Nat→α}{N:Nat}(i:Nat)(v:α):((List.range N).map f).set i v=(List.range N).map (fun j=>if j=i then v else f j):=by
 apply List.ext_getElem?;intro j;by_cases K:j<N
 ·by_cases e:i=j
  ·subst e;rw [List.getElem?_set_self (by simpa using K),JU K,if_pos rfl]
  ·rw [List.getElem?_set_ne e,JU K,JU K,if_neg (fun h=>e h.symm)]
 ·rw [List.getElem?_eq_none (by simpa using K),List.getElem?_eq_none (by simpa using K)]
theorem FK{α:Type}{f g:Nat→α}{N:Nat}(h:∀i,i<N→f i=g i):(List.range N).map f=(List.range N).map g:=List.map_congr_left fun i hi=>h i (List.mem_range.1 hi)
theorem Nr{α:Type}{z:α}{N:Nat}:List.replicate N z=(List.range N).map fun _=>z:=by
 apply List.ext_getElem?;intro j;by_cases K:j<N
 ·rw [JU K,List.getElem?_replicate,if_pos K]
 ·rw [List.getElem?_eq_none (by simpa using K),List.getElem?_eq_none (by simpa using K)]
theorem Gg{α β:Type}{Q:α→Prop}{f:β→Option α}{g:Nat→β}{N i:Nat}{j:Int}(h:j=(i:Int))(hi:i<N)(k:A1 (f (g i)) Q):A1 ((ix ((List.range N).map g) j).bind f) Q:=AM (D3 h (JU hi)) k
def NM(J:JW)(lk:Bm)(q d y:Nat)(m:Int):List Int:=(List.range (lk.length+1)).map fun k=>((ways J lk q d y m k:Nat):Int)
def WR(J:JW)(lk:Bm)(q d y:Nat):List (List Int):=(List.range J.1.length).map fun(m:Nat)=>NM J lk q d y (m:Int)
def HZ(J:JW)(lk:Bm)(q t:Nat):List (List (List Int)):=(List.range (CC lk+1)).map fun j=>if j<t then [] else WR J lk q (CC lk - j) j
def GI(J:JW)(lk:Bm)(q d y:Nat)(m:Int)(t:Nat):List Int:=(List.range (lk.length+1)).map fun k=>if k<t then((ways J lk q d y m k:Nat):Int) else 0
theorem Xa{J:JW}{lk:Bm}{q d y c k:Nat}{m:Int}(h:Es J lk q y m=some c)(K:k<c):ways J lk q d y m k=0:=by
 cases d with
 | zero=>unfold ways;rw [h];simp only;rw [if_neg (by omega)]
 | succ d=>unfold ways;rw [h];simp only;rw [if_neg (by omega)]
theorem Xn{J:JW}{lk:Bm}{q d y k:Nat}{m:Int}(h:Es J lk q y m=none):ways J lk q d y m k=0:=by
 cases d with
 | zero=>unfold ways;rw [h]
 | succ d=>unfold ways;rw [h]
theorem Zj{J:JW}{lk:Bm}{q d y c:Nat}{m:Int}(h:Es J lk q y m=some c):List.replicate (lk.length+1) (0:Int)=GI J lk q d y m c:=by
 rw [Nr];refine FK fun i _=>?_;split
 ·rename_i hi;rw [Xa h hi];rfl
 ·rfl
theorem VM{J:JW}{lk:Bm}{q d y t:Nat}{m:Int}(h:lk.length<t):GI J lk q d y m t=NM J lk q d y m:=FK fun i hi=>if_pos (by omega)
theorem aV{d:Nat}(h:d≤6):3 ^ d≤729:=Nat.le_trans (Nat.pow_le_pow_right (by omega) h) (by decide)
theorem OP{n q d y k:Nat}{J:JW}{lk:Bm}{m:Int}(K:VJ n J)(O:d≤6):ways J lk q d y m k≤729:=Nat.le_trans (RQ K d y m k) (aV O)
theorem U4{F n q y m c k d:Nat}{J:JW}{lk:Bm}{cur:List (List Int)×Int}{st:List Int×Int}(a6:100<F)(Y:VJ n J)(ag:BH n lk)(hm:m<n)(a7:y+(d+1)=CC lk)(a8:k≤lk.length)(a2:c≤k)(a3:Es J lk q y (m:Int)=some c)(al:cur.2=(m:Int))(am:st.2=(k:Int)):
  iter (K0 F J (HZ J lk q (y+1),(y:Int)) cur (c:Int) st) F (GI J lk q (d+1) y (m:Int) k,0)=some (GI J lk q (d+1) y (m:Int) (k+1)):=by
 have a9:=Y.l1;have ba:=ag.len;have bb:=Ik ag;have K:=Y.FQ m;have bc:=K.len;have O:m<J.1.length:=by omega
 have Z:J.1.getD m []=J.1[m]:=Ep O;have ap:∀i,((((J.1.getD m []).take i).map fun x=>ways J lk q d (y+1) x (k - c)).sum)≤3*729:=fun i=>by
  refine Nat.le_trans (O9 (b:=729) fun z a4=>?_) ?_
  ·obtain⟨x,_,rfl⟩:=List.mem_map.1 a4;exact OP Y (by omega)
  ·rw [List.length_map,List.length_take];exact Nat.mul_le_mul_right _ (by have:=K.len;omega)
 have U:∀v:Int,(GI J lk q (d+1) y (m:Int) k).set k v=(List.range (lk.length+1)).map fun j=>if j=k then v else if j<k then((ways J lk q (d+1) y (m:Int) j:Nat):Int) else 0:=fun v=>La k v
 refine C3 (Cl (J.1.getD m []).length (fun i s=>s=((GI J lk q (d+1) y (m:Int) k).set k ((((((J.1.getD m []).take i).map fun x=>ways J lk q d (y+1) x (k - c)).sum:Nat)):Int),(i:Int))) ?_ (by have:=K.len;omega) ?_ ?_)
 ·rw [U];refine Prod.ext (FK fun j av=>?_) rfl;by_cases e:j=k
  ·subst e;simp
  ·rw [if_neg e]
 ·rintro i s hi rfl;unfold K0;simp only [al,am];have bd:=K.inr _ (List.getElem_mem hi);obtain⟨V,a0⟩:∃V:Nat,(J.1.getD m [])[i]=(V:Int):=⟨((J.1.getD m [])[i]).toNat,by omega⟩;have be:=ap i;have bf:=ap (i+1);have a5:(((J.1.getD m []).take (i+1)).map fun x=>ways J lk q d (y+1) x (k - c)).sum=(((J.1.getD m []).take i).map fun x=>ways J lk q d (y+1) x (k - c)).sum+ways J lk q d (y+1) (V:Int) (k - c):=by
   rw [List.take_add_one,List.getElem?_eq_getElem hi,a0];simp
  refine Bl (m:=m) rfl O ?_;rw [← Z];refine Bs (by omega) ?_;rw [U];refine Gg (i:=k) rfl (by omega) ?_;rw [if_pos rfl];refine AT ((y+1:Nat):Int) (by simp) (by omega) (by omega) (Gg (i:=y+1) rfl (by omega) ?_);rw [if_neg (by omega)];refine Bl (m:=m) rfl O ?_;rw [← Z];refine Bl (m:=i) rfl hi ?_;rw [a0];refine Gg (i:=V) rfl (by omega) (AT ((k - c:Nat):Int) (by omega) (by omega) (by omega) ?_);refine Gg (i:=k - c) rfl (by omega) ?_;rw [show CC lk - (y+1)=d by omega];refine AT ((((((J.1.getD m []).take (i+1)).map fun x=>ways J lk q d (y+1) x (k - c)).sum:Nat)):Int) (by rw [a5];simp only [Int.natCast_add]) (by omega) (by omega) (Gg (i:=k) rfl (by omega) ?_);refine AT ((i+1:Nat):Int) (by simp) (by omega) (by omega) (Ak (Prod.ext ?_ rfl));simp only;rw [show Int.toNat (k:Int)=k by omega,La,U];refine FK fun j av=>?_;by_cases e:j=k
  ·rw [if_pos e,if_pos e]
  ·rw [if_neg e,if_neg e,if_neg e]
 ·rintro s rfl;unfold K0;simp only [al,am];refine Bl (m:=m) rfl O ?_;rw [← Z];refine A7 (by omega) (Ak ⟨_,rfl,?_⟩);rw [U,List.take_length];refine FK fun j av=>?_;by_cases e:j=k
  ·subst e;rw [if_pos rfl,if_pos (by omega)]
   conv=>rhs;unfold ways
   rw [a3];simp only;rw [if_pos a2,show((m:Int)).toNat=m by omega]
  ·rw [if_neg e];by_cases a1:j<k
   ·rw [if_pos a1,if_pos (by omega)]
   ·rw [if_neg a1,if_neg (by omega)]
theorem U1{F n q y m d:Nat}{J:JW}{lk:Bm}{cur:List (List Int)×Int}(Y:100<F)(Z:VJ n J)(O:BH n lk)(hm:m<n)(ag:y+d=CC lk)(al:cur.2=(m:Int)):
  iter (J0 F J lk ((CC lk:Nat):Int) (HZ J lk q (y+1),(y:Int)) cur (match Es J lk q y (m:Int) with | some c=>(c:Int) | none=>100)) F (List.replicate (lk.length+1) 0,match Es J lk q y (m:Int) with | some c=>(c:Int) | none=>100)=some (NM J lk q d y (m:Int)):=by
 have av:=O.len;have a0:=Ik O;refine C3 ?_;cases K:Es J lk q y (m:Int) with
 | none=>
  simp only;refine Cl 0 (fun i s=>s=(List.replicate (lk.length+1) 0,100)) rfl (by omega) (fun i s hi=>by omega) ?_;rintro s rfl;unfold J0;refine A7 (by simp only;omega) (Ak ⟨_,rfl,?_⟩);rw [Nr];exact FK fun j U=>by rw [Xn K];rfl
 | some c=>
  simp only;rw [Zj (d:=d) K];have a1:c≤16:=by
   unfold Es at K;split at K
   ·cases K;exact Mg _
   ·cases K
  refine Cl (lk.length+1 - c) (fun i s=>s=(GI J lk q d y (m:Int) (c+i),((c+i:Nat):Int))) rfl (by omega) ?_ ?_
  ·rintro i s hi rfl;unfold J0;refine Bs (by simp only;omega) (AB (S:=fun r=>r=GI J lk q d y (m:Int) (c+(i+1))) ?_ ?_)
   ·cases d with
    | zero=>
     refine Bs (by simp only;omega) (AB (S:=fun r=>r=GI J lk q 0 y (m:Int) (c+(i+1))) ?_ (fun r am=>Ak am));have key:∀v:Int,v=((ways J lk q 0 y (m:Int) (c+i):Nat):Int)→(List.range (lk.length+1)).map (fun j=>if j=c+i then v else if j<c+i then((ways J lk q 0 y (m:Int) j:Nat):Int) else 0)=GI J lk q 0 y (m:Int) (c+(i+1)):=fun v ap=>FK fun j U=>by
      by_cases e:j=c+i
      ·rw [if_pos e,if_pos (by omega),e,ap]
      ·rw [if_neg e];by_cases V:j<c+i
       ·rw [if_pos V,if_pos (by omega)]
       ·rw [if_neg V,if_neg (by omega)]
     refine Bq (fun h=>?_) (fun h=>?_)
     ·simp only at h;refine Gg (i:=c+i) rfl (by omega) (Ak ?_);simp only;rw [show Int.toNat ((c+i:Nat):Int)=c+i by omega];unfold GI;rw [La];refine key 1 ?_;unfold ways;rw [K];simp only;rw [if_pos (by omega)];rfl
     ·simp only at h;refine Ak ?_;rw [← key 0 (by unfold ways;rw [K];simp only;rw [if_neg (by omega)];rfl)];refine FK fun j U=>?_;by_cases e:j=c+i
      ·rw [if_pos e,if_neg (by omega)]
      ·rw [if_neg e]
    | succ d=>
     refine A7 (by simp only;omega) (AM (U4 (st:=(GI J lk q (d+1) y (m:Int) (c+i),((c+i:Nat):Int))) Y Z O hm ag (by omega) (by omega) K al rfl) (Ak rfl))
   ·rintro r rfl;exact AT ((c+(i+1):Nat):Int) (by simp only;omega) (by omega) (by omega) (Ak rfl)
  ·rintro s rfl;unfold J0;refine A7 (by simp only;omega) (Ak ⟨_,rfl,VM (by omega)⟩)
theorem Y4{F n q:Nat}{J:JW}{lk:Bm}{h:Int}(U:100<F)(K:VJ n J)(O:BH n lk)(Y:PQ h q):f80 F J lk h=some (HZ J lk q 0):=by
 have Z:=K.l1;have am:=O.len;have ap:=Ik O;have av:=K.le;have a0:=K.pos;refine C3 ?_;unfold f80;refine AM (X7 O) ?_;refine AT ((CC lk+1:Nat):Int) (by simp) (by omega) (by omega) ?_;refine AM (b:=HZ J lk q (CC lk+1)) ?_ ?_
 ·unfold F3;rw [if_pos (by omega),show Int.toNat ((CC lk+1:Nat):Int)=CC lk+1 by omega,Nr];exact congrArg some (FK fun i hi=>(if_pos hi).symm)
 refine AB (S:=fun r=>r=HZ J lk q 0) ?_ (fun r ag=>Ak ag);refine KB (fun t s=>t≤CC lk+1∧s=(HZ J lk q t,(t:Int) - 1)) ?_ (m:=CC lk+1) ⟨Nat.le_refl _,by simp⟩ (by omega);rintro t s ⟨ht,rfl⟩;unfold O5;cases t with
 | zero=>exact A7 (by simp) (Ak rfl)
 | succ y=>
  have al:((y+1:Nat):Int) - 1=(y:Int):=by omega
  simp only [al];refine Bs (by omega) (Gg (i:=y) rfl (by omega) ?_);rw [if_pos (by omega)];refine AM (b:=()) (by simp [Ly]) (AB (S:=fun r=>r=WR J lk q (CC lk - y) y) ?_ ?_)
  ·refine Cl n (fun i s=>s=((List.range i).map (fun m=>NM J lk q (CC lk - y) y ((m:Nat):Int)),(i:Int))) rfl (by omega) ?_ ?_
   ·rintro i s hi rfl;unfold MX;refine Bs (by simp only;omega) (AT ((lk.length+1:Nat):Int) (by simp) (by omega) (by omega) ?_);refine AM (b:=List.replicate (lk.length+1) (0:Int)) (by unfold F3;rw [if_pos (by omega)];rfl) (AM (Xt U K O hi Y) ?_);refine AM (U1 (d:=CC lk - y) U K O hi (by omega) rfl) (Kr (by simp;omega) ?_);refine AT ((i+1:Nat):Int) (by simp) (by omega) (by omega) (Ak (Prod.ext ?_ rfl));simp only;rw [List.range_succ,List.map_append];rfl
   ·rintro s rfl;unfold MX;refine A7 (by simp only;omega) (Ak ⟨_,rfl,?_⟩);unfold WR;rw [Z]
  ·rintro r rfl;refine AM (b:=()) ?_ ?_
   ·unfold NS;rw [if_neg];intro e;have:=congrArg List.length e;unfold WR at this;rw [List.length_map,List.length_range] at this;simp only [List.length_nil] at this;omega
   refine AT ((y:Int) - 1) rfl (by omega) (by omega) (Ak ⟨y,Nat.lt_succ_self y,by omega,Prod.ext ?_ rfl⟩);simp only;rw [show Int.toNat (y:Int)=y by omega];unfold HZ;rw [La];refine FK fun j a1=>?_;by_cases e:j=y
   ·rw [if_pos e,e,if_neg (by omega)]
   ·rw [if_neg e];by_cases V:j<y
    ·rw [if_pos (by omega),if_pos V]
    ·rw [if_neg (by omega),if_neg V]
end Pal
namespace Pal
def Gn(J:JW)(lk:Bm)(q a m k:Nat):Nat:=((CB (AG J a) m).map fun x=>ways J lk q (CC lk) 0 x k).sum
theorem Xx{n q a m k:Nat}{J:JW}{lk:Bm}(K:VJ n J)(O:BH n lk)(hm:m≤8):Gn J lk q a m k≤8*729:=by
 refine Nat.le_trans (O9 (b:=729) fun z U=>?_) ?_
 ·obtain⟨x,_,rfl⟩:=List.mem_map.1 U;exact OP K (Ik O)
 ·rw [List.length_map];exact Nat.mul_le_mul_right _ (Nat.le_trans (Kn _ _) hm)
theorem Xe{n q a k:Nat}{J:JW}{lk:Bm}(K:VJ n J):Gn J lk q a n k=nT J lk q a k:=by
 have O:=K.le;rw [WX K];unfold Gn;have:=Ud (IB K a) (16 - n);rw [show n+(16 - n)=16 by omega] at this;rw [this]
def TR(J:JW)(lk:Bm)(q a:Nat):List Int:=(List.range (lk.length+1)).map fun k=>((nT J lk q a k:Nat):Int)
def TC(J:JW)(lk:Bm)(q:Nat):List (List Int):=(List.range 13).map (TR J lk q)
theorem aE{J:JW}{lk:Bm}{q:Nat}:(HZ J lk q 0)[0]? =some (WR J lk q (CC lk) 0):=by
 unfold HZ;rw [JU (by omega),if_neg (by omega)];rfl
theorem Zx{F n q:Nat}{J:JW}{lk:Bm}{h:Int}(U:100<F)(K:VJ n J)(O:BH n lk)(al:PQ h q):f79 F J lk h=some (TC J lk q):=by
 have a1:=K.l1;have a2:=O.len;have a3:=K.le;refine C3 ?_;unfold f79;refine AM (Y4 U K O al) ?_;refine AB (S:=fun r=>r=TC J lk q) ?_ (fun r am=>Ak am);refine Cl 13 (fun a s=>s=((List.range a).map (TR J lk q),(a:Int))) rfl (by omega) ?_ ?_
 ·rintro a s ap rfl;unfold MZ;refine Bs (by simp only;omega) (AT ((lk.length+1:Nat):Int) (by simp) (by omega) (by omega) ?_);refine AM (b:=List.replicate (lk.length+1) (0:Int)) (by unfold F3;rw [if_pos (by omega)];rfl) (AB (ZP U K ap) ?_);rintro l ⟨a4,av⟩;refine AB (S:=fun r=>r=TR J lk q a) ?_ ?_
  ·refine Cl n (fun m s=>s=((List.range (lk.length+1)).map (fun k=>((Gn J lk q a m k:Nat):Int)),(m:Int))) ?_ (by omega) ?_ ?_
   ·rw [Nr];rfl
   ·rintro m s hm rfl;unfold M5;refine Bs (by simp only;omega) ?_;have V:ix l (m:Int)=some ((AG J a).testBit m):=D3 rfl (av m hm);have Y:∀k,Gn J lk q a (m+1) k=if(AG J a).testBit m=true then Gn J lk q a m k+ways J lk q (CC lk) 0 (m:Int) k else Gn J lk q a m k:=fun k=>by
     unfold Gn;rw [N8];split
     ·simp
     ·rfl
    refine AB (S:=fun r=>r=(List.range (lk.length+1)).map (fun k=>((Gn J lk q a (m+1) k:Nat):Int))) ?_ ?_
    ·cases hb:(AG J a).testBit m with
     | false=>
      refine Cl 0 (fun i s=>s=((List.range (lk.length+1)).map (fun k=>((Gn J lk q a m k:Nat):Int)),(0:Int))) rfl (by omega) (fun i s hi=>by omega) ?_;rintro s rfl;unfold K7;refine AM (b:=false) ?_ ?_
      ·simp only;rw [if_pos (by simp),V,hb];rfl
      ·refine A7 (by simp) (Ak ⟨_,rfl,FK fun k _=>?_⟩);rw [Y,hb,if_neg (by simp)]
     | true=>
      refine Cl (lk.length+1) (fun i s=>s=((List.range (lk.length+1)).map (fun k=>if k<i then((Gn J lk q a (m+1) k:Nat):Int) else((Gn J lk q a m k:Nat):Int)),(i:Int))) ?_ (by omega) ?_ ?_
      ·exact Prod.ext (FK fun k _=>(if_neg (by omega)).symm) rfl
      ·rintro i s hi rfl;unfold K7;refine AM (b:=true) ?_ ?_
       ·simp only;rw [if_pos (by simp;omega),V,hb];rfl
       refine Bs rfl (Gg (i:=i) rfl hi ?_);rw [if_neg (by omega)];refine AM (D3 (m:=0) rfl aE) (Gg (i:=m) rfl (by omega) ?_);refine Gg (i:=i) rfl hi ?_;have a5:=Xx (q:=q) (a:=a) (m:=m) (k:=i) K O (by omega);have a6:=OP (q:=q) (d:=CC lk) (y:=0) (k:=i) (m:=(m:Int)) (lk:=lk) K (Ik O);have Z:=Y i;rw [hb,if_pos rfl] at Z;refine AT ((Gn J lk q a (m+1) i:Nat):Int) (by rw [Z];simp only [Int.natCast_add]) (by omega) (by omega) (Gg (i:=i) rfl hi ?_);refine AT ((i+1:Nat):Int) (by simp) (by omega) (by omega) (Ak (Prod.ext ?_ rfl));simp only;rw [show Int.toNat (i:Int)=i by omega,La];refine FK fun j a7=>?_;by_cases e:j=i
       ·rw [if_pos e,if_pos (by omega),e]
       ·rw [if_neg e];by_cases ag:j<i
        ·rw [if_pos ag,if_pos (by omega)]
        ·rw [if_neg ag,if_neg (by omega)]
      ·rintro s rfl;unfold K7;refine AM (b:=false) ?_ ?_
       ·rw [if_neg (by simp)]
       ·refine A7 (by simp) (Ak ⟨_,rfl,FK fun k a0=>if_pos a0⟩)
    ·rintro r rfl;exact AT ((m+1:Nat):Int) (by simp) (by omega) (by omega) (Ak rfl)
   ·rintro s rfl;unfold M5;refine A7 (by simp only;omega) (Ak ⟨_,rfl,FK fun k _=>?_⟩);rw [Xe K]
  ·rintro r rfl;refine Kr (by simp;omega) (AT ((a+1:Nat):Int) (by simp) (by omega) (by omega) ?_);refine Ak (Prod.ext ?_ rfl);simp only;rw [List.range_succ,List.map_append];rfl
 ·rintro s rfl;unfold MZ;exact A7 (by simp) (Ak ⟨_,rfl,rfl⟩)
theorem Q9{n a:Nat}{J:JW}{lk:Bm}(K:VJ n J)(O:BH n lk){t:CR}(ht:t∈TA J lk a):CV t≤lk.length:=by
 rw [OC K O ht];exact List.length_filter_le _ _
theorem YT{n q a k:Nat}{J:JW}{lk:Bm}(K:VJ n J)(O:BH n lk)(U:lk.length≤q):0<nT J lk q a k↔∃t∈TA J lk a,CV t=k:=by
 rw [Xs K O U,List.countP_pos_iff];simp only [decide_eq_true_iff]
theorem MO{F n:Nat}{J:JW}{lk:Bm}(av:100<F)(Z:VJ n J)(V:BH n lk):A1 (f95 F J lk) (fun r=>(TT J lk= []∧r= -1)∨∃k,CX J lk k∧r=(k:Int)):=by
 have a2:=V.len;have al:∀a k,0<nT J lk 16 a k↔∃t∈TA J lk a,CV t=k:=fun a k=>YT Z V (by omega);unfold f95;refine AM (Zx av Z V (.inl ⟨rfl,rfl⟩)) ?_;refine AB (S:=fun r=>(r=Sum.inr ()∧TT J lk= [])∨∃k,CX J lk k∧r=Sum.inl (k:Int)) ?_ ?_
 ·refine Cl (lk.length+1) (fun k s=>s=(k:Int)∧∀k',k'<k→∀a,a<13→∀t∈TA J lk a,CV t≠k') ⟨rfl,fun k' am=>by omega⟩ (by omega) ?_ ?_
  ·rintro k s am ⟨rfl,Y⟩;unfold Na;refine Bs (by omega) (AB (S:=fun r=>(r=Sum.inr ()∧∀a,a<13→∀t∈TA J lk a,CV t≠k)∨(r=Sum.inl (k:Int)∧∃a,a<13∧∃t∈TA J lk a,CV t=k)) ?_ ?_)
   ·refine Cl 13 (fun a s=>s=(a:Int)∧∀U,U<a→∀t∈TA J lk U,CV t≠k) ⟨rfl,fun U K=>by omega⟩ (by omega) ?_ ?_
    ·rintro a s K ⟨rfl,ag⟩;unfold M9;refine Bs (by omega) (Gg (i:=a) rfl K ?_);refine Gg (i:=k) rfl am (Bq (fun h=>?_) (fun h=>?_))
     ·exact Ak (.inr ⟨rfl,a,K,(al a k).1 (by omega)⟩)
     ·refine AT ((a+1:Nat):Int) (by simp) (by omega) (by omega) (Ak ⟨rfl,fun U a3 t ht e=>?_⟩);rcases Nat.lt_or_ge U a with O | O
      ·exact ag U O t ht e
      ·obtain rfl:U=a:=by omega
       have:=(al U k).2 ⟨t,ht,e⟩;omega
    ·rintro s ⟨rfl,ag⟩;unfold M9;exact A7 (by omega) (Ak ⟨_,rfl,.inl ⟨rfl,ag⟩⟩)
   ·rintro r (⟨rfl,a0⟩ | ⟨rfl,a,K,t,ht,e⟩)
    ·rw [Sum.elim_inr];refine AT ((k+1:Nat):Int) (by simp) (by omega) (by omega) (Ak ⟨rfl,fun k' a4 a K t ht e=>?_⟩);rcases Nat.lt_or_ge k' k with O | O
     ·exact Y k' O a K t ht e
     ·obtain rfl:k'=k:=by omega
      exact a0 a K t ht e
    ·rw [Sum.elim_inl];refine Ak (.inr ⟨k,⟨⟨t,Iw.2 ⟨a,K,ht⟩,e⟩,fun u hu=>?_⟩,rfl⟩);obtain⟨b,hb,a1⟩:=Iw.1 hu;rcases Nat.lt_or_ge (CV u) k with O | O
     ·exact absurd rfl (Y _ O b hb u a1)
     ·exact O
  ·rintro s ⟨rfl,Y⟩;unfold Na;refine A7 (by omega) (Ak ⟨_,rfl,.inl ⟨rfl,?_⟩⟩);refine List.eq_nil_iff_forall_not_mem.2 fun t ht=>?_;obtain⟨a,K,ap⟩:=Iw.1 ht;exact Y _ (by have:=Q9 Z V ap;omega) a K t ap rfl
 ·rintro r (⟨rfl,h⟩ | ⟨k,h,rfl⟩)
  ·exact Ak (.inl ⟨h,rfl⟩)
  ·exact Ak (.inr ⟨k,h,rfl⟩)
end Pal
namespace Pal
theorem Uq{n:Nat}{lk:Bm}(h:HS n lk=none):BH n lk∧lk.length≤4:=by
 unfold HS at h;split at h
 ·cases h
 rename_i ap;have K:∀i (hi:i<lk.length),¬(lk[i].1<0∨6<lk[i].1)∧¬(0<i∧lk[i].1<(lk.getD (i - 1) (0,0)).1)∧¬(lk[i].2<0∨(n:Int) - 1<lk[i].2):=fun i hi=>by
  have:=List.findSome?_eq_none_iff.1 h i (List.mem_range.2 hi);unfold Fh at this;rw [Ep hi] at this;split at this
  ·cases this
  ·split at this
   ·cases this
   ·split at this
    ·cases this
    ·rename_i V Y Z;exact⟨V,Y,Z⟩
 refine⟨⟨by omega,fun l O=>?_,fun l O=>?_,?_⟩,by omega⟩
 ·obtain⟨i,hi,rfl⟩:=List.mem_iff_getElem.1 O;have:=(K i hi).1;omega
 ·obtain⟨i,hi,rfl⟩:=List.mem_iff_getElem.1 O;have:=(K i hi).2.2;omega
 ·have step:∀i (hi:i+1<lk.length),lk[i].1≤lk[i+1].1:=fun i hi=>by
   have:=(K (i+1) hi).2.1;rw [show i+1 - 1=i by omega,Ep (by omega)] at this;omega
  rw [List.pairwise_iff_getElem];intro i j hi av a0;have key:∀k (U:i+1+k<lk.length),lk[i].1≤lk[i+1+k].1:=fun k=>by
   induction k with
   | zero=>intro U;exact step i U
   | succ k ag=>intro U;have al:=ag (by omega);have am:=step (i+1+k) (by omega);exact Int.le_trans al am
  have:=key (j - i - 1) (by omega);simpa [show i+1+(j - i - 1)=j by omega] using this
theorem Kx{J:JW}{lk:Bm}(h:CL J lk=0):VJ J.1.length J∧BH J.1.length lk∧lk.length≤4:=by
 unfold CL at h;cases O:CJ J with
 | some c=>rw [O] at h;exact absurd h (Te O)
 | none=>
  rw [O] at h;refine⟨VU O,Uq ?_⟩;cases K:HS J.1.length lk with
  | none=>rfl
  | some c=>
   rw [K] at h;simp only [Option.getD_some] at h;subst h;exfalso;unfold HS at K;split at K
   ·cases K
   ·obtain⟨i,_,hi⟩:=List.exists_of_findSome?_eq_some K;unfold Fh at hi;split at hi
    ·cases hi
    ·split at hi
     ·cases hi
     ·split at hi <;> cases hi
theorem S4{F:Nat}{J:JW}{lk:Bm}(K:100<F)(O:NL J)(h:CL J lk=0):Hx F J lk=f69 F J lk:=by
 obtain⟨U,V,Y⟩:=Kx h;rw [Mp K O,h,O0 K U V Y]
theorem CX.ne{J:JW}{lk:Bm}{k:Nat}(h:CX J lk k):TT J lk≠ []:=fun e=>by
 obtain⟨⟨t,ht,_⟩,_⟩:=h
 rw [e] at ht;simp at ht
end Pal
namespace Pal
theorem CX.le{n k:Nat}{J:JW}{lk:Bm}(K:VJ n J)(O:BH n lk)(h:CX J lk k):k≤lk.length:=by
 obtain⟨⟨t,ht,rfl⟩,_⟩:=h;obtain⟨a,V,U⟩:=Iw.1 ht;exact Q9 K O U
end Pal
namespace Pal
def PG(xs:Bm)(j i:Nat):Prop:=∀(p q:Nat) x y,p<q→q≤i→q≠j→xs[p]? =some x→xs[q]? =some y→x.1≤y.1
theorem W3{F:Nat}{x y:Int×Int}(K:0≤x.1∧x.1≤6)(O:0≤y.1∧y.1≤6):f125 F x y=some (x.1 - y.1):=by
 unfold f125;rw [show As (x.1 - y.1)=some (x.1 - y.1) from if_pos (by omega)];rfl
theorem XZ{F i:Nat}:∀(j fuel:Nat) (xs:Bm),j<fuel→j≤i→i<xs.length→xs.length<100→(∀l∈xs,0≤l.1∧l.1≤6)→PG xs j i→
  A1 (iter (JJ F 0) fuel ((j:Int),xs)) (fun ys=>ys.Perm xs∧PG ys (i+1) i):=by
 intro j
 induction j with
 | zero=>
  intro fuel xs a5 a6 hi a0 al V;obtain⟨fuel,rfl⟩:∃k,fuel=k+1:=⟨fuel - 1,by omega⟩;refine⟨xs,?_,.refl _,fun p q x y am Y _ K al=>V p q x y am Y (by omega) K al⟩;simp [iter,JJ]
 | succ j a7=>
  intro fuel xs a5 a6 hi a0 al V;obtain⟨fuel,rfl⟩:∃k,fuel=k+1:=⟨fuel - 1,by omega⟩;have Z:j+1<xs.length:=by omega
  have U:j<xs.length:=by omega
  have a8:=al _ (List.getElem_mem Z);have a9:=al _ (List.getElem_mem U);have a1:((xs.set (j+1) xs[j]).set j xs[j+1]).Perm xs:=List.set_set_perm Z U;have ba:A1 (JJ F 0 (((j+1:Nat):Int),xs)) (fun st=>st=if xs[j+1].1<xs[j].1 then .more ((j:Int),(xs.set (j+1) xs[j]).set j xs[j+1]) else .done xs):=by
   unfold JJ;refine AB (S:=fun c=>c=decide (xs[j+1].1<xs[j].1)) ?_ ?_
   ·refine Bs (by simp only;omega) (Bl (m:=j+1) rfl Z ?_);refine AT (j:Int) (by simp) (by omega) (by omega) (Bl (m:=j) rfl U ?_);exact AM (W3 a8 a9) (Ak (decide_eq_decide.2 (by simp only;omega)))
   ·rintro c rfl;refine Bq (fun h=>?_) (fun h=>?_)
    ·rw [if_pos (of_decide_eq_true h)];refine AT (j:Int) (by simp) (by omega) (by omega) (AT (j:Int) (by simp) (by omega) (by omega) ?_);refine Bl (m:=j) rfl U (Bl (m:=j+1) rfl Z ?_);refine Bl (m:=j) rfl (by simpa using U) (AT (j:Int) (by simp) (by omega) (by omega) ?_);exact Ak rfl
    ·rw [if_neg (fun bb=>h (decide_eq_true bb))];exact Ak rfl
  obtain⟨st,bc,ap⟩:=ba;unfold Pal.iter;rw [bc];by_cases a2:xs[j+1].1<xs[j].1
  ·rw [if_pos a2] at ap;subst ap;simp only;have hg:∀q:Nat,((xs.set (j+1) xs[j]).set j xs[j+1])[q]? =if q=j then some xs[j+1] else if q=j+1 then some xs[j] else xs[q]? :=fun q=>by
    by_cases e:q=j
    ·subst e;rw [if_pos rfl,List.getElem?_set_self (by simpa using U)]
    ·rw [if_neg e,List.getElem?_set_ne (Ne.symm e)];by_cases av:q=j+1
     ·subst av;rw [if_pos rfl,List.getElem?_set_self Z]
     ·rw [if_neg av,List.getElem?_set_ne (Ne.symm av)]
   refine(a7 fuel _ (by omega) (by omega) (by simpa using hi) (by simpa using a0) (fun l bd=>al l (a1.mem_iff.1 bd)) ?_).Ah ?_
   ·intro p q x y am Y be K O;rw [hg] at K O;rw [if_neg be] at O;have bf:xs[j+1]? =some xs[j+1]:=List.getElem?_eq_getElem Z;have a3:xs[j]? =some xs[j]:=List.getElem?_eq_getElem U;by_cases eq:q=j+1
    ·rw [if_pos eq] at O;cases O;by_cases ag:p=j
     ·rw [if_pos ag] at K;cases K;omega
     ·rw [if_neg ag,if_neg (by omega)] at K;exact V p j _ _ (by omega) (by omega) (by omega) K a3
    ·rw [if_neg eq] at O;by_cases ag:p=j
     ·rw [if_pos ag] at K;cases K;exact V (j+1) q _ _ (by omega) Y eq bf O
     ·rw [if_neg ag] at K;by_cases a4:p=j+1
      ·rw [if_pos a4] at K;cases K;exact V j q _ _ (by omega) Y eq a3 O
      ·rw [if_neg a4] at K;exact V p q _ _ am Y eq K O
   ·rintro ys ⟨bg,g2⟩;exact⟨bg.trans a1,g2⟩
  ·rw [if_neg a2] at ap;subst ap;refine⟨xs,rfl,.refl _,?_⟩;intro p q x y am Y _ K O;by_cases eq:q=j+1
   ·subst eq;rw [List.getElem?_eq_getElem Z] at O;cases O;by_cases ag:p=j
    ·subst ag;rw [List.getElem?_eq_getElem U] at K;cases K;omega
    ·have:=V p j _ _ (by omega) (by omega) (by omega) K (List.getElem?_eq_getElem U);omega
   ·exact V p q _ _ am Y eq K O
theorem WV{F:Nat}{xs:Bm}(a5:100<F)(a6:xs.length<20)(ag:∀l∈xs,0≤l.1∧l.1≤6):A1 (f168 F xs 0 (xs.length:Int)) (fun ys=>ys.Perm xs∧ys.Pairwise (fun a b=>a.1≤b.1)):=by
 unfold f168;refine AT 1 rfl (by omega) (by omega) (AB (S:=fun ys=>ys.Perm xs∧ys.Pairwise (fun a b=>a.1≤b.1)) ?_ (fun r al=>Ak al));have am:∀ys:Bm,ys.Perm xs→(∀(p q:Nat) x y,p<q→ys[p]? =some x→ys[q]? =some y→x.1≤y.1)→ys.Pairwise (fun a b=>a.1≤b.1):=fun ys _ h=>by
  rw [List.pairwise_iff_getElem];intro i j hi ap av;exact h i j _ _ av (List.getElem?_eq_getElem hi) (List.getElem?_eq_getElem ap)
 refine KB (fun m s=>∃i:Nat,s.1=(i:Int)∧1≤i∧m=xs.length - i∧s.2.Perm xs∧PG s.2 i (i - 1)) ?_ (m:=xs.length - 1) ⟨1,rfl,Nat.le_refl _,rfl,.refl _,fun p q x y K a0 _ _ _=>by omega⟩ (by omega);rintro m ⟨c,ys⟩ ⟨i,Z,a7,a8,O,Y⟩;simp only at Z O Y;subst Z;unfold OQ;have hlen:=O.length_eq;refine Bq (fun h=>?_) (fun h=>?_)
 ·simp only at h;refine AB (XZ (i:=i) i F ys (by omega) (Nat.le_refl _) (by omega) (by omega) (fun l a1=>ag l (O.mem_iff.1 a1)) ?_) ?_
  ·intro p q x y K a2 a3 V U;exact Y p q x y K (by omega) a3 V U
  ·rintro a9 ⟨a4,g2⟩;exact AT ((i+1:Nat):Int) (by simp) (by omega) (by omega) (Ak ⟨xs.length - (i+1),by omega,i+1,rfl,by omega,rfl,a4.trans O,fun p q x y K a2 _ V U=>g2 p q x y K (by omega) (by omega) V U⟩)
 ·simp only at h;refine Ak ⟨O,am ys O fun p q x y K V U=>?_⟩;have a0:=(List.getElem?_eq_some_iff.1 U).1;exact Y p q x y K (by omega) (by omega) V U
theorem Yz{F n:Nat}{a b:Bm}(Z:100<F)(Y:BH n a)(hb:BH n b)(al:a.length≤4)(am:b.length≤4):A1 (f94 F a b) (fun M=>M.Perm (a++b)∧BH n M):=by
 have O:∀l∈a++b,(0≤l.1∧l.1≤6)∧(0≤l.2∧l.2<(n:Int)):=fun l K=>by
  rcases List.mem_append.1 K with h | h
  ·exact⟨Y.yr l h,Y.sn l h⟩
  ·exact⟨hb.yr l h,hb.sn l h⟩
 have hlen:(a++b).length≤8:=by rw [List.length_append];omega
 unfold f94;refine AM (b:=a++b) (by unfold CF;rw [if_pos (by omega)]) (AM (b:=a++b) ?_ ?_)
 ·unfold f123 Lp;have:CF ([]:Bm) (a++b)=some (a++b):=by unfold CF;rw [if_pos (by simp only [List.length_nil];omega)];rfl
  rw [this];rfl
 refine AB (S:=fun M=>M.Perm (a++b)∧BH n M) ?_ (fun r V=>Ak V);unfold f124;refine AB (S:=fun M=>M.Perm (a++b)∧BH n M) ?_ (fun r V=>Ak V);generalize ap:a++b=X at O hlen;unfold f138;refine AB (S:=fun r=>r=(0,X)) ?_ ?_
 ·refine Cl 0 (fun i s=>s=(0,20,X)) rfl (by omega) (fun i s hi=>by omega) ?_;rintro s rfl;unfold OR;exact A7 (by simp only;omega) (Ak ⟨_,rfl,rfl⟩)
 ·rintro r rfl;simp only;refine AB (WV Z (by omega) fun l K=>(O l K).1) ?_;rintro M ⟨U,ag⟩;refine AB (S:=fun _=>True) ?_ ?_
  ·refine Cl 0 (fun i s=>s=20) rfl (by omega) (fun i s hi=>by omega) ?_;rintro s rfl;unfold OH;exact A7 (by omega) (Ak ⟨_,rfl,trivial⟩)
  ·intro _ _;exact Ak ⟨U,by rw [U.length_eq];exact hlen,fun l K=>(O l (U.mem_iff.1 K)).1,fun l K=>(O l (U.mem_iff.1 K)).2,ag⟩
theorem Uk{n:Nat}{a b:Bm}(K:BH n a)(hb:BH n b)(h:a.Perm b):CC a=CC b:=by
 have key:∀{a b:Bm},BH n a→BH n b→a.Perm b→CC a≤CC b:=fun {a b} K hb h=>by
  rcases e:a.getLast? with _ | l
  ·unfold CC;rw [e];simp
  ·have:=QR hb l (h.mem_iff.1 (List.mem_of_getLast? e));have O:CC a=l.1.toNat:=by unfold CC;rw [e]
   omega
 exact Nat.le_antisymm (key K hb h) (key hb K h.symm)
theorem Qm{n x:Nat}{J:JW}{a b:Bm}(K:VJ n J)(O:BH n a)(hb:BH n b)(h:a.Perm b){t:CR}(ht:t∈TA J a x):∃U∈TA J b x,CV U=CV t:=by
 obtain⟨al,V,Y,Z,am⟩:=(MT K O).1 ht;have hm:((x:Int),t.2.1,F7 b 0 t.2.1)∈TA J b x:=(MT K hb).2 ⟨rfl,by rw [← Uk O hb h];exact V,Y,fun l ag=>Z l (h.mem_iff.2 ag),rfl⟩;refine⟨_,hm,?_⟩;rw [OC K hb hm,OC K O ht];exact((h.filter (Lt t.2.1)).length_eq).symm
theorem CX.perm{n k:Nat}{J:JW}{a b:Bm}(K:VJ n J)(O:BH n a)(hb:BH n b)(h:a.Perm b)(U:CX J a k):CX J b k:=by
 obtain⟨⟨t,ht,e⟩,V⟩:=U;obtain⟨x,Y,Z⟩:=Iw.1 ht;obtain⟨ag,al,a1⟩:=Qm K O hb h Z;refine⟨⟨ag,Iw.2 ⟨x,Y,al⟩,by omega⟩,fun u hu=>?_⟩;obtain⟨y,am,ap⟩:=Iw.1 hu;obtain⟨av,a0,a2⟩:=Qm K hb O h.symm ap;have:=V av (Iw.2 ⟨y,am,a0⟩);omega
theorem Z7{F n:Nat}{J:JW}{a b:Bm}(ag:268435456<F)(V:VJ n J)(Y:BH n a)(hb:BH n b)(av:a.length≤4)(a0:b.length≤4):
  A1 (f37 F J a b) (fun r=>r.2=0∧(r.1=true↔∃ka kb O M,BH n M∧M.Perm (a++b)∧CX J a ka∧CX J b kb∧CX J M O∧O≤ka+kb)):=by
 have al:∀{lk:Bm} {q:Int×List CR},DF (TT J lk) q→(q.2= []∧∀k,¬CX J lk k)∨∃k,CX J lk k∧q.1=(k:Int)∧0<q.2.length:=fun {lk q} h=>by
  have be:=h.Xm;rcases h with⟨K,rfl⟩ | ⟨k,K,U,a1,a2⟩
  ·refine .inl ⟨rfl,fun k am=>?_⟩;obtain⟨⟨t,ht,_⟩,_⟩:=am;rw [K] at ht;simp at ht
  ·refine .inr ⟨k,⟨U,a1⟩,K,?_⟩;obtain⟨t,ht,e⟩:=U;rw [a2];exact List.length_pos_of_mem (List.mem_filter.2 ⟨ht,by simpa using e⟩)
 have small:∀{lk:Bm} {k:Nat},BH n lk→CX J lk k→k≤16:=fun {lk k} _ am=>by
  obtain⟨⟨t,_,e⟩,_⟩:=am;have:=Kn t.2.2 16;unfold CV at e;omega
 unfold f37;refine AM (O0 (by omega) V Y av) (A7 (by simp) ?_);refine AM (O0 (by omega) V hb a0) (A7 (by simp) ?_);refine AM (Za (by omega) V) (AM (b:=(J.1,J.2,Gp J)) rfl ?_);refine AB (O2 ag V Y) ?_;rintro⟨fl,bf⟩ a3;refine AB (O2 ag V hb) ?_;rintro⟨bg,bh⟩ a4;simp only;have void:(∀k,¬CX J a k)∨(∀k,¬CX J b k)→(false=true↔∃ka kb O M,BH n M∧M.Perm (a++b)∧CX J a ka∧CX J b kb∧CX J M O∧O≤ka+kb):=fun h=>by
  constructor
  ·intro a5;cases a5
  ·rintro⟨ka,kb,_,_,_,_,K,U,_⟩;rcases h with h | h
   ·exact absurd K (h ka)
   ·exact absurd U (h kb)
 rcases al a3 with⟨K,U⟩ | ⟨ka,k1,a6,a7⟩
 ·simp only at K;subst K;refine AB (S:=fun c=>c=true) (Bs (by simp) (Ak rfl)) ?_;rintro c rfl;exact Bs rfl (Ak ⟨rfl,void (.inl U)⟩)
 ·simp only at a6 a7;rcases al a4 with⟨K,U⟩ | ⟨kb,l1,l2,a8⟩
  ·simp only at K;subst K;refine AB (S:=fun c=>c=true) (A7 (by omega) (Ak (by simp))) ?_;rintro c rfl;exact Bs rfl (Ak ⟨rfl,void (.inr U)⟩)
  ·simp only at l2 a8;refine AB (S:=fun c=>c=false) (A7 (by omega) (Ak (decide_eq_false (by omega)))) ?_;rintro c rfl;refine A7 (by simp) (AB (Yz (by omega) Y hb av a0) ?_);rintro M ⟨ap,Z⟩;refine AB (O2 ag V Z) ?_;rintro⟨bi,bj⟩ a9;simp only;have s1:=small Y k1;have s2:=small hb l1;refine AB (S:=fun r=>r=true↔∃ka kb O M,BH n M∧M.Perm (a++b)∧CX J a ka∧CX J b kb∧CX J M O∧O≤ka+kb) ?_ (fun r ba=>Ak ⟨rfl,ba⟩);rcases al a9 with⟨K,U⟩ | ⟨O,n1,n2,bb⟩
   ·simp only at K;subst K;refine A7 (by simp) (Ak ⟨fun h=>(by cases h),?_⟩);rintro⟨_,_,O,bc,w1,w2,_,_,w3,_⟩;exact absurd (w3.perm V w1 Z (w2.trans ap.symm)) (U O)
   ·simp only at n2 bb;refine Bs (by omega) (AT ((ka+kb:Nat):Int) (by omega) (by omega) (by omega) ?_);refine Ak ?_;rw [decide_eq_true_iff];constructor
    ·intro h;exact⟨ka,kb,O,M,Z,ap,k1,l1,n1,by omega⟩
    ·rintro⟨bl,bm,bn,bc,w1,w2,w3,w4,bd,bo⟩;obtain rfl:=k1.uniq w3;obtain rfl:=l1.uniq w4;obtain rfl:=n1.uniq (bd.perm V w1 Z (w2.trans ap.symm));omega
end Pal
namespace Pal
open Go Go.Conc Go.Proofs
open Go.Proofs.Tryz
variable {J:Judge Tryz.prog}{E:LH}
def Np(fuel:Nat)(p0:AI)(p1:Int×Int)(K:Int):Option (Bh Int Int):= Option.bind (if K<(p0.length:Int) then((ix p0 K).bind fun O=> some (decide (O.1≤p1.1))) else(some false)) fun U=> if U=true then((As (K+1)).bind fun V=> some (.more V)) else(some (.done K))
def f91(fuel:Nat)(p0:AI)(p1:Int×Int):Option ((AI)×Int):= Option.bind (iter (Np fuel p0 p1) fuel 0) fun K=> (ID p0 0 K).bind fun O=> (CF ([]:AI) O).bind fun U=> (CF U ([p1]:AI)).bind fun V=> (ID p0 K (p0.length:Int)).bind fun Y=> (CF V Y).bind fun Z=> some (Z,K)
theorem ay{U:Ao}{c2:Nat}{p0:AI}{p1:Int×Int}(V:Al A9 E U c2 p0){fuel:Nat}{r:(AI)×Int}(a5:f91 fuel p0 p1=some r):AK J 91 [sV U p0 c2,.agg #[iV p1.1,iV p1.2]] E [] (fun w E' B'=>∃(a6:Ao) (a7:Nat),w= .tuple #[sV a6 r.1 a7,iV r.2]∧B'= []∧Al A9 E' a6 a7 r.1):=by
 refine A4 func91 fun Q c8 cs H bg ag=>?_;unfold f91 at a5;refine zg 2 rfl (Cb bg fun al c9 K a8 bh=>?_);obtain⟨bi,bj,bl⟩:=bs a5;refine zg 8 rfl (CM [] [(0,sV U p0 c2),(3,pV al 0),(6,iV bi)] (fun da O a9=>?_) (fun bm=>?_))
 ·refine JL.seq (CW 7 fun ht=>?_);refine AW ht rfl [1,2] rfl ?_;obtain⟨bn,bo,bp⟩:=bs bl;obtain⟨bq,br,am,bu⟩:=Al.cut (V.Ah (K.Ab O)) bo;refine MV (v:= sV bq bn br) 3 rfl ht (by decide+kernel) rfl rfl rfl (fun ρ h s' hs=>bu underlying25 BD (h _ _ rfl) (h _ _ rfl) rfl) (Er 5 ht (a8.Ah O) FI BD rfl rfl rfl ?_);obtain⟨db,ap,av⟩:=bs bp;refine Hm (i:=0) (j:=6) rfl (by decide+kernel) ?_ ?_
  ·refine Take.Tb (pp:=A9) a9 rfl rfl rfl underlying25 BD fun dc dd ba bb=>Hm (i:=4) (j:=6) rfl (by decide+kernel) ?_ ?_
   ·refine Take.Pc (pp:=A9) 0 bb ap rfl rfl rfl rfl rfl rfl rfl underlying25 underlying25 BD (Cx type27) C8 rfl (by decide) (by decide) ba am rfl fun de df dg dh bv bw=>JG.one (i:=6) rfl (by decide+kernel) (Take.Ja (pp:=A9) [.agg #[iV p1.1,iV p1.2]] ([p1]:AI) bw rfl rfl rfl underlying25 BD C8 (by decide) rfl rfl rfl ⟨⟨_,_,rfl,rfl,rfl⟩,trivial⟩ fun di dj bx bz=>?_);refine Cc [7,8] (Eo 0 rfl bz fun bA=>?_);refine JS.drop 0 bA rfl fun bB=>BT 1 bx bB rfl fun dk a0 bC bD=>?_;obtain⟨dl,bE,bF⟩:=bs av;refine G0 (pp:=A9) 2 bE rfl rfl rfl rfl rfl rfl rfl underlying25 underlying25 BD (Cx type27) C8 rfl (by decide) (by decide) (bv.Ah a0) bC bD rfl fun dm dn dp bG bH=>?_;obtain⟨dq,bI,bJ⟩:=bs bF;refine zg 7 rfl (JS.cut (V.Ah ((K.Ab O).Ab a0)) bI rfl rfl rfl rfl rfl rfl underlying25 BD fun dr dt bK=>?_);obtain⟨du,bL,bM⟩:=bs bJ;refine G0 (pp:=A9) 2 bL rfl rfl rfl rfl rfl rfl rfl underlying25 underlying25 BD (Cx type27) C8 rfl (by decide) (by decide) bG bK bH rfl fun bN bO dv bP bQ=>zg 4 rfl (BT 2 bP bQ rfl fun dw bR bS bT=>?_);obtain rfl:=oi bM;exact AD func91 rfl rfl (ag (((K.Ab O).Ab a0).Ab bR) rfl ⟨bN,bO,rfl,rfl,bS⟩ bT)
   ·refine Take.Ja (pp:=A9) [.agg #[iV p1.1,iV p1.2]] ([p1]:AI) bb rfl rfl rfl underlying25 BD C8 (by decide) rfl rfl rfl ⟨⟨_,_,rfl,rfl,rfl⟩,trivial⟩ fun dx dy bU bV=>JG.one (i:=4) rfl (by decide+kernel) (Take.Pc (pp:=A9) 0 bV ap rfl rfl rfl rfl rfl rfl rfl underlying25 underlying25 BD (Cx type27) C8 rfl (by decide) (by decide) ba am rfl fun dz dA dB dC bW bY=>?_);refine Cc [7,8] (Eo 0 rfl bY fun bZ=>?_);refine JS.drop 0 bZ rfl fun b0=>BT 1 bU b0 rfl fun dD a1 b1 b2=>?_;obtain⟨dE,b3,b4⟩:=bs av;refine G0 (pp:=A9) 2 b3 rfl rfl rfl rfl rfl rfl rfl underlying25 underlying25 BD (Cx type27) C8 rfl (by decide) (by decide) (bW.Ah a1) b1 b2 rfl fun dF dG dH b5 b6=>?_;obtain⟨dI,b7,b8⟩:=bs b4;refine zg 7 rfl (JS.cut (V.Ah ((K.Ab O).Ab a1)) b7 rfl rfl rfl rfl rfl rfl underlying25 BD fun dJ dK b9=>?_);obtain⟨dL,ca,cb⟩:=bs b8;refine G0 (pp:=A9) 2 ca rfl rfl rfl rfl rfl rfl rfl underlying25 underlying25 BD (Cx type27) C8 rfl (by decide) (by decide) b5 b9 b6 rfl fun cc cd dM ce cf=>zg 4 rfl (BT 2 ce cf rfl fun dN cg ci ck=>?_);obtain rfl:=oi cb;exact AD func91 rfl rfl (ag (((K.Ab O).Ab a1).Ab cg) rfl ⟨cc,cd,rfl,rfl,ci⟩ ck)
  ·refine Take.Ja (pp:=A9) [.agg #[iV p1.1,iV p1.2]] ([p1]:AI) a9 rfl rfl rfl underlying25 BD C8 (by decide) rfl rfl rfl ⟨⟨_,_,rfl,rfl,rfl⟩,trivial⟩ fun dO dP cm cn=>JG.one (i:=0) rfl (by decide+kernel) (Take.Tb (pp:=A9) cn rfl rfl rfl underlying25 BD fun dQ dR co cp=>?_);refine JG.one (i:=4) rfl (by decide+kernel) (Take.Pc (pp:=A9) 1 cp ap rfl rfl rfl rfl rfl rfl rfl underlying25 underlying25 BD (Cx type27) C8 rfl (by decide) (by decide) co am rfl fun dS dT dU dV cq cr=>?_);refine Cc [7,8] (Eo 1 rfl cr fun ct=>?_);refine JS.drop 1 ct rfl fun cu=>BT 0 cm cu rfl fun dW a2 cv cw=>?_;obtain⟨dX,cy,cz⟩:=bs av;refine G0 (pp:=A9) 2 cy rfl rfl rfl rfl rfl rfl rfl underlying25 underlying25 BD (Cx type27) C8 rfl (by decide) (by decide) (cq.Ah a2) cv cw rfl fun dY dZ ea cA cB=>?_;obtain⟨eb,cC,cD⟩:=bs cz;refine zg 7 rfl (JS.cut (V.Ah ((K.Ab O).Ab a2)) cC rfl rfl rfl rfl rfl rfl underlying25 BD fun ec ed cE=>?_);obtain⟨ee,cF,cG⟩:=bs cD;refine G0 (pp:=A9) 2 cF rfl rfl rfl rfl rfl rfl rfl underlying25 underlying25 BD (Cx type27) C8 rfl (by decide) (by decide) cA cE cB rfl fun cH cI ef cJ cK=>zg 4 rfl (BT 2 cJ cK rfl fun eg cM cN cO=>?_);obtain rfl:=oi cG;exact AD func91 rfl rfl (ag (((K.Ab O).Ab a2).Ab cM) rfl ⟨cH,cI,rfl,rfl,cN⟩ cO)
 ·refine JL.block (Cu bj (fun Y=> []) (fun Y=> [(0,sV U p0 c2),(3,pV al 0),(6,iV Y)]) Ar bh ?_);rintro Y cP Z bc cQ ⟨eh,a3⟩ cR;have bd:=a3;unfold Np at bd;refine zg 2 rfl (CW 14 fun ht=>?_);refine AW ht rfl [0,1] rfl (By 2 ht rfl rfl (fun ρ h s' hs=>Yl.len rfl underlying25 (h _ _ rfl)) ?_);refine AW ht rfl [3,4] rfl ?_;obtain⟨cT,be,cV⟩:=bs bd;refine Ed 0 #[true,true,true,true,true,true,true,true,true,true,true,true,true,true] (fun L s=>L= [(0,sV U p0 c2),(3,pV al 0),(6,iV Y),(21,.bool cT)]∧s=An cP H []) ?_ ?_
  ·rintro _ _ ⟨rfl,rfl⟩;refine AU.fin (by decide+kernel) (BJ cV (fun cW cX=>?_) (fun cW cY=>?_))
   ·obtain⟨cZ,c0,c1⟩:=bs cX;refine zg 4 rfl (Bb c0 rfl rfl rfl ?_);refine zg 3 rfl ?_;obtain rfl:=oi c1;exact cR cZ Z bc rfl a3
   ·refine JL.exit rfl ?_;obtain rfl:=oi cY;obtain rfl:=cQ _ a3;exact bm Z bc rfl
  ·intro bf;refine Fa (q:=Y<(p0.length:Int)) (i:=12) rfl (fun a4=>?_) (fun a4=>?_)
   ·have c3:=ip be a4;refine AW ht rfl [5,6] rfl ?_;obtain⟨ei,c4,c5⟩:=bs c3;refine Cy 7 (V.Ah (K.Ab Z)) c4 ht underlying25 BD ?_;rintro ej ek _ ⟨_,_,rfl,rfl,rfl⟩ c6;refine B7 8 ht underlying27 AX rfl rfl rfl rfl ?_;refine Cn 9 ht 0 c6 Bx rfl rfl rfl rfl ?_;refine B7 10 ht underlying27 AX rfl rfl rfl rfl ?_;refine Cn 11 ht 0 (a8.Ah Z) Bx rfl rfl rfl rfl ?_;refine AW ht rfl [12,13] rfl ?_;obtain rfl:=oi c5;refine CE ?_ (bf _ _ ⟨rfl,rfl⟩);exact⟨rfl,rfl,rfl,rfl,trivial⟩
   ·have c7:=im be a4;refine AW ht rfl [5,6,7,8,9,10,11,12,13] rfl ?_;obtain rfl:=oi c7;refine CE ?_ (bf _ _ ⟨rfl,rfl⟩);exact⟨rfl,rfl,rfl,rfl,trivial⟩
def Ni(fuel:Nat)(p2:AI)(K:(AI)×Int):Option (Bh ((AI)×Int) ((AI))):= if K.2<(p2.length:Int) then((ix p2 K.2).bind fun O=> (f91 fuel K.1 O).bind fun U=> (As (K.2+1)).bind fun V=> some (.more (U.1,V))) else(some (.done K.1))
def f38(fuel:Nat)(p0:Bc)(p1:AI)(p2:AI):Option (Bool×Int):= (f70 fuel p0 p1).bind fun K=> if K≠0 then(some (false,K)) else((f70 fuel p0 p2).bind fun O=> if O≠0 then(some (false,O)) else((f95 fuel p0 p1).bind fun U=> (f95 fuel p0 p2).bind fun V=> Option.bind (if U<0 then(some true) else(some (decide (V<0)))) fun Z=> if Z=true then(some (false,0)) else(Option.bind (iter (Ni fuel p2) fuel (p1,0)) fun ag=> (f95 fuel p0 ag).bind fun Y=> Option.bind (if 0≤Y then((As (U+V)).bind fun al=> some (decide (Y≤al))) else(some false)) fun am=> some (am,0))))
theorem ao{a9:Ao}{c2:Nat}{ba:Ao}{bb:Nat}{ag:Ao}{al:Nat}{a1:Ao}{a2:Nat}{p0:Bc}{p1:AI}{p2:AI}(am:Al (rL rI) E a9 c2 p0.1)(ap:Al (rL rI) E ba bb p0.2)(bc:Al A9 E ag al p1)(bd:Al A9 E a1 a2 p2){fuel:Nat}{r:Bool×Int}(bo:f38 fuel p0 p1 p2=some r):AK J 38 [.agg #[sV a9 p0.1 c2,sV ba p0.2 bb],sV ag p1 al,sV a1 p2 a2] E [] (fun w E' B'=>w= .tuple #[.bool r.1,iV r.2]∧B'= []):=by
 refine A4 func38 fun Q cM cs H bD a3=>?_;unfold f38 at bo;refine zg 2 rfl (Cb bD fun be cN O av bE=>?_);refine zg 6 rfl (BW av Ca BI rfl rfl ?_);obtain⟨cO,bF,bG⟩:=bs bo;refine zg 1 rfl (BF (Tj (am.Ah O) (ap.Ah O) (bc.Ah O) bF) rfl rfl (AS func70 rfl) bE fun cP K bp=>?_);refine zg 7 rfl (AL bG (fun bH bI=>?_) (fun bH bJ=>?_))
 ·refine zg 6 rfl ?_;obtain rfl:=oi bI;exact AD func38 rfl rfl (a3 (O.Ab K) rfl ⟨rfl,rfl⟩ bp)
 ·refine zg 4 rfl (BW (av.Ah K) Ca BI rfl rfl ?_);obtain⟨cQ,bK,bL⟩:=bs bJ;refine zg 1 rfl (BF (Tj (am.Ah (O.Ab K)) (ap.Ah (O.Ab K)) (bd.Ah (O.Ab K)) bK) rfl rfl (AS func70 rfl) bp fun cR U bq=>?_);refine zg 7 rfl (AL bL (fun bM bN=>?_) (fun bM bO=>?_))
  ·refine zg 6 rfl ?_;obtain rfl:=oi bN;exact AD func38 rfl rfl (a3 ((O.Ab K).Ab U) rfl ⟨rfl,rfl⟩ bq)
  ·refine zg 2 rfl (CW 5 fun ht=>?_);refine Er 0 ht (av.Ah (K.Ab U)) Ca BI rfl rfl rfl (B4 1 ht rfl rfl ?_);refine Er 3 ht (av.Ah (K.Ab U)) Ca BI rfl rfl rfl (B4 4 ht rfl rfl ?_);obtain⟨bf,bP,bQ⟩:=bs bO;refine JG.call (i:=2) (vs:= [.agg #[sV a9 p0.1 c2,sV ba p0.2 bb],sV ag p1 al]) (Pe (am.Ah ((O.Ab K).Ab U)) (ap.Ah ((O.Ab K).Ab U)) (bc.Ah ((O.Ab K).Ab U)) bP) (by decide+kernel) rfl rfl rfl N2 rfl bq ?_;rintro _ cT _ V ⟨rfl,rfl⟩ bR;refine Cc [5,6,7] ?_;obtain⟨bg,bS,bT⟩:=bs bQ;refine BF (Pe (am.Ah (((O.Ab K).Ab U).Ab V)) (ap.Ah (((O.Ab K).Ab U).Ab V)) (bd.Ah (((O.Ab K).Ab U).Ab V)) bS) rfl rfl N2 bR fun bh Y br=>?_;obtain⟨bU,bV,bW⟩:=bs bT;refine zg 9 rfl (ER [] (fun L s=>∃(a0:LH),Jm bh H a0 [] [(1,sV ag p1 al),(2,sV a1 p2 a2),(3,pV be 0),(10,iV bf),(11,iV bg),(38,.bool bU)] L s) ?_ ?_)
   ·rintro _ _ ⟨a0,rfl,rfl,Z,bu⟩;refine JL.done (BJ bW (fun bY bZ=>?_) (fun bY b0=>?_))
    ·refine zg 5 rfl ?_;obtain rfl:=oi bZ;exact AD func38 rfl rfl (a3 (((((O.Ab K).Ab U).Ab V).Ab Y).Ab Z) rfl ⟨rfl,rfl⟩ bu)
    ·obtain⟨bv,b1,b2⟩:=bs b0;refine zg 11 rfl (Bt (fun L s=>∃(bi:LH) (bj:Ao) (bl:Nat),Jn a0 H bi [] [(3,pV be 0),(10,iV bf),(11,iV bg),(12,sV bj bv bl)] L s (Al A9 bi bj bl bv)) ?_ ?_)
     ·rintro _ _ ⟨bi,bj,bl,rfl,rfl,a4,b3,b4⟩;refine zg 2 rfl (BW (av.Ah (((((K.Ab U).Ab V).Ab Y).Ab Z).Ab a4)) Ca BI rfl rfl ?_);obtain⟨cV,b5,b6⟩:=bs b2;refine zg 1 rfl (BF (Pe (am.Ah ((((((O.Ab K).Ab U).Ab V).Ab Y).Ab Z).Ab a4)) (ap.Ah ((((((O.Ab K).Ab U).Ab V).Ab Y).Ab Z).Ab a4)) b4 b5) rfl rfl N2 b3 fun cW b7 bw=>?_);obtain⟨b8,b9,ca⟩:=bs b6;refine zg 7 rfl (Dm 9 2 [] [(66,.bool b8)] (fun cX cb cc=>?_) (fun bx=>?_))
      ·refine zg 3 rfl ?_;obtain rfl:=oi ca;exact AD func38 rfl rfl (a3 ((((((((O.Ab K).Ab U).Ab V).Ab Y).Ab Z).Ab a4).Ab b7).Ab cb) rfl ⟨rfl,rfl⟩ cc)
      ·refine Ei 60 b9 (fun cd ce=>?_) (fun cd cf=>?_)
       ·obtain⟨cY,cg,ci⟩:=bs ce;refine zg 3 rfl (Bb cg rfl rfl rfl ?_);refine zg 2 rfl ?_;obtain rfl:=oi ci;exact bx Ar bw rfl
       ·refine zg 6 rfl ?_;obtain rfl:=oi cf;exact bx Ar bw rfl
     ·intro ck;refine JL.block (CN b1 (fun L s a5=>∃(a6:LH) (a7:Ao) (a8:Nat),Jn a0 H a6 [] [(2,sV a1 p2 a2),(3,pV be 0),(10,iV bf),(11,iV bg),(12,sV a7 a5.1 a8),(13,iV a5.2)] L s (Al A9 a6 a7 a8 a5.1)) ⟨a0,ag,al,rfl,rfl,Ar,bu,(bc.Ah (((((O.Ab K).Ab U).Ab V).Ab Y).Ab Z))⟩ ?_);rintro _ _ a5 ⟨a6,a7,a8,rfl,rfl,bm,bz,bA⟩ cm ⟨cZ,bn⟩ cn;have bB:=bn;unfold Ni at bB;refine zg 5 rfl (Bj underlying25 rfl rfl rfl ?_);refine zg 2 rfl (AL bB (fun co cp=>?_) (fun co cq=>?_))
      ·obtain⟨c0,cr,ct⟩:=bs cp;refine zg 7 rfl (Cf (bd.Ah ((((((O.Ab K).Ab U).Ab V).Ab Y).Ab Z).Ab bm)) cr underlying25 BD ?_);rintro c1 c3 _ ⟨_,_,rfl,rfl,rfl⟩ cu;refine BW cu FI BD rfl rfl ?_;obtain⟨cv,cw,cy⟩:=bs ct;refine BV (ay bA cw) rfl rfl (AS func91 rfl) bz ?_;rintro _ cz _ cA ⟨cB,cC,rfl,rfl,cD⟩ cE;obtain⟨cF,cG,cH⟩:=bs cy;refine zg 8 rfl (Bb cG rfl rfl rfl ?_);refine zg 2 rfl ?_;obtain rfl:=oi cH;exact Az (cn _ _ (cv.1,cF) ⟨cz,cB,cC,rfl,rfl,(bm.Ab cA),cE,cD⟩ bn) rfl
      ·refine JL.exit rfl ?_;obtain rfl:=oi cq;obtain rfl:=cm _ bn;exact Az (ck _ _ ⟨a6,a7,a8,rfl,rfl,bm,bz,bA⟩) rfl
   ·intro bC;refine Ei 35 bV (fun cI cJ=>?_) (fun cI cK=>?_)
    ·refine zg 3 rfl ?_;obtain rfl:=oi cJ;exact Az (bC _ _ ⟨bh,rfl,rfl,Ar,br⟩) rfl
    ·refine zg 3 rfl ?_;obtain rfl:=oi cK;exact Az (bC _ _ ⟨bh,rfl,rfl,Ar,br⟩) rfl
end Pal
namespace Pal
def PM(lk:Bm)(l:Int×Int)(q:Nat):Prop:=q≤lk.length∧(∀(i:Nat) x,i<q→lk[i]? =some x→x.1≤l.1)∧∀x,lk[q]? =some x→l.1<x.1
theorem Zv{F:Nat}{lk:Bm}{l:Int×Int}(Z:100<F)(ag:lk.length<100):A1 (f91 F lk l) (fun r=>∃q,PM lk l q∧r=(lk.take q++ [l]++lk.drop q,(q:Int))):=by
 unfold f91;refine AB (S:=fun r=>∃q,PM lk l q∧r=(q:Int)) ?_ ?_
 ·refine Cl lk.length (fun i s=>s=(i:Int)∧∀(j:Nat) x,j<i→lk[j]? =some x→x.1≤l.1) ⟨rfl,fun j x Y=>by omega⟩ (by omega) ?_ ?_
  ·rintro i s hi ⟨rfl,O⟩;unfold Np;refine AB (S:=fun c=>c=decide (lk[i].1≤l.1)) ?_ ?_
   ·refine Bs (by omega) (Bl (m:=i) rfl hi ?_);exact Ak rfl
   ·rintro c rfl;refine Bq (fun h=>?_) (fun h=>?_)
    ·refine AT ((i+1:Nat):Int) (by simp) (by omega) (by omega) (Ak ⟨rfl,fun j x Y K=>?_⟩);rcases Nat.lt_or_ge j i with U | U
     ·exact O j x U K
     ·obtain rfl:j=i:=by omega
      rw [List.getElem?_eq_getElem hi] at K;cases K;exact of_decide_eq_true h
    ·refine Ak ⟨i,⟨by omega,O,fun x K=>?_⟩,rfl⟩;rw [List.getElem?_eq_getElem hi] at K;cases K;have:¬lk[i].1≤l.1:=fun U=>h (decide_eq_true U);omega
  ·rintro s ⟨rfl,O⟩;unfold Np;refine AM (b:=false) (by rw [if_neg (by omega)]) (A7 (by simp) (Ak ⟨_,rfl,lk.length,⟨Nat.le_refl _,O,fun x K=>?_⟩,rfl⟩));rw [List.getElem?_eq_none (Nat.le_refl _)] at K;cases K
 ·rintro r ⟨q,V,rfl⟩;have al:=V.1;refine AM (b:=lk.take q) (by unfold ID;rw [if_pos ⟨by omega,by omega,by omega⟩];simp) (AM (b:=lk.take q) (by unfold CF;rw [if_pos (by simp;omega)];rfl) ?_);refine AM (b:=lk.take q++ [l]) (by unfold CF;rw [if_pos (by simp;omega)]) (AM (b:=lk.drop q) (by unfold ID;rw [if_pos ⟨by omega,by omega,by omega⟩];simp) ?_);exact AM (b:=lk.take q++ [l]++lk.drop q) (by unfold CF;rw [if_pos (by simp;omega)]) (Ak ⟨q,V,rfl⟩)
theorem Oi{lk:Bm}{l:Int×Int}{q:Nat}:(lk.take q++ [l]++lk.drop q).Perm (lk++ [l]):=by
 have K:(lk.take q++ [l]++lk.drop q).Perm (lk.take q++lk.drop q++ [l]):=by
  rw [List.append_assoc,List.append_assoc];exact List.Perm.append_left _ List.perm_append_comm
 rwa [List.take_append_drop] at K
theorem BH.with{n q:Nat}{lk:Bm}{l:Int×Int}(h:BH n lk)(av:lk.length<8)(O:0≤l.1∧l.1≤6)(hs:0≤l.2∧l.2<(n:Int))(V:PM lk l q):BH n (lk.take q++ [l]++lk.drop q):=by
 have hm:∀x∈lk.take q++ [l]++lk.drop q,x∈lk∨x=l:=fun x K=>by
  have:=(Oi (lk:=lk) (l:=l) (q:=q)).mem_iff.1 K;simpa using this
 refine⟨?_,fun x K=>?_,fun x K=>?_,?_⟩
 ·rw [(Oi (lk:=lk) (l:=l) (q:=q)).length_eq];simp;omega
 ·rcases hm x K with U | rfl
  ·exact h.yr x U
  ·exact O
 ·rcases hm x K with U | rfl
  ·exact h.sn x U
  ·exact hs
 ·have Y:=h.Hy;rw [← List.take_append_drop q lk,List.pairwise_append] at Y;obtain⟨ag,al,am⟩:=Y;have hle:∀x∈lk.take q,x.1≤l.1:=fun x K=>by
   obtain⟨i,hi,e⟩:=List.mem_iff_getElem.1 K;rw [List.length_take] at hi;rw [List.getElem_take] at e;exact V.2.1 i x (by omega) (by rw [List.getElem?_eq_getElem (by omega),e])
  have ap:∀x∈lk.drop q,l.1≤x.1:=fun x K=>by
   obtain⟨i,hi,e⟩:=List.mem_iff_getElem.1 K;rw [List.length_drop] at hi;rw [List.getElem_drop] at e;have a0:=V.2.2 lk[q] (List.getElem?_eq_getElem (by omega));rcases Nat.eq_zero_or_pos i with Z | Z
   ·subst Z;simp at e;rw [← e];omega
   ·have:=List.pairwise_iff_getElem.1 h.Hy q (q+i) (by omega) (by omega) (by omega);rw [← e];omega
  rw [List.append_assoc,List.pairwise_append];refine⟨ag,?_,fun x K y O=>?_⟩
  ·rw [List.singleton_append,List.pairwise_cons];exact⟨ap,al⟩
  ·rw [List.singleton_append,List.mem_cons] at O;rcases O with rfl | O
   ·exact hle x K
   ·exact am x K y O
def J5(J:JW)(a b:Bm)(r:Bool×Int):Prop:=(CL J a≠0∧r=(false,CL J a))∨(CL J a=0∧CL J b≠0∧r=(false,CL J b))∨
 (CL J a=0∧CL J b=0∧r.2=0∧(r.1=true↔∃ka kb K M,BH J.1.length M∧M.Perm (a++b)∧CX J a ka∧CX J b kb∧CX J M K∧K≤ka+kb))
theorem J5.uniq{J:JW}{a b:Bm}{r q:Bool×Int}(h:J5 J a b r)(V:J5 J a b q):r=q:=by
 rcases h with⟨K,rfl⟩ | ⟨K,U,rfl⟩ | ⟨K,U,Y,Z⟩ <;> rcases V with⟨O,rfl⟩ | ⟨O,g2,rfl⟩ | ⟨O,g2,ag,al⟩
 ·rfl
 ·exact absurd O K
 ·exact absurd O K
 ·exact absurd K O
 ·rfl
 ·exact absurd g2 U
 ·exact absurd K O
 ·exact absurd U g2
 ·refine Prod.ext ?_ (Y.trans ag.symm);rw [Bool.eq_iff_iff,Z,al]
theorem Wq{F:Nat}{J:JW}{a b:Bm}(U:268435456<F)(K:NL J):A1 (HT F J a b) (J5 J a b):=by
 by_cases h:CL J a=0
 ·by_cases O:CL J b=0
  ·obtain⟨V,Y,Z⟩:=Kx h;obtain⟨_,ag,al⟩:=Kx O;have e:HT F J a b=f37 F J a b:=by
    unfold HT f37;rw [S4 (by omega) K h,S4 (by omega) K O]
   rw [e];exact(Z7 U V Y ag Z al).Ah fun r am=> .inr (.inr ⟨h,O,am⟩)
  ·unfold HT;refine AM (Mp (by omega) K) (A7 (by simpa using h) ?_);exact AM (Mp (by omega) K) (Bs O (Ak (.inr (.inl ⟨h,O,rfl⟩))))
 ·unfold HT;exact AM (Mp (by omega) K) (Bs h (Ak (.inl ⟨h,rfl⟩)))
theorem Xd{F:Nat}{J:JW}{a b:Bm}(U:100<F)(a4:NL J):A1 (f38 F J a b) (J5 J a b):=by
 unfold f38;refine AM (R6 U a4) (Bq (fun h=>Ak (.inl ⟨h,rfl⟩)) (fun h=>?_));have h:CL J a=0:=by simpa using h
 refine AM (R6 U a4) (Bq (fun V=>Ak (.inr (.inl ⟨h,V,rfl⟩))) (fun V=>?_));have V:CL J b=0:=by simpa using V
 obtain⟨Y,a3,bb⟩:=Kx h;obtain⟨_,ap,bc⟩:=Kx V;have no:∀{r:Bool×Int},r=(false,0)→(∀ka kb K M,BH J.1.length M→M.Perm (a++b)→CX J a ka→CX J b kb→CX J M K→¬K≤ka+kb)→J5 J a b r:=fun {r} a5 a7=> .inr (.inr ⟨h,V,by rw [a5],by
  rw [a5]
  exact⟨fun e=>(by cases e),fun⟨ka,kb,K,M,Z,ag,av,a0,al,a6⟩=>absurd a6 (a7 ka kb K M Z ag av a0 al)⟩⟩)
 refine AB (MO U Y a3) ?_;rintro x (⟨a1,rfl⟩ | ⟨ka,a1,rfl⟩)
 ·refine AB (MO U Y ap) ?_;rintro y _;exact AM (b:=true) (by rw [if_pos (by omega)]) (Bs rfl (Ak (no rfl fun ka _ _ _ _ _ av _ _=>absurd a1 av.ne)))
 refine AB (MO U Y ap) ?_;rintro y (⟨a2,rfl⟩ | ⟨kb,a2,rfl⟩)
 ·exact AM (b:=true) (by rw [if_neg (by omega)];rfl) (Bs rfl (Ak (no rfl fun _ kb _ _ _ _ _ a0 _=>absurd a2 a0.ne)))
 refine AM (b:=false) (by rw [if_neg (by omega),decide_eq_false (by omega)]) (A7 (by simp) ?_);have bd:=a1.le Y a3;have be:=a2.le Y ap;refine AB (S:=fun L=>BH J.1.length L∧L.Perm (a++b)) ?_ ?_
 ·refine Cl b.length (fun i s=>∃L,s=(L,(i:Int))∧BH J.1.length L∧L.Perm (a++b.take i)) ⟨a,rfl,a3,by simp⟩ (by omega) ?_ ?_
  ·rintro i s hi ⟨L,rfl,am,O⟩;unfold Ni;have hlen:=O.length_eq;rw [List.length_append,List.length_take] at hlen;refine Bs (by simp only;omega) (Bl (m:=i) rfl hi ?_);refine AB (Zv U (by simp only;omega)) ?_;rintro r ⟨q,a8,rfl⟩;refine AT ((i+1:Nat):Int) (by simp) (by omega) (by omega) ?_;have hm:=List.getElem_mem hi;refine Ak ⟨_,rfl,am.with (by omega) (ap.yr _ hm) (ap.sn _ hm) a8,?_⟩;rw [List.take_add_one,List.getElem?_eq_getElem hi];simp only [Option.toList_some];rw [← List.append_assoc];exact Oi.trans (O.append_right _)
  ·rintro s ⟨L,rfl,am,O⟩;unfold Ni;rw [List.take_length] at O;exact A7 (by simp) (Ak ⟨_,rfl,am,O⟩)
 ·rintro L ⟨am,O⟩;have yes:∀M K,BH J.1.length M→M.Perm (a++b)→CX J M K→CX J L K:=fun M K Z ag al=>CX.perm Y Z am (ag.trans O.symm) al;refine AB (MO U Y am) ?_;rintro z (⟨z1,rfl⟩ | ⟨K,z1,rfl⟩)
  ·exact AM (b:=false) (by rw [if_neg (by omega)]) (Ak (no rfl fun _ _ K M Z ag _ _ al=>absurd z1 (yes M K Z ag al).ne))
  ·refine AM (b:=decide (K≤ka+kb)) ?_ ?_
   ·refine C3 (Bs (by omega) ?_);exact AT ((ka+kb:Nat):Int) (by simp) (by omega) (by omega) (Ak (decide_eq_decide.2 (by omega)))
   ·refine Ak (.inr (.inr ⟨h,V,rfl,?_⟩));simp only [decide_eq_true_iff];constructor
    ·intro a9;exact⟨ka,kb,K,L,am,O,a1,a2,z1,a9⟩
    ·rintro⟨bf,bg,ba,M,Z,ag,av,a0,al,a6⟩;have bh:=a1.uniq av;have bi:=a2.uniq a0;have bj:=z1.uniq (yes M ba Z ag al);omega
end Pal
namespace Pal
open Go Go.Conc Go.Proofs
open Go.Proofs.Tryz
variable {J:Judge Tryz.prog}{E:LH}
def NO(fuel:Nat)(p0:AI):Option ((AI)):= (CF ([]:AI) p0).bind fun K=> some K
theorem Su{K:Ao}{c2:Nat}{p0:AI}(Y:Al A9 E K c2 p0){fuel:Nat}{r:(AI)}(O:NO fuel p0=some r):AK J 27 [sV K p0 c2] E [] (fun w E' B'=>∃(U:Ao) (V:Nat) (g0:Seg),w= sV U r V∧B'=g0∧OL 27 A9 E' U V g0 r):=by
 refine A4 func27 fun Q a5 cs H Z ag=>?_;unfold NO at O;refine zg 6 rfl (KX (pp:=A9) rfl rfl rfl underlying25 BD Z fun a6 a7 al am=>?_);obtain⟨a8,ap,av⟩:=bs O;refine zg 1 rfl (G0 (pp:=A9) 1 ap rfl rfl rfl rfl rfl rfl rfl underlying25 underlying25 BD (Cx type27) C8 rfl (by decide) (by decide) al Y am rfl fun a0 a1 a2 a3 a4=>?_);refine zg 2 rfl ?_;obtain rfl:=oi av;exact AD func27 rfl rfl (ag Ar rfl ⟨a0,a1,a2,rfl,(by first | rfl | simp | (simp [Value.cells])),a3⟩ a4)
def f25(fuel:Nat)(p0:AI)(p1:Int×Int)(p2:Bc)(p3:BY):Option ((List AI)×(BY)):= (f40 fuel p3 p2 3).bind fun K=> (NO fuel K.1).bind fun O=> (CF O ([p1]:AI)).bind fun U=> some (([p0,K.1,U]:List AI),K.2)
theorem Ta{al:Ao}{c2:Nat}{a4:Ao}{a5:Nat}{a6:Ao}{a7:Nat}{bk:Nat}{a8:Ao}{a9:Nat}{p0:AI}{p1:Int×Int}{p2:Bc}{p3:BY}(ba:Al A9 E al c2 p0)(br:Al (rL rI) E a4 a5 p2.1)(bu:Al (rL rI) E a6 a7 p2.2)(bv:Al rI E a8 a9 p3.1){fuel:Nat}{r:(List AI)×(BY)}(bb:f25 fuel p0 p1 p2 p3=some r):AK J 25 [sV al p0 c2,.agg #[iV p1.1,iV p1.2],.agg #[sV a4 p2.1 a5,sV a6 p2.2 a7],pV bk 0] E [(bk,.cells #[sV a8 p3.1 a9,iV p3.2.1,.int .u64 ((p3.2.2:Nat):Int)] 92 (0,0))] (fun w E' B'=>∃(bc:Ao) (bd:Nat) (be:Ao) (bf:Nat),w= sV bc r.1 bd∧B'= [(bk,.cells #[sV be r.2.1 bf,iV r.2.2.1,.int .u64 ((r.2.2.2:Nat):Int)] 92 (0,0))]∧Al (rL A9) E' bc bd r.1∧Al rI E' be bf r.2.1):=by
 refine A4 func25 fun Q cq cs H bw bg=>?_;unfold f25 at bb;refine zg 2 rfl (Cb bw fun cr ct U bx bz=>?_);refine Cb bz fun cu cv O bA bB=>?_;refine zg 5 rfl (BW bA Ca BI rfl rfl ?_);obtain⟨K,bC,bD⟩:=bs bb;refine B6 0 (aH (bv.Ah (U.Ab O)) (br.Ah (U.Ab O)) (bu.Ah (U.Ab O)) bC) rfl rfl (AS func40 rfl) bB rfl ?_;rintro _ cw _ Z ⟨am,ap,V,Y,rfl,rfl,av,bh⟩ bE;refine Cr (S':= [[(bk,.cells #[sV V K.2.1 Y,iV K.2.2.1,.int .u64 ((K.2.2.2:Nat):Int)] 92 (0,0))],[],[]]) rfl bE fun bi=>zg 3 rfl (CW 7 fun ht=>?_);refine AW ht rfl [0,1,2] rfl (Er 4 ht (bx.Ah (O.Ab Z)) FI BD rfl rfl rfl ?_);obtain⟨cy,bj,bF⟩:=bs bD;obtain⟨a0,bl,bm⟩:=bs bF;refine Hm (i:=3) (j:=5) rfl (by decide+kernel) ?_ ?_
 ·refine Take.Gj (vs:= [sV am K.1 ap]) bi (Su av bj) rfl rfl rfl HF rfl ?_;rintro _ cz _ a1 ⟨cA,cB,cC,rfl,rfl,bG⟩ bH;refine JG.one (i:=5) rfl (by decide+kernel) (Take.Ja (pp:=A9) [.agg #[iV p1.1,iV p1.2]] ([p1]:AI) bH rfl rfl rfl underlying25 BD C8 (by decide) rfl rfl rfl ⟨⟨_,_,rfl,rfl,rfl⟩,trivial⟩ fun cD bn bI bJ=>?_);refine JG.one (i:=6) rfl (by decide+kernel) (Take.app0 (pp:=A9) 3 4 bJ bl rfl rfl rfl rfl rfl rfl rfl underlying25 underlying25 BD (Cx type27) C8 rfl (by decide) (by decide) bG bI rfl rfl fun bK bL cE bM bN bO=>?_);refine Cc [7,8] (Eo 3 rfl bO fun bP=>?_);refine JS.drop 3 bP rfl fun bQ=>Cr (S':= [[(bk,.cells #[sV V K.2.1 Y,iV K.2.2.1,.int .u64 ((K.2.2.2:Nat):Int)] 92 (0,0))],[],[],[],bn,bM]) rfl bQ fun bR=>BT 5 bN bR rfl fun cF a2 bS bT=>DC (pp:=(rL A9)) [sV al p0 c2,sV am K.1 ap,sV bK a0 bL] [p0,K.1,a0] rfl rfl rfl underlying35 Gt (Dy type25) (by decide) rfl rfl rfl ⟨⟨_,_,rfl,(ba.Ah ((((U.Ab O).Ab Z).Ab a1).Ab a2))⟩,⟨_,_,rfl,(av.Ah (a1.Ab a2))⟩,⟨_,_,rfl,bS⟩,trivial⟩ bT fun bU cG bV bW=>zg 2 rfl (BT 6 bV bW rfl fun cH bo bY bZ=>?_);refine Cr (S':= [[(bk,.cells #[sV V K.2.1 Y,iV K.2.2.1,.int .u64 ((K.2.2.2:Nat):Int)] 92 (0,0))],[],[],[],bn,[],[]]) rfl bZ fun b0=>JS.drop 4 b0 rfl fun b1=>?_;obtain rfl:=oi bm;exact AD func25 rfl rfl (bg (((((U.Ab O).Ab Z).Ab a1).Ab a2).Ab bo) rfl ⟨(AZ bU),3,V,Y,rfl,rfl,bY,(bh.Ah ((a1.Ab a2).Ab bo))⟩ b1)
 ·refine Take.Ja (pp:=A9) [.agg #[iV p1.1,iV p1.2]] ([p1]:AI) bi rfl rfl rfl underlying25 BD C8 (by decide) rfl rfl rfl ⟨⟨_,_,rfl,rfl,rfl⟩,trivial⟩ fun cI bp b2 b3=>JG.one (i:=3) rfl (by decide+kernel) (Take.Gj (vs:= [sV am K.1 ap]) b3 (Su av bj) rfl rfl rfl HF rfl ?_);rintro _ cJ _ ag ⟨cK,cM,cN,rfl,rfl,b4⟩ b5;refine JG.one (i:=6) rfl (by decide+kernel) (Take.app0 (pp:=A9) 4 3 b5 bl rfl rfl rfl rfl rfl rfl rfl underlying25 underlying25 BD (Cx type27) C8 rfl (by decide) (by decide) b4 (b2.Ah ag) rfl rfl fun b6 b7 cO b8 b9 ca=>?_);refine Cc [7,8] (Eo 4 rfl ca fun cb=>?_);refine JS.drop 4 cb rfl fun cc=>Cr (S':= [[(bk,.cells #[sV V K.2.1 Y,iV K.2.2.1,.int .u64 ((K.2.2.2:Nat):Int)] 92 (0,0))],[],[],bp,[],b8]) rfl cc fun cd=>BT 5 b9 cd rfl fun cP a3 ce cf=>DC (pp:=(rL A9)) [sV al p0 c2,sV am K.1 ap,sV b6 a0 b7] [p0,K.1,a0] rfl rfl rfl underlying35 Gt (Dy type25) (by decide) rfl rfl rfl ⟨⟨_,_,rfl,(ba.Ah ((((U.Ab O).Ab Z).Ab ag).Ab a3))⟩,⟨_,_,rfl,(av.Ah (ag.Ab a3))⟩,⟨_,_,rfl,ce⟩,trivial⟩ cf fun cg cQ ci ck=>zg 2 rfl (BT 6 ci ck rfl fun cR bq cm cn=>?_);refine Cr (S':= [[(bk,.cells #[sV V K.2.1 Y,iV K.2.2.1,.int .u64 ((K.2.2.2:Nat):Int)] 92 (0,0))],[],[],bp,[],[],[]]) rfl cn fun co=>JS.drop 3 co rfl fun cp=>?_;obtain rfl:=oi bm;exact AD func25 rfl rfl (bg (((((U.Ab O).Ab Z).Ab ag).Ab a3).Ab bq) rfl ⟨(AZ cg),3,V,Y,rfl,rfl,cm,(bh.Ah ((ag.Ab a3).Ab bq))⟩ cp)
end Pal
namespace Pal
theorem SA{F k n:Nat}{b:Fi}{J:JW}{lk:List (Int×Int)}{l:Int×Int}(O:100<F)(U:VJ n J)(hb:BG k b)(V:k<900)(Z:lk.length≤20):
  A1 (f25 F lk l J b) (fun r=>(∃u v:List (Int×Int),r.1= [lk,u,v]∧u.length≤20∧v.length≤20)∧BG (k+100) r.2):=by
 unfold f25;refine AB (ZU (many:=3) O U hb V (by omega)) ?_;rintro⟨u,ag⟩ ⟨_,Y,_,K⟩;simp only at Y K ⊢;refine AM (b:=u) (by unfold NO CF;rw [if_pos (by simp;omega)];rfl) (AM (b:=u++ [l]) (by unfold CF;rw [if_pos (by simp;omega)]) ?_);exact Ak ⟨⟨u,u++ [l],rfl,by omega,by simp;omega⟩,K⟩
theorem Pz{α:Type}{P:α→Prop}{a b c:α}(K:P a)(hb:P b)(O:P c):∀i,i<3→∃x,([a,b,c]:List α)[i]? =some x∧P x
 | 0,_=>⟨a,rfl,K⟩
 | 1,_=>⟨b,rfl,hb⟩
 | 2,_=>⟨c,rfl,O⟩
end Pal
namespace Pal
open Go Go.Conc Go.Proofs
open Go.Proofs.Tryz
def Nm(fuel:Nat)(O:(List Bc)×(BY))(U:(List AI)×(BY))(V:(List AI)×(BY))(K:Int):Option (Bh Int ((Bool)⊕(Unit))):= if K<(O.1.length:Int) then((ix O.1 K).bind fun ap=> (ix U.1 K).bind fun av=> (ix V.1 K).bind fun a0=> (f26 fuel ap).bind fun Y=> (f27 fuel av).bind fun Z=> (f27 fuel a0).bind fun ag=> (HT fuel Y Z ag).bind fun al=> (ix O.1 K).bind fun a1=> (ix U.1 K).bind fun a2=> (ix V.1 K).bind fun a3=> (f38 fuel a1 a2 a3).bind fun am=> Option.bind (if((al.1) != (am.1))=true then(some true) else(some (decide (al.2≠am.2)))) fun a4=> Option.bind (if a4=true then(some true) else((ix O.1 K).bind fun a5=> (f33 fuel Y a5).bind fun a6=> some (!a6))) fun a7=> Option.bind (if a7=true then(some true) else((ix U.1 K).bind fun a8=> (f34 fuel Z a8).bind fun a9=> some (!a9))) fun ba=> Option.bind (if ba=true then(some true) else((ix V.1 K).bind fun bb=> (f34 fuel ag bb).bind fun bc=> some (!bc))) fun bd=> if bd=true then(some (.done (Sum.inl false))) else((As (K+1)).bind fun be=> some (.more be))) else(some (.done (Sum.inr ())))
def NU(fuel:Nat)(p0:Bc)(p1:AI)(p2:AI)(p3:Int×Int)(p4:List Int):Option Bool:= (f21 fuel p0).bind fun U=> Option.bind (if U=true then(some true) else(some (decide (20<(p1.length:Int))))) fun V=> Option.bind (if V=true then(some true) else(some (decide (20<(p2.length:Int))))) fun Y=> if Y=true then((J9 fuel).bind fun Z=> some Z) else((f23 fuel p4).bind fun ag=> (f24 fuel p0 ag).bind fun K=> (ix K.1 (1)).bind fun al=> (ix K.1 (1)).bind fun am=> (f25 fuel p1 p3 al K.2).bind fun O=> (f25 fuel p2 p3 am O.2).bind fun ap=> Option.bind (iter (Nm fuel K O ap) fuel 0) fun av=> Sum.elim (fun r=>some r) (fun a1=> (J9 fuel).bind fun a0=> some a0) av)
set_option maxHeartbeats 2000000 in
theorem X0{E H:LH}{ck:Ao}{c2:Nat}{cm:Ao}{cn:Nat}{bn:Ao}{bo:Nat}{bu:Ao}{bv:Nat}{bw:Ao}{bx:Nat}{p0:Bc}{p1:AI}{p2:AI}{p3:Int×Int}{p4:List Int}(bU:GE E)(co:Al (rL rI) E ck c2 p0.1)(cp:Al (rL rI) E cm cn p0.2)(dq:Al A9 E bn bo p1)(dr:Al A9 E bu bv p2)(dt:Al rI E bw bx p4){fuel:Nat}{r:Bool}(cq:NU fuel p0 p1 p2 p3 p4=some r):(D1 Tryz.prog).ok (KV Tryz.prog (fun v _=>v= .bool r)) (G (Frame.enter Tryz.prog 5 ([.agg #[sV ck p0.1 c2,sV cm p0.2 cn],sV bn p1 bo,sV bu p2 bv,.agg #[iV p3.1,iV p3.2],sV bw p4 bx]:List Value).toArray .normal) []) (mk E H []):=by
 refine UK func5 rfl rfl (Nat.le_of_ble_eq_true rfl) ?_;have du:Av E H [[]]:=trivial;unfold NU at cq;refine zg 2 rfl (Cb du fun cr hz al ct dv=>?_);refine Cb dv fun cu hA O cv dw=>?_;refine zg 5 rfl (BW (ct.Ah O) Ca BI rfl rfl ?_);obtain⟨hB,dx,dy⟩:=bs cq;refine BF (aB (co.Ah (al.Ab O)) (cp.Ah (al.Ab O)) dx) rfl rfl (AS func21 rfl) dw fun hC Y cw=>?_;obtain⟨dz,dA,dB⟩:=bs dy;refine zg 1 rfl (Dm 7 5 [] [(1,sV bn p1 bo),(2,sV bu p2 bv),(4,sV bw p4 bx),(5,pV cr 0),(8,pV cu 0),(29,.bool dz)] (fun bV Z cy=>?_) (fun cz=>?_))
 ·obtain⟨dC,dD,dE⟩:=bs dB;refine zg 1 rfl (ER [] (fun L s=>∃(cA:LH),Jm bV H cA [] [(1,sV bn p1 bo),(2,sV bu p2 bv),(4,sV bw p4 bx),(5,pV cr 0),(8,pV cu 0),(34,.bool dC)] L s) ?_ ?_)
  ·rintro _ _ ⟨cA,rfl,rfl,ag,cB⟩;refine JL.done (BJ dE (fun dF dG=>?_) (fun dF dH=>?_))
   ·obtain⟨dI,dJ,dK⟩:=bs dG;refine zg 2 rfl (BF (S1 (bU.Ah ((((al.Ab O).Ab Y).Ab Z).Ab ag)) dJ) rfl rfl (AS func22 rfl) cB fun hD hE hF=>?_);refine zg 2 rfl ?_;obtain rfl:=oi dK;exact Hi rfl (JO.end (v:= .bool dI) rfl (by decide+kernel) func5 rfl rfl rfl)
   ·obtain⟨hG,dL,dM⟩:=bs dH;refine zg 4 rfl (BV (aS (dt.Ah ((((al.Ab O).Ab Y).Ab Z).Ab ag)) dL) rfl rfl (AS func23 rfl) cB ?_);rintro _ hH _ am ⟨dN,hI,hJ,rfl,rfl,dO⟩ dP;refine zg 4 rfl (BW (ct.Ah ((((O.Ab Y).Ab Z).Ab ag).Ab am)) Ca BI rfl rfl ?_);obtain⟨a7,dQ,dR⟩:=bs dM;refine zg 1 rfl (B6 0 (aN (co.Ah (((((al.Ab O).Ab Y).Ab Z).Ab ag).Ab am)) (cp.Ah (((((al.Ab O).Ab Y).Ab Z).Ab ag).Ab am)) dO dQ) rfl rfl (AS func24 rfl) dP rfl ?_);rintro _ hK _ a8 ⟨a9,ba,hL,hM,rfl,rfl,bp,dS⟩ dT;refine zg 3 rfl (CW 13 fun ht=>?_);refine B4 0 ht rfl rfl (Er 1 ht (cv.Ah ((((Y.Ab Z).Ab ag).Ab am).Ab a8)) FI BD rfl rfl rfl ?_);refine B4 2 ht rfl rfl ?_;obtain⟨cC,dU,dV⟩:=bs dR;refine Cy 3 bp dU ht underlying33 BI ?_;rintro hN hO _ ⟨_,_,rfl,⟨dW,dX,rfl,dY⟩,⟨dZ,ea,rfl,eb⟩⟩ ec;refine Er 4 ht ec Ca BI rfl rfl rfl (AW ht rfl [5,7] rfl ?_);refine Er 8 ht (cv.Ah ((((Y.Ab Z).Ab ag).Ab am).Ab a8)) FI BD rfl rfl rfl (B4 9 ht rfl rfl ?_);obtain⟨hP,ed,ee⟩:=bs dV;refine Cy 10 bp ed ht underlying33 BI ?_;rintro hQ hR _ ⟨_,_,rfl,⟨hS,hT,rfl,ef⟩,⟨hU,hV,rfl,eg⟩⟩ eh;refine Er 11 ht eh Ca BI rfl rfl rfl (B4 12 ht rfl rfl ?_);obtain⟨bb,ei,ej⟩:=bs ee;refine UJ (i:=6) (vs:= [sV bn p1 bo,.agg #[iV p3.1,iV p3.2],.agg #[sV dW cC.1 dX,sV dZ cC.2 ea],pV dN 0]) 0 (fun _ h=>by cases h) (Ta (dq.Ah ((((((al.Ab O).Ab Y).Ab Z).Ab ag).Ab am).Ab a8)) dY eb dS ei) (by decide+kernel) rfl rfl rfl (AS func25 rfl) rfl dT rfl ?_;rintro _ hW _ av ⟨bc,bd,hX,hY,rfl,rfl,bW,ek⟩ el;refine Cc [13,14,15] ?_;obtain⟨be,em,en⟩:=bs ej;refine B6 0 (Ta (dr.Ah (((((((al.Ab O).Ab Y).Ab Z).Ab ag).Ab am).Ab a8).Ab av)) (ef.Ah av) (eg.Ah av) ek em) rfl rfl (AS func25 rfl) el rfl ?_;rintro _ eo _ a0 ⟨bf,bg,hZ,h0,rfl,rfl,bY,h1⟩ ep;obtain⟨cD,eq,cE⟩:=bs en;refine zg 8 rfl (Bt (fun L s=>∃(cF:Unit) (cG:LH),cD=Sum.inr cF∧Jm eo H cG [] [] L s) ?_ ?_)
    ·rintro _ _ ⟨cF,cG,rfl,rfl,rfl,er,et⟩;have eu:=elim_inr cE;obtain⟨ew,ex,ey⟩:=bs eu;refine zg 2 rfl (BF (S1 (bU.Ah (((((((((al.Ab O).Ab Y).Ab Z).Ab ag).Ab am).Ab a8).Ab av).Ab a0).Ab er)) ex) rfl rfl (AS func22 rfl) et fun h2 h3 h4=>?_);refine zg 2 rfl ?_;obtain rfl:=oi ey;exact Hi rfl (JO.end (v:= .bool ew) rfl (by decide+kernel) func5 rfl rfl rfl)
    ·intro ez;refine JL.block (JS.drop 0 ep rfl fun eA=>?_);refine Cu eq (fun a1=> []) (fun a1=> [(12,sV a9 a7.1 ba),(13,sV bc bb.1 bd),(14,sV bf be.1 bg),(15,iV a1)]) Ar eA ?_;rintro a1 cH U bZ cI ⟨h5,bz⟩ eB;have cJ:=bz;unfold Nm at cJ;refine zg 5 rfl (Bj underlying33 rfl rfl rfl ?_);refine zg 2 rfl (AL cJ (fun eC eD=>?_) (fun eC eE=>?_))
     ·refine zg 4 rfl (CW 16 fun ht=>?_);refine AW ht rfl [0,1] rfl ?_;obtain⟨bA,eF,eG⟩:=bs eD;refine Cy 2 (bp.Ah ((av.Ab a0).Ab U)) eF ht underlying33 BI ?_;rintro h6 h7 _ ⟨_,_,rfl,⟨cK,cM,rfl,cN⟩,⟨cO,cP,rfl,cQ⟩⟩ eH;refine Er 3 ht eH Ca BI rfl rfl rfl (AW ht rfl [5,6] rfl ?_);obtain⟨b0,eI,eJ⟩:=bs eG;refine Cy 7 (bW.Ah (a0.Ab U)) eI ht underlying35 Gt ?_;rintro h8 h9 _ ⟨b1,b2,rfl,b3⟩ eK;refine Cn 8 ht 0 eK GQ rfl rfl rfl rfl (AW ht rfl [10,11] rfl ?_);obtain⟨bB,eL,eM⟩:=bs eJ;refine Cy 12 (bY.Ah U) eL ht underlying35 Gt ?_;rintro ia ic _ ⟨bC,bD,rfl,bE⟩ eN;refine Cn 13 ht 0 eN GQ rfl rfl rfl rfl ?_;obtain⟨bh,cR,eO⟩:=bs eM;obtain⟨bq,b4,eP⟩:=bs eO;obtain⟨bi,bF,eQ⟩:=bs eP;refine Ed 3 #[true,true,true,true,true,true,true,true,true,true,true,true,true,true,true,true,false,false,false] (fun L s=>∃(bj:LH) (bG:Ao) (bH:Nat) (bI:Ao) (bJ:Nat) (bl:Ao) (bm:Nat) (a5:Ao) (a6:Nat) (bK:Nat),Jn cH H bj [bX bK #[nS,nS] 24] [(12,sV a9 a7.1 ba),(13,sV bc bb.1 bd),(14,sV bf be.1 bg),(15,iV a1),(16,pV bK 0),(65,.agg #[sV bG bh.1 bH,sV bI bh.2 bJ]),(70,sV bl bq bm),(75,sV a5 bi a6)] L s (Al (rL rI) bj bG bH bh.1∧Al (rL rI) bj bI bJ bh.2∧Al A9 bj bl bm bq∧Al A9 bj a5 a6 bi)) ?_ ?_
      ·rintro _ _ ⟨bj,bG,bH,bI,bJ,bl,bm,a5,a6,bK,rfl,rfl,a2,eR,cT,cV,cW,cX⟩;refine Cc [16,17,18] (BU 0 eR BI fun eS=>?_);refine C6 0 eS rfl fun ie K cY eT=>zg 5 rfl (BW cY Ca BI rfl rfl ?_);obtain⟨cZ,eU,eV⟩:=bs eQ;refine zg 2 rfl (BF (Sl (bU.Ah (((((((((((al.Ab O).Ab Y).Ab Z).Ab ag).Ab am).Ab a8).Ab av).Ab a0).Ab U).Ab a2).Ab K)) (cT.Ah K) (cV.Ah K) (cW.Ah K) (cX.Ah K) eU) rfl rfl (AS func37 rfl) eT fun ig V eW=>?_);refine zg 7 rfl (CW 17 fun ht=>?_);refine AW ht rfl [0,1] rfl ?_;obtain⟨c0,eX,eY⟩:=bs eV;refine Cy 2 (bp.Ah (((((av.Ab a0).Ab U).Ab a2).Ab K).Ab V)) eX ht underlying33 BI ?_;rintro ih ii _ ⟨_,_,rfl,⟨eZ,e0,rfl,e1⟩,⟨e2,e3,rfl,e4⟩⟩ e5;refine Er 3 ht e5 Ca BI rfl rfl rfl (AW ht rfl [4,5] rfl ?_);obtain⟨e6,e7,e8⟩:=bs eY;refine Cy 6 (bW.Ah ((((a0.Ab U).Ab a2).Ab K).Ab V)) e7 ht underlying35 Gt ?_;rintro ij ik _ ⟨e9,fa,rfl,fb⟩ fc;refine Cn 7 ht 0 fc GQ rfl rfl rfl rfl (AW ht rfl [8,9] rfl ?_);obtain⟨fd,fe,ff⟩:=bs e8;refine Cy 10 (bY.Ah (((U.Ab a2).Ab K).Ab V)) fe ht underlying35 Gt ?_;rintro il io _ ⟨fg,fh,rfl,fj⟩ fk;refine Cn 11 ht 0 fk GQ rfl rfl rfl rfl ?_;obtain⟨c1,fm,fo⟩:=bs ff;refine JG.call (i:=12) (vs:= [.agg #[sV eZ c0.1 e0,sV e2 c0.2 e3],sV e9 e6 fa,sV fg fd fh]) (ao e1 e4 fb fj fm) (by decide+kernel) rfl rfl rfl (AS func38 rfl) rfl eW ?_;rintro _ b5 _ ap ⟨rfl,rfl⟩ c3;refine AW ht rfl [13,14,15,16] rfl (Cc [17] ?_);refine zg 3 rfl (CW 35 fun ht=>?_);refine AW ht rfl [0,1] rfl (By (v:= .bool (((cZ.1) != (c1.1)))) 2 ht rfl rfl (fun ρ h s' hs=>W1 underlying4 (h _ _ rfl) (h _ _ rfl)) ?_);refine B4 3 ht rfl rfl ?_;obtain⟨c4,c5,fp⟩:=bs fo;refine Ed 27 #[true,true,true,true,true,true,true,true,false,false,false,false,false,false,false,false,false,false,false,false,false,false,false,false,false,false,false,false,false,false,false,false,false,false,false] (fun L s=>L= [(12,sV a9 a7.1 ba),(13,sV bc bb.1 bd),(14,sV bf be.1 bg),(15,iV a1),(16,pV bK 0),(17,sV bl bq bm),(18,sV a5 bi a6),(106,.bool c4)]∧s=An b5 H [[],[],[]]) ?_ ?_
       ·rintro _ _ ⟨rfl,rfl⟩;refine B4 8 ht rfl rfl ?_;obtain⟨c6,c7,fq⟩:=bs fp;refine Ed 18 #[true,true,true,true,true,true,true,true,true,true,true,true,true,true,true,true,true,false,false,false,false,false,false,false,false,false,false,false,false,false,false,false,false,false,false] (fun L s=>∃(bL:LH),Jm b5 H bL [] [(12,sV a9 a7.1 ba),(13,sV bc bb.1 bd),(14,sV bf be.1 bg),(15,iV a1),(17,sV bl bq bm),(18,sV a5 bi a6),(115,.bool c6)] L s) ?_ ?_
        ·rintro _ _ ⟨bL,rfl,rfl,br,c8⟩;refine B4 17 ht rfl rfl ?_;obtain⟨c9,da,fs⟩:=bs fq;refine Ed 9 #[true,true,true,true,true,true,true,true,true,true,true,true,true,true,true,true,true,true,true,true,true,true,true,true,true,true,false,false,false,false,false,false,false,false,false] (fun L s=>∃(bM:LH),Jm bL H bM [] [(12,sV a9 a7.1 ba),(13,sV bc bb.1 bd),(14,sV bf be.1 bg),(15,iV a1),(18,sV a5 bi a6),(124,.bool c9)] L s) ?_ ?_
         ·rintro _ _ ⟨bM,rfl,rfl,b6,db⟩;refine B4 26 ht rfl rfl ?_;obtain⟨fu,dc,fv⟩:=bs fs;refine Ed 0 #[true,true,true,true,true,true,true,true,true,true,true,true,true,true,true,true,true,true,true,true,true,true,true,true,true,true,true,true,true,true,true,true,true,true,true] (fun L s=>∃(dd:LH),Jm bM H dd [] [(12,sV a9 a7.1 ba),(13,sV bc bb.1 bd),(14,sV bf be.1 bg),(15,iV a1),(133,.bool fu)] L s) ?_ ?_
          ·rintro _ _ ⟨dd,rfl,rfl,fw,fx⟩;refine AU.fin (by decide+kernel) (BJ fv (fun fy fz=>?_) (fun fy fA=>?_))
           ·refine zg 4 rfl ?_;obtain rfl:=oi fz;obtain rfl:=cI _ bz;have fB:=elim_inl cE;obtain rfl:=oi fB;exact Hi rfl (JO.end (v:= .bool false) rfl (by decide+kernel) func5 rfl rfl rfl)
           ·obtain⟨fC,fD,fE⟩:=bs fA;refine zg 4 rfl (Bb fD rfl rfl rfl ?_);refine zg 2 rfl ?_;obtain rfl:=oi fE;exact eB fC (((((((U.Ab a2).Ab K).Ab V).Ab ap).Ab br).Ab b6).Ab fw) fx rfl bz
          ·intro de;refine Mf (c:=c9) (i:=125) rfl (fun b7=>?_) (fun b7=>?_)
           ·have fF:=ip dc b7;refine AW ht rfl [27,28,29,30,31,32,33,34] rfl ?_;obtain rfl:=oi fF;refine CE ?_ (de _ _ ⟨bM,rfl,rfl,Ar,db⟩);exact⟨rfl,rfl,rfl,rfl,rfl,trivial⟩
           ·have fG:=ib dc b7;refine AW ht rfl [27,28,29] rfl ?_;obtain⟨fH,fI,fJ⟩:=bs fG;refine Cy 30 (bY.Ah ((((((U.Ab a2).Ab K).Ab V).Ab ap).Ab br).Ab b6)) fI ht underlying35 Gt ?_;rintro iq ir _ ⟨fK,fL,rfl,fM⟩ fN;refine Cn 31 ht 0 fN GQ rfl rfl rfl rfl ?_;obtain⟨fO,fP,fQ⟩:=bs fJ;refine JG.call (i:=32) (vs:= [sV a5 bi a6,sV fK fH fL]) (S9 (cX.Ah ((((K.Ab V).Ab ap).Ab br).Ab b6)) fM fP) (by decide+kernel) rfl rfl rfl (AS func34 rfl) rfl db ?_;rintro _ fR _ fS ⟨rfl,rfl⟩ fT;refine By (v:= .bool (!fO)) 33 ht rfl rfl (fun ρ h s' hs=>Yl.not (h _ _ rfl)) ?_;refine B4 34 ht rfl rfl ?_;obtain rfl:=oi fQ;refine CE ?_ (de _ _ ⟨fR,rfl,rfl,fS,fT⟩);exact⟨rfl,rfl,rfl,rfl,rfl,trivial⟩
         ·intro df;refine Mf (c:=c6) (i:=116) rfl (fun b8=>?_) (fun b8=>?_)
          ·have fU:=ip da b8;refine AW ht rfl [18,19,20,21,22,23,24,25] rfl ?_;obtain rfl:=oi fU;refine CE ?_ (df _ _ ⟨bL,rfl,rfl,Ar,c8⟩);exact⟨rfl,rfl,rfl,rfl,rfl,rfl,trivial⟩
          ·have fW:=ib da b8;refine AW ht rfl [18,19,20] rfl ?_;obtain⟨fX,fY,fZ⟩:=bs fW;refine Cy 21 (bW.Ah ((((((a0.Ab U).Ab a2).Ab K).Ab V).Ab ap).Ab br)) fY ht underlying35 Gt ?_;rintro it iu _ ⟨ga,gb,rfl,gc⟩ gd;refine Cn 22 ht 0 gd GQ rfl rfl rfl rfl ?_;obtain⟨ge,gf,gg⟩:=bs fZ;refine JG.call (i:=23) (vs:= [sV bl bq bm,sV ga fX gb]) (S9 (cW.Ah (((K.Ab V).Ab ap).Ab br)) gc gf) (by decide+kernel) rfl rfl rfl (AS func34 rfl) rfl c8 ?_;rintro _ gh _ gi ⟨rfl,rfl⟩ gj;refine By (v:= .bool (!ge)) 24 ht rfl rfl (fun ρ h s' hs=>Yl.not (h _ _ rfl)) ?_;refine B4 25 ht rfl rfl ?_;obtain rfl:=oi gg;refine CE ?_ (df _ _ ⟨gh,rfl,rfl,gi,gj⟩);exact⟨rfl,rfl,rfl,rfl,rfl,rfl,trivial⟩
        ·intro dg;refine Mf (c:=c4) (i:=107) rfl (fun b9=>?_) (fun b9=>?_)
         ·have gk:=ip c7 b9;refine AW ht rfl [9,10,11,12,13,14,15,16] rfl ?_;obtain rfl:=oi gk;refine CE ?_ (dg _ _ ⟨b5,rfl,rfl,Ar,c3⟩);exact⟨rfl,rfl,rfl,rfl,rfl,rfl,rfl,trivial⟩
         ·have gl:=ib c7 b9;refine Er 9 ht (cY.Ah (V.Ab ap)) Ca BI rfl rfl rfl ?_;refine AW ht rfl [10,11] rfl ?_;obtain⟨dh,gm,gn⟩:=bs gl;refine Cy 12 (bp.Ah ((((((av.Ab a0).Ab U).Ab a2).Ab K).Ab V).Ab ap)) gm ht underlying33 BI ?_;rintro iv iw _ ⟨_,_,rfl,⟨gp,gq,rfl,gr⟩,⟨gt,gu,rfl,gv⟩⟩ gw;refine Er 13 ht gw Ca BI rfl rfl rfl ?_;obtain⟨gx,gy,gz⟩:=bs gn;refine JG.call (i:=14) (vs:= [.agg #[sV bG bh.1 bH,sV bI bh.2 bJ],.agg #[sV gp dh.1 gq,sV gt dh.2 gu]]) (aR (cT.Ah ((K.Ab V).Ab ap)) (cV.Ah ((K.Ab V).Ab ap)) gr gv gy) (by decide+kernel) rfl rfl rfl (AS func33 rfl) rfl c3 ?_;rintro _ gA _ gB ⟨rfl,rfl⟩ gC;refine By (v:= .bool (!gx)) 15 ht rfl rfl (fun ρ h s' hs=>Yl.not (h _ _ rfl)) ?_;refine B4 16 ht rfl rfl ?_;obtain rfl:=oi gz;refine CE ?_ (dg _ _ ⟨gA,rfl,rfl,gB,gC⟩);exact⟨rfl,rfl,rfl,rfl,rfl,rfl,rfl,trivial⟩
       ·intro di;refine Mf (c:=((cZ.1) != (c1.1))) (i:=102) rfl (fun ca=>?_) (fun ca=>?_)
        ·have gD:=ip c5 ca;refine AW ht rfl [4,5,6,7] rfl ?_;obtain rfl:=oi gD;refine CE ?_ (di _ _ ⟨rfl,rfl⟩);exact⟨rfl,rfl,rfl,rfl,rfl,rfl,rfl,rfl,trivial⟩
        ·have gE:=ib c5 ca;refine AW ht rfl [4,5,6,7] rfl ?_;obtain rfl:=oi gE;refine CE ?_ (di _ _ ⟨rfl,rfl⟩);exact⟨rfl,rfl,rfl,rfl,rfl,rfl,rfl,rfl,trivial⟩
      ·intro bN;refine Hm (i:=4) (j:=15) rfl (by decide+kernel) ?_ ?_
       ·refine Take.Gj (vs:= [.agg #[sV cK bA.1 cM,sV cO bA.2 cP]]) bZ (Tg cN cQ cR) rfl rfl rfl (AS func26 rfl) rfl ?_;rintro _ iy _ a3 ⟨cb,cc,cd,ce,rfl,rfl,cf,cg⟩ dj;refine Hm (i:=9) (j:=15) rfl (by decide+kernel) ?_ ?_
        ·refine Take.Gj (vs:= [sV b1 b0 b2]) dj (I7 (b3.Ah a3) b4) rfl rfl rfl HF rfl ?_;rintro _ iz _ a4 ⟨dk,dl,rfl,rfl,dm⟩ dn;refine Hm (i:=14) (j:=15) rfl (by decide+kernel) ?_ ?_
         ·refine Take.Gj (vs:= [sV bC bB bD]) dn (I7 (bE.Ah (a3.Ab a4)) bF) rfl rfl rfl HF rfl ?_;rintro _ gF _ bO ⟨gG,gH,rfl,rfl,gI⟩ gJ;refine JG.one (i:=15) rfl (by decide+kernel) (Take.JR gJ rfl rfl rfl Gs fun gK gL=>?_);exact MS (bN _ _ ⟨gF,cb,cc,cd,ce,dk,dl,gG,gH,gK,rfl,rfl,((a3.Ab a4).Ab bO),gL,(cf.Ah (a4.Ab bO)),(cg.Ah (a4.Ab bO)),(dm.Ah bO),gI⟩) rfl
         ·refine Take.JR dn rfl rfl rfl Gs fun gM gN=>JG.one (i:=14) rfl (by decide+kernel) (Take.Gj (vs:= [sV bC bB bD]) gN (I7 (bE.Ah (a3.Ab a4)) bF) rfl rfl rfl HF rfl ?_);rintro _ gO _ bP ⟨gP,gQ,rfl,rfl,gR⟩ gS;exact MS (bN _ _ ⟨gO,cb,cc,cd,ce,dk,dl,gP,gQ,gM,rfl,rfl,((a3.Ab a4).Ab bP),gS,(cf.Ah (a4.Ab bP)),(cg.Ah (a4.Ab bP)),(dm.Ah bP),gR⟩) rfl
        ·refine Take.JR dj rfl rfl rfl Gs fun gT gU=>JG.one (i:=9) rfl (by decide+kernel) (Take.Gj (vs:= [sV b1 b0 b2]) gU (I7 (b3.Ah a3) b4) rfl rfl rfl HF rfl ?_);rintro _ iA _ bQ ⟨gV,gW,rfl,rfl,gX⟩ gY;refine JG.one (i:=14) rfl (by decide+kernel) (Take.Gj (vs:= [sV bC bB bD]) gY (I7 (bE.Ah (a3.Ab bQ)) bF) rfl rfl rfl HF rfl ?_);rintro _ gZ _ bR ⟨g0,g1,rfl,rfl,g3⟩ g4;exact MS (bN _ _ ⟨gZ,cb,cc,cd,ce,gV,gW,g0,g1,gT,rfl,rfl,((a3.Ab bQ).Ab bR),g4,(cf.Ah (bQ.Ab bR)),(cg.Ah (bQ.Ab bR)),(gX.Ah bR),g3⟩) rfl
       ·refine Take.JR bZ rfl rfl rfl Gs fun g5 g6=>JG.one (i:=4) rfl (by decide+kernel) (Take.Gj (vs:= [.agg #[sV cK bA.1 cM,sV cO bA.2 cP]]) g6 (Tg cN cQ cR) rfl rfl rfl (AS func26 rfl) rfl ?_);rintro _ iB _ ci ⟨g7,g8,g9,ha,rfl,rfl,hb,hc⟩ hd;refine JG.one (i:=9) rfl (by decide+kernel) (Take.Gj (vs:= [sV b1 b0 b2]) hd (I7 (b3.Ah ci) b4) rfl rfl rfl HF rfl ?_);rintro _ iC _ bS ⟨he,hf,rfl,rfl,hj⟩ hk;refine JG.one (i:=14) rfl (by decide+kernel) (Take.Gj (vs:= [sV bC bB bD]) hk (I7 (bE.Ah (ci.Ab bS)) bF) rfl rfl rfl HF rfl ?_);rintro _ hl _ bT ⟨hm,hn,rfl,rfl,ho⟩ hp;exact MS (bN _ _ ⟨hl,g7,g8,g9,ha,he,hf,hm,hn,g5,rfl,rfl,((ci.Ab bS).Ab bT),hp,(hb.Ah (bS.Ab bT)),(hc.Ah (bS.Ab bT)),(hj.Ah bT),ho⟩) rfl
     ·refine JL.exit rfl ?_;obtain rfl:=oi eE;have hq:cD=(Sum.inr ()):=(cI _ bz).symm;exact Az (ez _ _ ⟨(),cH,hq,rfl,rfl,U,bZ⟩) rfl
  ·intro dp;refine DU 30 dD (fun hr hu=>?_) (fun hr hv=>?_)
   ·refine zg 4 rfl ?_;obtain rfl:=oi hu;exact Az (dp _ _ ⟨bV,rfl,rfl,Ar,cy⟩) rfl
   ·refine zg 1 rfl (Bj underlying25 rfl rfl rfl ?_);refine zg 2 rfl ?_;obtain rfl:=oi hv;exact Az (dp _ _ ⟨bV,rfl,rfl,Ar,cy⟩) rfl
 ·refine DU 25 dA (fun hw hx=>?_) (fun hw hy=>?_)
  ·refine zg 4 rfl ?_;obtain rfl:=oi hx;exact cz Ar cw rfl
  ·refine zg 1 rfl (Bj underlying25 rfl rfl rfl ?_);refine zg 2 rfl ?_;obtain rfl:=oi hy;exact cz Ar cw rfl
end Pal
namespace Pal
theorem Zy{F:Nat}(bj:3489660928<F)(hs:J9 F=some true)(J:JW)(ag av:List (Int×Int))(l:Int×Int)(NP:List Int):NU F J ag av l NP=some true:=by
 have O:100<F:=by omega
 refine C3 ?_;unfold NU;refine AB (YF O) ?_;intro bl a7;refine AB (S:=fun c=>c=false→NL J∧ag.length≤20) ?_ ?_
 ·refine Bq (fun h=>Ak fun U=>by cases U) (fun h=>Ak fun U=>⟨a7 (by simpa using h),by simp at U;omega⟩)
 intro bm a8;refine AB (S:=fun c=>c=false→NL J∧ag.length≤20∧av.length≤20) ?_ ?_
 ·refine Bq (fun h=>Ak fun U=>by cases U) (fun h=>Ak fun U=>?_);obtain⟨a9,ba⟩:=a8 (by simpa using h);exact⟨a9,ba,by simp at U;omega⟩
 intro c bb;refine Bq (fun h=>AM hs (Ak rfl)) (fun h=>?_);obtain⟨a0,a1,a2⟩:=bb (by simpa using h);refine AM (b:=(NP,0,2685821657736338717)) rfl (AB (YO (k:=0) (b:=(NP,0,2685821657736338717)) O a0 ⟨Int.le_refl _,Int.le_refl _⟩ (by omega)) ?_);rintro⟨bn,bo⟩ ⟨⟨n,a3,Y,a4⟩,a5⟩;simp only at a4 a5;subst a4;refine AM (b:=a3) rfl (AM (b:=a3) rfl ?_);refine AB (SA (k:=301) O Y a5 (by omega) a1) ?_;rintro⟨ls,bp⟩ ⟨⟨u,v,V,hu,bc⟩,a6⟩;simp only at V a6;subst V;refine AB (SA (k:=401) O Y a6 (by omega) a2) ?_;rintro⟨ls,bq⟩ ⟨⟨br,v',V,bd,be⟩,bu⟩;simp only at V;subst V;refine AB (S:=fun q=>q=Sum.inr ()) ?_ (by rintro q rfl;rw [Sum.elim_inr];exact AM hs (Ak rfl));refine Cl 3 (fun i s=>s=(i:Int)) rfl (by omega) ?_ ?_
 ·rintro i s hi rfl;unfold Nm;obtain⟨K,al,Z⟩:=Pz (P:=NL) a0 Y.nl Y.nl i hi;obtain⟨L,am,bf⟩:=Pz (P:=fun K:List (Int×Int)=>K.length≤20) a1 hu bc i hi;obtain⟨M,ap,bg⟩:=Pz (P:=fun K:List (Int×Int)=>K.length≤20) a2 bd be i hi;refine Bs (by simp;omega) (AM (D3 (m:=i) rfl al) ?_);refine AM (D3 (m:=i) rfl am) (AM (D3 (m:=i) rfl ap) ?_);refine AM (ZG O Z) (AM (SO (by omega)) ?_);refine AM (SO (by omega)) (AB (Wq (by omega) Z) ?_);intro bv bh;refine AM (D3 (m:=i) rfl al) (AM (D3 (m:=i) rfl am) ?_);refine AM (D3 (m:=i) rfl ap) (AB (Xd O Z) ?_);intro bw bi;obtain rfl:=bh.uniq bi;refine AM (b:=false) (by rw [if_neg (by simp)];simp) (AM (b:=false) ?_ ?_)
  ·rw [if_neg (by simp),D3 (m:=i) rfl al,Option.bind_some,YD O Z];rfl
  refine AM (b:=false) ?_ ?_
  ·rw [if_neg (by simp),D3 (m:=i) rfl am,Option.bind_some,Ss O bf];rfl
  refine AM (b:=false) ?_ ?_
  ·rw [if_neg (by simp),D3 (m:=i) rfl ap,Option.bind_some,Ss O bg];rfl
  refine A7 (by simp) (AT ((i+1:Nat):Int) (by simp) (by omega) (by omega) ?_);exact Ak rfl
 ·rintro s rfl;unfold Nm;exact A7 (by simp) (Ak ⟨_,rfl,rfl⟩)
end Pal
