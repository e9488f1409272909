/- DebtCircles: a part (6 of 9) of the proof of its row. -/
import Derived.Test.YtmeophcclkejkaaGreatCie
set_option linter.all false
set_option maxRecDepth 100000
namespace Pal
def VD(n:Nat)(d:DT):Prop:=0<=d.1/\d.1<(n:Int)/\0<=d.2.1/\d.2.1<(n:Int)/\d.1≠d.2.1/\1<=d.2.2/\d.2.2<=9
def CS(x:List Int):Prop:=x.length<=3/\∀c∈x,1<=c/\c<=9
structure VO (o:OW):Prop where
 n2:2<=o.1.length
 n5:o.1.length<=5
 cs:∀x∈o.1,CS x
 d8:o.2.length<=8
 ds:∀d∈o.2,VD o.1.length d
theorem VO.nv{o:OW}(h:VO o):NV 40 o:=⟨by have:=h.n5;omega,λx K=>by have:=(h.cs x K).1;omega,by have:=h.d8;omega⟩
theorem Pz{α:Type}{P:α->Prop}{l:List α}{i:Nat}(hi:i<l.length)(h:∀x∈l.take i,P x)(k:P l[i]):∀x∈l.take (i+1),P x:=by
 intro x K;rw [List.take_add_one,List.getElem?_eq_getElem hi] at K;simp only [Option.toList_some,List.mem_append,List.mem_singleton] at K;rcases K with K | rfl
 ·exact h x K
 ·exact k
theorem Zk{F:Nat}{d:DT}{n:Nat}(Y:n<1000):BF (f88 F (n:Int) d 9) (λr=>r=0↔VD n d):=by
 unfold f88;refine BK ((n:Int) - 1) rfl (by omega) (by omega) (Br (NY _ _ _ _) ?_);refine Bo (S:=λc=>c=true↔¬((0<=d.1/\d.1<(n:Int))/\0<=d.2.1/\d.2.1<(n:Int))) ?_ ?_
 ·refine Cu (λh=>Ay ?_) (λh=>?_)
  ·simp at h;simp;omega
  ·refine BK ((n:Int) - 1) rfl (by omega) (by omega) (Br (NY _ _ _ _) ?_);refine Ay ?_;simp at h;simp;omega
 ·intro c O;refine Cu (λh=>Ay ?_) (λh=>?_)
  ·have:=O.1 h;unfold VD;constructor
   ·intro h;cases h
   ·intro h;omega
  have Z:¬¬_:=λk=>h (O.2 k);refine Cu (λU=>Ay ?_) (λU=>?_)
  ·unfold VD;constructor
   ·intro h;cases h
   ·intro h;omega
  refine Br (NY _ _ _ _) (Cu (λK=>Ay ?_) (λK=>Ay ?_))
  ·simp at K;unfold VD;constructor
   ·intro h;cases h
   ·intro h;omega
  ·simp at K;unfold VD;constructor
   ·intro h;omega
   ·intro h;rfl
theorem T2{F:Nat}{o:OW}(Z:100<F)(h:NV 40 o):BF (f48 F o) (λr=>r=0↔VO o):=by
 unfold f48;have ac:=h.l1;have ag:=h.l2;refine Cu (λg=>Ay (iff_of_false (by decide) λv=>by have:=v.n2;omega)) (λal=>?_);refine Cu (λg=>Ay (iff_of_false (by decide) λv=>by have:=v.n5;omega)) (λg2=>?_);refine Bo (S:=λq=>(∃e,q=Sum.inl e/\e≠0/\¬∀x∈o.1,CS x)∨(q=Sum.inr ()/\∀x∈o.1,CS x)) ?_ ?_
 ·refine Df o.1.length (λi s=>s=(i:Int)/\∀x∈o.1.take i,CS x) ⟨rfl,by simp⟩ (by omega) ?_ ?_
  ·rintro i s hi ⟨rfl,K⟩;unfold Lb;refine CF (by omega) (Cq (m:=i) rfl hi ?_);have am:=h.n1 _ (List.getElem_mem hi);refine Cu (λg=>Ay (.inl ⟨_,rfl,by decide,λk=>by have:=(k _ (List.getElem_mem hi)).1;omega⟩)) (λap=>?_);refine Bo (S:=λq=>(q=Sum.inl 1/\¬CS o.1[i])∨(q=Sum.inr ()/\CS o.1[i])) ?_ ?_
   ·refine Df o.1[i].length (λj s=>s=(j:Int)/\∀c∈o.1[i].take j,1<=c/\c<=9) ⟨rfl,by simp⟩ (by omega) ?_ ?_
    ·rintro j s U ⟨rfl,O⟩;unfold K8;refine Cq (m:=i) rfl hi (CF (by omega) ?_);refine Cq (m:=i) rfl hi (Cq (m:=j) rfl U ?_);refine Br (NY _ _ _ _) (Cu (λg=>Ay (.inl ⟨rfl,λk=>?_⟩)) (λg=>?_))
     ·have:=k.2 _ (List.getElem_mem U);simp at g;omega
     refine BK ((j+1:Nat):Int) (by simp) (by omega) (by omega) (Ay ⟨rfl,Pz U O ?_⟩);simpa using g
    ·rintro s ⟨rfl,O⟩;unfold K8;refine Cq (m:=i) rfl hi ?_;rw [List.take_length] at O;exact BQ (by omega) (Ay ⟨_,rfl,.inr ⟨rfl,by omega,O⟩⟩)
   ·rintro q (⟨rfl,g⟩ | ⟨rfl,g⟩)
    ·rw [Sum.elim_inl];exact Ay (.inl ⟨_,rfl,by decide,λk=>g (k _ (List.getElem_mem hi))⟩)
    ·rw [Sum.elim_inr];exact BK ((i+1:Nat):Int) (by simp) (by omega) (by omega) (Ay ⟨rfl,Pz hi K g⟩)
  ·rintro s ⟨rfl,K⟩;unfold Lb;rw [List.take_length] at K;exact BQ (by omega) (Ay ⟨_,rfl,.inr ⟨rfl,K⟩⟩)
 ·rintro q (⟨e,rfl,he,g⟩ | ⟨rfl,O⟩)
  ·rw [Sum.elim_inl];exact Ay (iff_of_false he λv=>g v.cs)
  ·rw [Sum.elim_inr];refine Cu (λg=>Ay (iff_of_false (by decide) λv=>by have:=v.d8;omega)) (λg2=>?_);refine Bo (S:=λq=>(∃e,q=Sum.inl e/\e≠0/\¬∀d∈o.2,VD o.1.length d)∨(q=Sum.inr ()/\∀d∈o.2,VD o.1.length d)) ?_ ?_
   ·refine Df o.2.length (λi s=>s=(i:Int)/\∀d∈o.2.take i,VD o.1.length d) ⟨rfl,by simp⟩ (by omega) ?_ ?_
    ·rintro i s hi ⟨rfl,K⟩;unfold NZ;refine CF (by omega) (Cq (m:=i) rfl hi ?_);refine Bo (Zk (by omega)) ?_;intro x Y;refine Cu (λg=>Ay (.inl ⟨_,rfl,g,λk=>g (Y.2 (k _ (List.getElem_mem hi)))⟩)) (λg=>?_);exact BK ((i+1:Nat):Int) (by simp) (by omega) (by omega) (Ay ⟨rfl,Pz hi K (Y.1 (Decidable.not_not.1 g))⟩)
    ·rintro s ⟨rfl,K⟩;unfold NZ;rw [List.take_length] at K;exact BQ (by omega) (Ay ⟨_,rfl,.inr ⟨rfl,K⟩⟩)
   ·rintro q (⟨e,rfl,he,g⟩ | ⟨rfl,g⟩)
    ·rw [Sum.elim_inl];exact Ay (iff_of_false he λv=>g v.ds)
    ·rw [Sum.elim_inr];exact Ay (iff_of_true rfl ⟨by omega,by omega,O,by omega,g⟩)
theorem ZL{F:Nat}{o:OW}(K:100<F)(h:NV 40 o):BF (f47 F o) (λr=>r=0↔VO o):=L3 F o▸T2 K h
theorem Ob{F:Nat}{o:OW}(K:100<F)(h:VO o):f47 F o=some 0:=by
 obtain⟨r,O,U⟩:=ZL K h.nv;rw [O,U.2 h]
theorem Qc{F:Nat}{o:OW}(K:100<F)(h:VO o):f70 F o []=some (o,0):=by
 obtain⟨F,rfl⟩:∃k,F=k+1:=⟨F - 1,by omega⟩;unfold f70;rw [Ob K h]
 rfl
theorem W6(a n:Int):a % n=(a - n) % n:=by
 have h:a=(a - n)+n*1:=by omega
 conv=>lhs;rw [h]
 exact Int.add_mul_emod_self_left _ _ _
theorem Zs{F k n:Nat}{b:IC}(hb:BG k b)(aw:k<900000)(a0:2<=n)(a2:n<900):BF (f40 F b (n:Int)) (λr=>VD n r.1/\BG (k+4) r.2):=by
 unfold f40;refine BK ((n:Int) - 1) rfl (by omega) (by omega) (Bo (La hb (by omega) (by omega)) ?_);rintro⟨x,a3⟩ ⟨O,g2,U⟩;simp only at O g2 U ⊢;refine Bo (P6 U (by omega) (by omega) (by omega) (by omega)) ?_;rintro⟨x2,a4⟩ ⟨a1,am,Y⟩;simp only at a1 am Y ⊢;refine Bo (TN Y (by omega) (by simp) (by simp)) ?_;rintro⟨Z,a5⟩ ⟨ac,ag⟩;simp only at ac ag ⊢;refine BK ((n:Int) - 1) rfl (by omega) (by omega) (Bo (P6 ag (by omega) (by omega) (by omega) (by omega)) ?_);rintro⟨K,a6⟩ ⟨ap,aq,al⟩;simp only at ap aq al ⊢;refine BK (x+K) rfl (by omega) (by omega) (Br (b:=(x+K).tmod n) (by unfold Oy;rw [if_neg (by omega)]) ?_);refine Ay ⟨?_,al⟩;have e:(x+K).tmod n=(x+K) % n:=Int.tmod_eq_emod_of_nonneg (by omega);have p3:1<=Z/\Z<=9:=by
  simp only [List.mem_cons,List.not_mem_nil,or_false] at ac;omega
 have a7:(x+K) % (n:Int)<n:=Int.emod_lt_of_pos _ (by omega);have a8:0<=(x+K) % (n:Int):=Int.emod_nonneg _ (by omega);have a9:x≠(x+K) % (n:Int):=by
  rcases Int.lt_or_le (x+K) n with h | h
  ·rw [Int.emod_eq_of_lt (by omega) h];omega
  ·rw [W6,Int.emod_eq_of_lt (by omega) (by omega)];omega
 refine⟨O,?_,?_,?_,?_,p3.1,p3.2⟩ <;> simp only [e] <;> omega
theorem YV{F k:Nat}{b:IC}{pm dm:Nat}(bb:100<F)(hb:BG k b)(be:k<1000)(bi:2<=pm)(bo:pm<=5)(hd:dm<=8):BF (f31 F b pm dm) (λr=>VO r.1/\r.1.1.length<=pm/\r.1.2.length<=dm/\BG (k+100) r.2):=by
 unfold f31;refine Bo (P6 hb (by omega) (by omega) (by omega) (by omega)) ?_;rintro⟨n,bv⟩ ⟨n1,n2,a1⟩;simp only at n1 n2 a1 ⊢;obtain⟨n,rfl⟩:∃m:Nat,n=(m:Int):=⟨n.toNat,by omega⟩;refine Bo (TH a1 (by omega) (by omega) (by omega)) ?_;rintro⟨bw,b0⟩ g2;simp only at g2 ⊢;refine Bo (S:=λr=>r.2.2.2.length=n/\(∀x∈r.2.2.2,CS x)/\BG (k+30) (r.1,r.2.1,r.2.2.1)) ?_ ?_
 ·refine Df n (λi s=>s.2.2.2.2=(i:Int)/\s.1.length=i/\(∀x∈s.1,CS x)/\BG (k+2+5*i) (s.2.1,s.2.2.1,s.2.2.2.1)) ⟨rfl,rfl,by simp,g2⟩ (by omega) ?_ ?_
  ·rintro i ⟨a2,l,t,ag,c⟩ hi ⟨al,am,ap,K⟩;simp only at al am ap K;subst al;unfold N5;refine CF (by simp only;omega) (Bo (La K (by omega) (by omega)) ?_);rintro⟨c,b1⟩ ⟨c1,c2,aq⟩;simp only at c1 c2 aq ⊢;obtain⟨c,rfl⟩:∃m:Nat,c=(m:Int):=⟨c.toNat,by omega⟩;refine Bo (S:=λr=>CS r.1/\BG (k+2+5*i+1+c) r.2) ?_ ?_
   ·refine Df c (λj s=>s.2.2.2.2=((c - j:Nat):Int)/\s.2.2.2.1.length=j/\(∀v∈s.2.2.2.1,1<=v/\v<=9)/\BG (k+2+5*i+1+j) (s.1,s.2.1,s.2.2.1)) ⟨rfl,rfl,by simp,aq⟩ (by omega) ?_ ?_
    ·rintro j ⟨l,t,ag,w,z⟩ a8 ⟨U,hw,O,K⟩;simp only at U hw O K;subst U;unfold NN;refine CF (by simp only;omega) (Bo (S:=λr=>r.1.length=j+1/\(∀v∈r.1,1<=v/\v<=9)/\BG (k+2+5*i+1+(j+1)) r.2) ?_ ?_)
     ·refine Cu (λ_=>?_) (λ_=>?_)
      ·refine Kg (by simp only;omega) (Ay ⟨by simp [hw],?_,K.Ag (by omega)⟩);intro v h;rcases List.mem_append.1 h with h | h
       ·exact O v h
       ·have:=List.mem_singleton.1 h;omega
      ·refine Bo (TN K (by omega) (by simp) (by simp)) ?_;rintro⟨v,a9⟩ ⟨a3,aw⟩;simp only at a3 aw ⊢;refine Kg (by omega) (Ay ⟨by simp [hw],?_,aw⟩);intro u h;rcases List.mem_append.1 h with h | h
       ·exact O u h
       ·have:=List.mem_singleton.1 h;subst this;simp only [List.mem_cons,List.not_mem_nil,or_false] at a3;omega
     ·rintro⟨w',l',b2,b3⟩ ⟨Z,a0,ac⟩;simp only at Z ac a0 ⊢;exact BK ((c - (j+1):Nat):Int) (by omega) (by omega) (by omega) (Ay ⟨rfl,Z,a0,ac⟩)
    ·rintro⟨l,t,ag,w,z⟩ ⟨U,hw,O,K⟩;simp only at U hw O K;subst U;unfold NN;exact BQ (by simp) (Ay ⟨_,rfl,⟨by simp only;omega,O⟩,K⟩)
   ·rintro⟨w,a9⟩ ⟨Z,ac⟩;simp only at Z ac ⊢;refine Kg (by omega) (BK ((i+1:Nat):Int) (by simp) (by omega) (by omega) ?_);refine Ay ⟨rfl,by simp [am],λx Y=>?_,ac.Ag (by omega)⟩;simp only [List.mem_append,List.mem_singleton] at Y;rcases Y with Y | rfl
    ·exact ap x Y
    ·exact Z
  ·rintro⟨a2,l,t,ag,c⟩ ⟨al,am,ap,K⟩;simp only at al am ap K;subst al;unfold N5;exact BQ (by simp) (Ay ⟨_,rfl,am,ap,K.Ag (by omega)⟩)
 ·rintro⟨l,t,ag,a2⟩ ⟨a4,p2,aq⟩;simp only at a4 p2 aq ⊢;refine Bo (La aq (by omega) (by omega)) ?_;rintro⟨c,b4⟩ ⟨c1,c2,aw⟩;simp only at c1 c2 aw ⊢;obtain⟨c,rfl⟩:∃m:Nat,c=(m:Int):=⟨c.toNat,by omega⟩;refine Bo (S:=λr=>r.2.2.2.length<=dm/\(∀d∈r.2.2.2,VD n d)/\BG (k+100) (r.1,r.2.1,r.2.2.1)) ?_ ?_
  ·refine Df c (λj s=>s.2.2.2.2=((c - j:Nat):Int)/\s.1.length=j/\(∀d∈s.1,VD n d)/\BG (k+31+4*j) (s.2.1,s.2.2.1,s.2.2.2.1)) ⟨rfl,rfl,by simp,aw.Ag (by omega)⟩ (by omega) ?_ ?_
   ·rintro j ⟨a5,l,t,ag,z⟩ a8 ⟨U,hw,O,K⟩;simp only at U hw O K;subst U;unfold ND;refine CF (by simp only;omega) (Bo (Zs K (by omega) (by omega) (by omega)) ?_);rintro⟨d,b5⟩ ⟨a6,a7⟩;simp only at a6 a7 ⊢;refine BF.KI (by simp;omega) (BK ((c - (j+1):Nat):Int) (by omega) (by omega) (by omega) ?_);refine Ay ⟨rfl,by simp [hw],?_,a7.Ag (by omega)⟩;intro x Y;rcases List.mem_append.1 Y with Y | Y
    ·exact O x Y
    ·cases List.mem_singleton.1 Y;exact a6
   ·rintro⟨a5,l,t,ag,z⟩ ⟨U,hw,O,K⟩;simp only at U hw O K;subst U;unfold ND;exact BQ (by simp) (Ay ⟨_,rfl,by simp only;omega,O,K.Ag (by omega)⟩)
  ·rintro⟨l,t,ag,a5⟩ ⟨Z,a0,ac⟩;simp only at Z ac a0 ⊢;exact Ay ⟨⟨by simp only;omega,by simp only;omega,p2,by simp only;omega,by simp only;rw [a4];exact a0⟩,by simp only;omega,Z,ac⟩
end Pal
namespace Pal
def gN(l:List Int)(i:Nat):Int:=l.getD i 0
def IW(l:List Int)(i v:Int):List Int:=l.set i.toNat (gN l i.toNat+v)
def BN(B:Int)(l:List Int):Prop:=l.length=5/\∀x∈l,-B<=x/\x<=B
theorem L4{l:List Int}{i:Nat}(h:i<l.length):gN l i=l[i]:=by unfold gN;rw [List.getD_eq_getElem?_getD,List.getElem?_eq_getElem h];rfl
theorem BN.bd{B:Int}{l:List Int}(h:BN B l){i:Nat}(hi:i<5): -B<=gN l i/\gN l i<=B:=by
 rw [L4 (by have:=h.1;omega)];exact h.2 _ (List.getElem_mem _)
theorem BN.ix{B:Int}{l:List Int}(h:BN B l){i:Int}(K:0<=i)(hi:i<5):ix l i=some (gN l i.toNat):=by
 have:=h.1;rw [L4 (show i.toNat<l.length by omega)];exact Me (m:=i.toNat) (by omega) (List.getElem?_eq_getElem _)
theorem BN.Ag{B C:Int}{l:List Int}(h:BN B l)(O:B<=C):BN C l:=⟨h.1,λx K=>by have:=h.2 x K;omega⟩
theorem BN.add{B V:Int}{l:List Int}(h:BN B l){i v:Int}(O:0<=i)(hi:i<5)(U: -V<=v)(Y:v<=V):BN (B+V) (IW l i v):=by
 have hb:=h.bd (i:=i.toNat) (by omega);refine⟨by unfold IW;rw [List.length_set];exact h.1,λx K=>?_⟩;rcases List.mem_or_eq_of_mem_set K with K | rfl
 ·have:=h.2 x K;omega
 ·omega
theorem Ze{l:List Int}{i v:Int}(h:l.length=5)(K:0<=i)(hi:i<5)(j:Nat):gN (IW l i v) j=gN l j+if(j:Int)=i then v else 0:=by
 unfold IW gN;rw [List.getD_eq_getElem?_getD,List.getElem?_set,List.getD_eq_getElem?_getD,List.getD_eq_getElem?_getD];by_cases e:i.toNat=j
 ·rw [if_pos e,if_pos (by omega),if_pos (by omega),e];rfl
 ·rw [if_neg e,if_neg (by omega),Int.add_zero]
theorem WY{l l':List Int}(h:l.length=5)(U:l'.length=5)(k:∀j,j<5->gN l j=gN l' j):l=l':=by
 refine List.ext_getElem (by omega) λj K O=>?_;rw [← L4 K,← L4 O];exact k j (by omega)
def Lu(l:List Int)(d:DT):List Int:=IW (IW l d.2.1 d.2.2) d.1 (-d.2.2)
def Ez(o:OW):List Int:=o.2.foldl Lu (List.replicate 5 0)
theorem NB{F:Nat}{o:OW}(ac:100<F)(h:VO o):f84 F o=some (Ez o)/\BN 200 (Ez o):=by
 have ag:=h.n5;have al:=h.d8;have:BF (f84 F o) (λr=>r=Ez o/\BN 200 r):=by
  unfold f84;refine Bo (S:=λr=>r=Ez o/\BN 200 r) ?_ (λr U=>Ay U);refine Df o.2.length (λi s=>s.2=(i:Int)/\s.1=(o.2.take i).foldl Lu (List.replicate 5 0)/\BN (20*i) s.1) ⟨rfl,rfl,rfl,by simp⟩ (by omega) ?_ ?_
  ·rintro i ⟨w,c⟩ hi ⟨K,hw,hb⟩;simp only at K hw hb;subst K;obtain⟨v1,v2,am,v4,ap,v6,aq⟩:=h.ds _ (List.getElem_mem hi);have O:=hb.add (i:=o.2[i].2.1) (v:=o.2[i].2.2) (V:=10) (by omega) (by omega) (by omega) (by omega);have g2:=O.add (i:=o.2[i].1) (v:= -o.2[i].2.2) (V:=10) (by omega) (by omega) (by omega) (by omega);have k1:=hb.bd (i:=o.2[i].2.1.toNat) (by omega);have aw:=O.bd (i:=o.2[i].1.toNat) (by omega);unfold NG;refine CF (by simp only;omega) (Cq (m:=i) rfl hi ?_);refine Br (hb.ix (by omega) (by omega)) (BK _ rfl (by omega) (by omega) ?_);refine Br (hb.ix (by omega) (by omega)) (Br (O.ix (by omega) (by omega)) ?_);refine BK _ rfl (by omega) (by omega) (Br (O.ix (by omega) (by omega)) ?_);refine BK ((i+1:Nat):Int) (by simp) (by omega) (by omega) (Ay ⟨rfl,?_,g2.Ag (by omega)⟩);simp only;rw [List.take_add_one,List.getElem?_eq_getElem hi,List.foldl_append,← hw]
   rfl
  ·rintro⟨w,c⟩ ⟨K,hw,hb⟩;simp only at K hw hb;subst K;unfold NG;rw [List.take_length] at hw;exact BQ (by simp) (Ay ⟨_,rfl,hw,hb.Ag (by omega)⟩)
 obtain⟨r,Y,rfl,Z⟩:=this;exact⟨Y,Z⟩
theorem WZ{l:List Int}{i:Nat}(hi:i<l.length):(l.take (i+1)).sum=(l.take i).sum+l[i]:=by
 rw [List.take_add_one,List.getElem?_eq_getElem hi,List.sum_append];simp only [Option.toList_some,List.sum_cons,List.sum_nil];omega
theorem P2{F:Nat}{l:List Int}(ag:100<F)(al:l.length<=20)(hb:∀x∈l,-1000<=x/\x<=1000):f85 F l=some l.sum/\ -20000<=l.sum/\l.sum<=20000:=by
 have:BF (f85 F l) (λr=>r=l.sum/\ -20000<=r/\r<=20000):=by
  unfold f85;refine Bo (S:=λr=>r=l.sum/\ -20000<=r/\r<=20000) ?_ (λr Y=>Ay Y);refine Df l.length (λi s=>s.2=(i:Int)/\s.1=(l.take i).sum/\ -(1000*(i:Int))<=s.1/\s.1<=1000*(i:Int)) ⟨rfl,rfl,by simp,by simp⟩ (by omega) ?_ ?_
  ·rintro i ⟨w,c⟩ hi ⟨K,hw,O,U⟩;simp only at K hw O U;subst K;have am:=hb _ (List.getElem_mem hi);unfold L8;refine CF (by simp only;omega) (Cq (m:=i) rfl hi ?_);refine BK _ rfl (by omega) (by omega) (BK ((i+1:Nat):Int) (by simp) (by omega) (by omega) ?_);refine Ay ⟨rfl,?_,?_,?_⟩
   ·simp only;rw [WZ hi,hw]
   ·simp only;omega
   ·simp only;omega
  ·rintro⟨w,c⟩ ⟨K,hw,O,U⟩;simp only at K hw O U;subst K;unfold L8;rw [List.take_length] at hw;exact BQ (by simp) (Ay ⟨_,rfl,hw,by simp only;omega,by simp only;omega⟩)
 obtain⟨r,Z,rfl,ac⟩:=this;exact⟨Z,ac⟩
theorem M0{α:Type}{l:List α}{i:Nat}{d:α}(h:i<l.length):l.getD i d=l[i]:=by rw [List.getD_eq_getElem?_getD,List.getElem?_eq_getElem h];rfl
end Pal
namespace Pal
end Pal
namespace Pal
end Pal
namespace Pal
def FG(o:OW)(a b:Int):Bool:=o.2.any λd=>decide (d.1=a)&&decide (d.2.1=b)
def EI(c:List Int):Int:=c.getD (c.length - 1) 0
def Hs(o:OW)(c:List Int)(h:Nat):Bool:= !decide ((h:Int)∈c)&&(decide (c= []) || FG o (EI c) h)
def Gf(o:OW)(c:List Int)(i:Nat):List (List Int):=((List.range i).filter (Hs o c)).map λh:Nat=>c++ [(h:Int)]
def ext(o:OW)(c:List Int):List (List Int):=Gf o c o.1.length
def Cy(o:OW):Nat->List (List Int)
 | 0=> [[]]
 | k+1=>(Cy o k).flatMap (ext o)
def Fj(o:OW):Nat->List Int->List (List Int)
 | 0,c=> [c]
 | j+1,c=>(ext o c).flatMap (Fj o j)
def Gu(o:OW)(c:List Int):Bool:=FG o (EI c) (c.getD 0 0)
def IX(o:OW)(r:List Int×Int):Prop:=
 (∃k,2<=k/\k<=o.1.length/\(∀j,2<=j->j<k->(Cy o j).find? (Gu o)=none)/\(Cy o k).find? (Gu o)=some r.1/\r.2=0)∨
  ((∀j,2<=j->j<=o.1.length->(Cy o j).find? (Gu o)=none)/\r=([],11))
theorem IX.uniq{o:OW}{r r':List Int×Int}(h:IX o r)(ac:IX o r'):r=r':=by
 rcases h with⟨k,a1,Y,ag,K,al⟩ | ⟨a1,Y⟩ <;> rcases ac with⟨k',U,Z,am,O,ap⟩ | ⟨U,Z⟩
 ·have:k=k':=by
   rcases Nat.lt_trichotomy k k' with h | h | h
   ·rw [am k a1 h] at K;cases K
   ·exact h
   ·rw [ag k' U h] at O;cases O
  subst this;rw [O] at K;exact Prod.ext (Option.some.inj K).symm (al.trans ap.symm)
 ·rw [U k a1 Y] at K;cases K
 ·rw [a1 k' U Z] at O;cases O
 ·exact Y.trans Z.symm
theorem Rl(o:OW)(c:List Int)(i:Nat):Gf o c (i+1)=Gf o c i++(if Hs o c i=true then [c++ [(i:Int)]] else []):=by
 unfold Gf;rw [List.range_succ,List.filter_append,List.map_append];congr 1;by_cases h:Hs o c i=true
 ·rw [if_pos h];simp [h]
 ·rw [if_neg h];simp [h]
theorem R6(o:OW):∀(j:Nat) (c:List Int),Fj o (j+1) c=(Fj o j c).flatMap (ext o)
 | 0,c=>by simp [Fj]
 | j+1,c=>by
  show(ext o c).flatMap (Fj o (j+1))=((ext o c).flatMap (Fj o j)).flatMap (ext o)
  rw [List.flatMap_assoc,show Fj o (j+1)=λx=>(Fj o j x).flatMap (ext o) from funext λx=>R6 o j x]
theorem SW(o:OW):∀k,Cy o k=Fj o k []
 | 0=>rfl
 | k+1=>by rw [R6,← SW o k];rfl
def Ch(o:OW)(k:Nat)(c:List Int):Prop:=c.length=k/\c.Nodup/\∀x∈c,0<=x/\x<(o.1.length:Int)
theorem Zq{o:OW}{k:Nat}{c x:List Int}(h:Ch o k c)(Y:x∈ext o c):Ch o (k+1) x:=by
 obtain⟨Z,ac,ag⟩:=h;unfold ext Gf at Y;obtain⟨a,O,rfl⟩:=List.mem_map.1 Y;obtain⟨O,U⟩:=List.mem_filter.1 O;have O:=List.mem_range.1 O;have al:(a:Int) ∉ c:=by
  intro hm;unfold Hs at U;rw [decide_eq_true hm] at U;cases U
 refine⟨by simp [Z],?_,λy K=>?_⟩
 ·rw [List.nodup_append];exact⟨ac,by simp,by rintro u hu v am rfl;cases List.mem_singleton.1 am;exact al hu⟩
 ·rcases List.mem_append.1 K with K | K
  ·exact ag y K
  ·cases List.mem_singleton.1 K;omega
theorem Ma(o:OW):∀(k:Nat) (c:List Int),c∈Cy o k->Ch o k c
 | 0,c,h=>by cases List.mem_singleton.1 h;exact⟨rfl,List.nodup_nil,λx K=>by cases K⟩
 | k+1,c,h=>by
  obtain⟨a,O,U⟩:=List.mem_flatMap.1 h
  exact Zq (Ma o k a O) U
theorem R5(o:OW){k:Nat}(Z:o.1.length<k):Cy o k= []:=by
 rcases h:Cy o k with _ | ⟨c,l⟩
 ·rfl
 ·obtain⟨ac,K,O⟩:=Ma o k c (by rw [h];exact List.mem_cons_self);have U:c.length<=((List.range o.1.length).map λh:Nat=>(h:Int)).length:=List.Nodup.length_le_of_subset K λx Y=>by
   have:=O x Y;exact List.mem_map.2 ⟨x.toNat,List.mem_range.2 (by omega),by omega⟩
  rw [List.length_map,List.length_range] at U;omega
theorem K2{α β:Type}{f:α->List β}{m:Nat}:∀{l:List α},(∀x∈l,(f x).length<=m)->(l.flatMap f).length<=l.length*m
 | [],_=>by simp
 | a::l,h=>by
  rw [List.flatMap_cons,List.length_append,List.length_cons,Nat.succ_mul]
  have O:=h a List.mem_cons_self
  have U:=K2 (l:=l) λx K=>h x (List.mem_cons_of_mem _ K)
  omega
theorem Nv(o:OW)(c:List Int)(i:Nat):(Gf o c i).length<=i:=by
 unfold Gf;rw [List.length_map];have K:=List.length_filter_le (Hs o c) (List.range i);rw [List.length_range] at K;exact K
theorem TW{o:OW}(K:o.1.length<=5):∀k,(Cy o k).length<=5 ^ k
 | 0=>by simp [Cy]
 | k+1=>by
  have O:=TW K k
  have U:((Cy o k).flatMap (ext o)).length<=(Cy o k).length*5:=K2 λx _=>Nat.le_trans (Nv o x _) K
  show((Cy o k).flatMap (ext o)).length<=_
  rw [Nat.pow_succ]
  exact Nat.le_trans U (Nat.mul_le_mul_right 5 O)
theorem Ri{o:OW}(K:o.1.length<=5)(k:Nat):(Cy o k).length<=3125:=by
 rcases Nat.lt_or_ge o.1.length k with h | h
 ·rw [R5 o h];simp
 ·exact Nat.le_trans (TW K k) (Nat.pow_le_pow_right (by omega) (by omega:k<=5))
theorem Nu{c:List Int}(h:0<c.length):ix c ((c.length:Int) - 1)=some (EI c):=Me (m:=c.length - 1) (by omega) (by unfold EI;rw [List.getD_eq_getElem?_getD,List.getElem?_eq_getElem (by omega)];rfl)
theorem Tt{c:List Int}(h:0<c.length):ix c 0=some (c.getD 0 0):=Me (m:=0) rfl (by rw [List.getD_eq_getElem?_getD,List.getElem?_eq_getElem h];rfl)
theorem QJ{α:Type}{l:List α}{i:Nat}{x:α}(hi:i<l.length):x∈l.take (i+1)↔x∈l.take i∨x=l[i]:=by
 rw [List.take_add_one,List.getElem?_eq_getElem hi];simp only [Option.toList_some,List.mem_append,List.mem_singleton]
theorem XW{F:Nat}{l:List Int}{x:Int}(O:100<F)(U:l.length<=40):f124 F l x=some (decide (x∈l)):=by
 refine EL ?_;unfold f124;refine Bo (S:=λq=>(q=Sum.inl true/\x∈l)∨(q=Sum.inr ()/\x ∉ l)) ?_ ?_
 ·refine Df l.length (λi s=>s=(i:Int)/\x ∉ l.take i) ⟨rfl,by simp⟩ (by omega) ?_ ?_
  ·rintro i s hi ⟨rfl,K⟩;unfold Nm;refine CF (by omega) (Cq (m:=i) rfl hi ?_);refine Cu (λh=>Ay (.inl ⟨rfl,h▸List.getElem_mem hi⟩)) (λh=>?_);exact BK ((i+1:Nat):Int) (by simp) (by omega) (by omega) (Ay ⟨rfl,λhm=>((QJ hi).1 hm).elim K λe=>h e.symm⟩)
  ·rintro s ⟨rfl,K⟩;unfold Nm;exact BQ (by omega) (Ay ⟨_,rfl,.inr ⟨rfl,by rwa [List.take_length] at K⟩⟩)
 ·rintro q (⟨rfl,h⟩ | ⟨rfl,h⟩)
  ·exact Ay (decide_eq_true h).symm
  ·exact Ay (decide_eq_false h).symm
theorem Zt{F:Nat}{l:List Int}{x:Int}(U:100<F)(Y:l.length<=40):f82 F l x=some (decide (x∈l)):=by
 refine EL ?_;unfold f82;refine Bo (S:=λq:Int=>(0<=q/\x∈l)∨(q<0/\x ∉ l)) ?_ ?_
 ·unfold f128;refine Bo (S:=λq:Int⊕Unit=>(∃z,q=Sum.inl z/\0<=z/\x∈l)∨(q=Sum.inr ()/\x ∉ l)) ?_ ?_
  ·refine Df l.length (λi s=>s=(i:Int)/\x ∉ l.take i) ⟨rfl,by simp⟩ (by omega) ?_ ?_
   ·rintro i s hi ⟨rfl,O⟩;unfold Nf;refine CF (by omega) (Cq (m:=i) rfl hi ?_);refine Cu (λh=>Ay (.inl ⟨_,rfl,by omega,h▸List.getElem_mem hi⟩)) (λh=>?_);exact BK ((i+1:Nat):Int) (by simp) (by omega) (by omega) (Ay ⟨rfl,λhm=>((QJ hi).1 hm).elim O h⟩)
   ·rintro s ⟨rfl,O⟩;unfold Nf;exact BQ (by omega) (Ay ⟨_,rfl,.inr ⟨rfl,by rwa [List.take_length] at O⟩⟩)
  ·rintro q (⟨z,rfl,K,h⟩ | ⟨rfl,h⟩)
   ·exact Ay (.inl ⟨K,h⟩)
   ·exact Ay (.inr ⟨by decide,h⟩)
 ·rintro q (⟨K,h⟩ | ⟨K,h⟩)
  ·exact Ay (by rw [decide_eq_true h,decide_eq_true K])
  ·exact Ay (by rw [decide_eq_false h,decide_eq_false (by omega)])
theorem Ug{o:OW}{a b:Int}{i:Nat}(hi:i<o.2.length):FG (o.1,o.2.take (i+1)) a b=(FG (o.1,o.2.take i) a b || (decide (o.2[i].1=a)&&decide (o.2[i].2.1=b))):=by
 unfold FG;rw [List.take_add_one,List.getElem?_eq_getElem hi];simp only [Option.toList_some,List.any_append,List.any_cons,List.any_nil,Bool.or_false]
theorem RR{o:OW}{a b:Int}:FG (o.1,o.2.take o.2.length) a b=FG o a b:=by rw [List.take_length]
theorem Xu{o:OW}{a b:Int}{i:Nat}(hi:i<o.2.length)(K:o.2[i].1=a)(O:o.2[i].2.1=b):FG o a b=true:=by
 unfold FG;rw [List.any_eq_true];exact⟨o.2[i],List.getElem_mem hi,by rw [decide_eq_true K,decide_eq_true O];rfl⟩
theorem Tw{F:Nat}{o:OW}{a b:Int}(U:100<F)(Y:o.2.length<=40):f95 F o a b=some (FG o a b):=by
 refine EL ?_;unfold f95;refine Bo (S:=λq=>(q=Sum.inl true/\FG o a b=true)∨(q=Sum.inr ()/\FG o a b=false)) ?_ ?_
 ·refine Df o.2.length (λi s=>s=(i:Int)/\FG (o.1,o.2.take i) a b=false) ⟨rfl,by simp [FG]⟩ (by omega) ?_ ?_
  ·rintro i s hi ⟨rfl,K⟩;unfold N7;refine CF (by omega) (Cq (m:=i) rfl hi ?_);refine Bo (S:=λc=>c=(decide (o.2[i].1=a)&&decide (o.2[i].2.1=b))) ?_ ?_
   ·refine Cu (λh=>?_) (λh=>Ay (by rw [decide_eq_false h];rfl));exact Cq (m:=i) rfl hi (Ay (by rw [decide_eq_true h];rfl))
   ·rintro c O;refine Cu (λh=>Ay (.inl ⟨rfl,?_⟩)) (λh=>?_)
    ·rw [O,Bool.and_eq_true] at h;exact Xu hi (of_decide_eq_true h.1) (of_decide_eq_true h.2)
    ·refine BK ((i+1:Nat):Int) (by simp) (by omega) (by omega) (Ay ⟨rfl,?_⟩);rw [Ug hi,K,← O];simpa using h
  ·rintro s ⟨rfl,K⟩;unfold N7;exact BQ (by omega) (Ay ⟨_,rfl,.inr ⟨rfl,by rwa [RR] at K⟩⟩)
 ·rintro q (⟨rfl,h⟩ | ⟨rfl,h⟩)
  ·exact Ay h.symm
  ·exact Ay h.symm
theorem Si{κ ν:Type} [DecidableEq κ] (x y:κ)(v:ν):∀xs:List (κ×ν),Bx (C4 xs x v) y=if y=x then some v else Bx xs y
 | []=>by
  unfold C4 Bx
  by_cases h:y=x
  ·rw [if_pos h];simp [h]
  ·rw [if_neg h];simp [h]
 | z::U=>by
  have Y:=Si x y v U;unfold C4;by_cases h:x=z.1
  ·rw [if_pos h];by_cases K:y=x
   ·rw [if_pos K];unfold Bx;simp [K]
   ·rw [if_neg K];unfold Bx;rw [List.find?_cons_of_neg (by simpa using K),List.find?_cons_of_neg (by simpa using λe=>K (e.trans h.symm))]
  ·rw [if_neg h];by_cases O:y=z.1
   ·rw [if_neg (λe=>h (e.symm.trans O))];unfold Bx;simp [O]
   ·have:Bx (z::C4 U x v) y=Bx (C4 U x v) y:=by unfold Bx;rw [List.find?_cons_of_neg (by simpa using O)]
    rw [this,Y];by_cases K:y=x
    ·rw [if_pos K,if_pos K]
    ·rw [if_neg K,if_neg K];unfold Bx;rw [List.find?_cons_of_neg (by simpa using O)]
theorem Xl{F:Nat}{o:OW}{e:Int}(Y:100<F)(Z:o.2.length<=40):BF (Pal.iter (Md F (o,e)) F (([]:List ((Int×Int)×Bool)),0)) (λm=>∀a b,(Bx m (a,b)).getD false=FG o a b):=by
 refine Df o.2.length (λi s=>s.2=(i:Int)/\∀a b,(Bx s.1 (a,b)).getD false=FG (o.1,o.2.take i) a b) ⟨rfl,λa b=>by simp [Bx,FG]⟩ (by omega) ?_ ?_
 ·rintro i ⟨m,z⟩ hi ⟨K,hm⟩;simp only at K hm;subst K;unfold Md
  dsimp only;refine CF (by omega) (Cq (m:=i) rfl hi ?_);refine BK ((i+1:Nat):Int) (by simp) (by omega) (by omega) (Ay ⟨rfl,λa b=>?_⟩);simp only;rw [Si,Ug hi,← hm a b];by_cases h:(a,b)=(o.2[i].1,o.2[i].2.1)
  ·rw [if_pos h];obtain⟨rfl,rfl⟩:=Prod.mk.inj h;simp
  ·rw [if_neg h];have:(decide (o.2[i].1=a)&&decide (o.2[i].2.1=b))=false:=by
    rw [Bool.and_eq_false_iff];by_cases O:o.2[i].1=a
    ·exact .inr (decide_eq_false λU=>h (by rw [O,U]))
    ·exact .inl (decide_eq_false O)
   rw [this,Bool.or_false]
 ·rintro⟨m,z⟩ ⟨K,hm⟩;simp only at K hm;subst K;unfold Md
  dsimp only;exact BQ (by omega) (Ay ⟨_,rfl,λa b=>by rw [hm,RR]⟩)
theorem Xe{F:Nat}{o:OW}{e:Int}{m:List ((Int×Int)×Bool)}{c:List Int}{acc:List (List Int)}(Y:100<F)(hm:∀a b,(Bx m (a,b)).getD false=FG o a b)(ac:o.1.length<=5)(ag:c.length<=20)(al:acc.length<=100000):Pal.iter (Mc F (o,e) m c) F (acc,0)=some (acc++ext o c):=by
 refine EL (Df o.1.length (λi s=>s.2=(i:Int)/\s.1=acc++Gf o c i) ⟨rfl,by simp [Gf]⟩ (by omega) ?_ ?_)
 ·rintro i ⟨l,z⟩ hi ⟨K,O⟩;simp only at K O;subst K;subst O;have am:=Nv o c i;unfold Mc
  dsimp only;refine CF (by omega) (Bo (S:=λr=>r=acc++Gf o c (i+1)) ?_ ?_)
  ·refine Br (Zt Y (by omega)) (Bo (S:=λq=>q= !Hs o c i) ?_ ?_)
   ·refine Cu (λh=>Ay ?_) (λh=>?_)
    ·unfold Hs;rw [h];rfl
    ·refine Cu (λU=>?_) (λU=>Ay ?_)
     ·refine BK _ rfl (by omega) (by omega) (Br (Nu (by omega)) ?_);refine Ay ?_;rw [hm];unfold Hs;have Z:c≠ []:=by rintro rfl;simp at U
      rw [Bool.not_eq_true] at h;rw [h,decide_eq_false Z];simp
     ·have:c= []:=List.eq_nil_of_length_eq_zero (by omega);unfold Hs;rw [Bool.not_eq_true] at h;rw [h,decide_eq_true this];rfl
   ·rintro q rfl;rw [Rl];refine Cu (λh=>Ay ?_) (λh=>?_)
    ·rw [if_neg (by simpa using h),List.append_nil]
    ·rw [if_pos (by simpa using h),← List.append_assoc];refine BF.KI (by simp;omega) (Kg (by rw [List.length_append];omega) ?_);exact Ay rfl
  ·rintro r rfl;exact BK ((i+1:Nat):Int) (by simp) (by omega) (by omega) (Ay ⟨rfl,rfl⟩)
 ·rintro⟨l,z⟩ ⟨K,O⟩;simp only at K O;subst K;subst O;unfold Mc
  dsimp only;exact BQ (by omega) (Ay ⟨_,rfl,rfl⟩)
theorem MT{α:Type}{l:List α}{p:α->Bool}{i:Nat}(hi:i<l.length)(h:(l.take i).find? p=none):(l.take (i+1)).find? p=if p l[i]=true then some l[i] else none:=by
 rw [List.take_add_one,List.getElem?_eq_getElem hi,List.find?_append,h];by_cases K:p l[i]=true
 ·rw [if_pos K];simp [K]
 ·rw [if_neg K];simp [K]
theorem RF{α:Type}{l:List α}{p:α->Bool}{i:Nat}{x:α}(h:(l.take i).find? p=some x):l.find? p=some x:=by
 rw [← List.take_append_drop i l,List.find?_append,h];rfl
theorem W7{F:Nat}{o:OW}{e:Int}{m:List ((Int×Int)×Bool)}{k:Nat}(am:4000<F)(hm:∀a b,(Bx m (a,b)).getD false=FG o a b)(Z:o.1.length<=5)(ap:k<=5):
  BF (Pal.iter (L5 F (o,e) m (Cy o k)) F ([],0)) (λq=>(1<k/\∃c,(Cy o k).find? (Gu o)=some c/\q=Sum.inl (c,0))∨((1<k->(Cy o k).find? (Gu o)=none)/\q=Sum.inr (Cy o (k+1)))):=by
 have aq:=Ri Z k;refine Df (Cy o k).length (λi s=>s.2=(i:Int)/\s.1=((Cy o k).take i).flatMap (ext o)/\(1<k->((Cy o k).take i).find? (Gu o)=none)) ⟨rfl,by simp⟩ (by omega) ?_ ?_
 ·rintro i ⟨l,z⟩ hi ⟨O,U,K⟩;simp only at O U K;subst O;subst U;have ac:=Ma o k _ (List.getElem_mem hi);have aw:(Cy o k)[i].length=k:=ac.1;have ag:(((Cy o k).take i).flatMap (ext o)).length<=((Cy o k).take i).length*5:=K2 λx _=>Nat.le_trans (Nv o x _) Z;rw [List.length_take] at ag;unfold L5
  dsimp only;refine CF (by omega) (Cq (m:=i) rfl hi ?_);refine Bo (S:=λq=>q=(decide (1<k)&&Gu o (Cy o k)[i])) ?_ ?_
  ·refine Cu (λh=>?_) (λh=>Ay (by rw [decide_eq_false (by omega)];rfl));refine BK _ rfl (by omega) (by omega) (Br (Nu (by omega)) ?_);refine Br (Tt (by omega)) (Ay ?_);rw [hm,decide_eq_true (by omega)];rfl
  ·rintro q rfl;refine Cu (λh=>Ay (.inl ?_)) (λh=>?_)
   ·rw [Bool.and_eq_true] at h;have Y:1<k:=of_decide_eq_true h.1;refine⟨Y,_,RF (i:=i+1) ?_,rfl⟩;rw [MT hi (K Y),if_pos h.2]
   ·refine Br (Xe (by omega) hm Z (by omega) (by omega)) (BK ((i+1:Nat):Int) (by simp) (by omega) (by omega) ?_);refine Ay ⟨rfl,?_,λY=>?_⟩
    ·simp only;rw [List.take_add_one,List.getElem?_eq_getElem hi,List.flatMap_append];simp
    ·rw [MT hi (K Y),if_neg];intro al;rw [al,decide_eq_true Y] at h;exact h rfl
 ·rintro⟨l,z⟩ ⟨O,U,K⟩;simp only at O U K;subst O;subst U;unfold L5
  dsimp only;rw [List.take_length] at K ⊢;exact BQ (by omega) (Ay ⟨_,rfl,.inr ⟨K,rfl⟩⟩)
theorem Zo{F:Nat}{o:OW}(ag:4000<F)(h:VO o):BF (f33 F o) (IX o):=by
 have al:=h.n5;have a3:=h.d8;unfold f33;refine Br (Qc (by omega) h) ?_;refine BQ (by simp) ?_;refine Bo (Xl (by omega) (by omega)) ?_;intro m hm;refine Bo (S:=λq=>(∃r,q=Sum.inl r/\IX o r)∨(q=Sum.inr ()/\IX o ([],11))) ?_ ?_
 ·refine Df (o.1.length+1) (λi s=>s=Cy o i/\∀j,2<=j->j<i->(Cy o j).find? (Gu o)=none) ⟨rfl,by omega⟩ (by omega) ?_ ?_
  ·rintro i s hi ⟨rfl,K⟩;have Z:∀k,(∀j,2<=j->j<k->(Cy o j).find? (Gu o)=none)->Cy o k= []->IX o ([],11):=by
    intro k am he;refine .inr ⟨λj O U=>?_,rfl⟩;rcases Nat.lt_or_ge j k with ap | a4
    ·exact am j O ap
    ·have:∀t,Cy o (k+t)= []:=by
      intro t
      induction t with
      | zero=>exact he
      | succ t aq=>show(Cy o (k+t)).flatMap (ext o)= [];rw [aq];rfl
     have:=this (j - k);rw [show k+(j - k)=j by omega] at this;rw [this];rfl
   unfold NT;refine Cu (λaw=>?_) (λaw=>Ay (.inr ⟨rfl,Z i K (List.eq_nil_of_length_eq_zero (by omega))⟩));refine Bo (W7 ag hm al (by omega)) ?_;rintro q (⟨a5,c,a0,rfl⟩ | ⟨a1,rfl⟩)
   ·exact Ay (.inl ⟨_,rfl,.inl ⟨i,by omega,by omega,K,a0,rfl⟩⟩)
   ·have ac:∀j,2<=j->j<i+1->(Cy o j).find? (Gu o)=none:=by
     intro j O U;rcases Nat.lt_succ_iff_lt_or_eq.1 U with U | rfl
     ·exact K j O U
     ·exact a1 (by omega)
    refine Cu (λa2=>Ay (.inr ⟨rfl,Z (i+1) ac (List.eq_nil_of_length_eq_zero (by omega))⟩)) (λa2=>Ay ⟨rfl,ac⟩)
  ·rintro s ⟨rfl,K⟩;rw [R5 o (by omega:o.1.length<o.1.length+1)];unfold NT;refine BQ (by simp) (Ay ⟨_,rfl,.inr ⟨rfl,.inr ⟨λj O U=>K j O (by omega),rfl⟩⟩⟩)
 ·rintro q (⟨r,rfl,Y⟩ | ⟨rfl,Y⟩)
  ·exact Ay Y
  ·exact Ay Y
theorem TU{F:Nat}{o:OW}(Y:100<F)(Z:o.1.length<=5)(ac:o.2.length<=40):∀(j N:Nat) (c:List Int) (k:Nat),j<N->c.length+j=k->k<=5->Ln N F o c (k:Int)=some (Fj o j c)/\(Fj o j c).length<=5 ^ j
 | 0,N+1,c,k,_,aw,ag=>by
  refine⟨?_,by simp [Fj]⟩
  show Ku (Ln N F) F o c k=_
  unfold Ku
  rw [if_pos (by omega)];rfl
 | j+1,N+1,c,k,a3,aw,ag=>by
  have al:=λam (h:am.length=c.length+1)=>TU Y Z ac j N am k (by omega) (by omega) ag
  have a0:∀i,∀x∈Gf o c i,(Fj o j x).length<=5 ^ j:=by
   intro i x ap;unfold Gf at ap;obtain⟨a,_,rfl⟩:=List.mem_map.1 ap;exact(al _ (by simp)).2
  have hb:∀i,i<=5->((Gf o c i).flatMap (Fj o j)).length<=5 ^ (j+1):=by
   intro i hi;refine Nat.le_trans (K2 (a0 i)) ?_;rw [Nat.pow_succ,Nat.mul_comm];exact Nat.mul_le_mul_left _ (Nat.le_trans (Nv o c i) hi)
  have a4:(5:Nat) ^ (j+1)<=5 ^ 5:=Nat.pow_le_pow_right (by omega) (by omega);have a5:(5:Nat) ^ j<=5 ^ 5:=Nat.pow_le_pow_right (by omega) (by omega);have a6:(5:Nat) ^ 5=3125:=by decide
  refine⟨?_,hb _ Z⟩;show Ku (Ln N F) F o c k=_;refine EL ?_;unfold Ku;refine BQ (by omega) (Bo (S:=λr=>r=(ext o c).flatMap (Fj o j)) ?_ (by rintro r rfl;exact Ay rfl));refine Df o.1.length (λi s=>s.2=(i:Int)/\s.1=(Gf o c i).flatMap (Fj o j)) ⟨rfl,by simp [Gf]⟩ (by omega) ?_ ?_
  ·rintro i ⟨l,z⟩ hi ⟨K,O⟩;simp only at K O;subst K;subst O;have a7:=hb i (by omega);unfold NJ
   dsimp only;refine CF (by omega) (Br (XW Y (by omega)) ?_);refine Bo (S:=λq=>q=Hs o c i) ?_ ?_
   ·refine Cu (λh=>?_) (λh=>Ay ?_)
    ·have U:decide ((i:Int)∈c)=false:=by simpa using h
     refine Cu (λaq=>Ay ?_) (λaq=>?_)
     ·have:c= []:=List.eq_nil_of_length_eq_zero (by omega);unfold Hs;rw [U,decide_eq_true this];rfl
     ·refine BK _ rfl (by omega) (by omega) (Br (Nu (by omega)) ?_);refine Br (Tw Y ac) (Ay ?_);have a1:c≠ []:=by rintro rfl;simp at aq
      unfold Hs;rw [U,decide_eq_false a1];rfl
    ·have U:decide ((i:Int)∈c)=true:=by simpa using h
     unfold Hs;rw [U];rfl
   ·rintro q rfl;rw [show(ext o c).flatMap (Fj o j)=(ext o c).flatMap (Fj o j) from rfl];refine Bo (S:=λr=>r=(Gf o c (i+1)).flatMap (Fj o j)) ?_ ?_
    ·rw [Rl,List.flatMap_append];refine Cu (λh=>?_) (λh=>Ay ?_)
     ·have a2:Cs ([]:List Int) c=some c:=by unfold Cs;rw [if_pos (by simp;omega)];rfl
      obtain⟨i1,i2⟩:=al (c++ [(i:Int)]) (by simp);refine Br a2 (BF.KI (by simp;omega) ?_);refine Br i1 ?_;rw [if_pos h];exact Br (b:=(Gf o c i).flatMap (Fj o j)++Fj o j (c++ [(i:Int)])) (by unfold Cs;rw [if_pos (by omega)]) (Ay (by simp))
     ·rw [if_neg h];simp
    ·rintro r rfl;exact BK ((i+1:Nat):Int) (by simp) (by omega) (by omega) (Ay ⟨rfl,rfl⟩)
  ·rintro⟨l,z⟩ ⟨K,O⟩;simp only at K O;subst K;subst O;unfold NJ
   dsimp only;exact BQ (by omega) (Ay ⟨_,rfl,rfl⟩)
theorem Xm{F:Nat}{o:OW}{k:Nat}(Z:4000<F)(O:o.1.length<=5)(U:o.2.length<=40)(ac:2<=k)(ag:k<=5):
  BF (Pal.iter (L2 F o k (Cy o k)) F 0) (λq=>(∃c,(Cy o k).find? (Gu o)=some c/\q=Sum.inl (c,0))∨((Cy o k).find? (Gu o)=none/\q=Sum.inr ())):=by
 have al:=Ri O k;refine Df (Cy o k).length (λi s=>s=(i:Int)/\((Cy o k).take i).find? (Gu o)=none) ⟨rfl,by simp⟩ (by omega) ?_ ?_
 ·rintro i s hi ⟨rfl,K⟩;have Y:=Ma o k _ (List.getElem_mem hi);have am:(Cy o k)[i].length=k:=Y.1;unfold L2;refine CF (by omega) (Cq (m:=i) rfl hi ?_);refine BK (((Cy o k)[i].length:Int) - 1) (by omega) (by omega) (by omega) (Br (Nu (by omega)) ?_);refine Cq (m:=i) rfl hi (Br (Tt (by omega)) ?_);refine Br (Tw (by omega) U) (Cu (λh=>?_) (λh=>?_))
  ·refine Cq (m:=i) rfl hi (Ay (.inl ⟨_,RF (i:=i+1) ?_,rfl⟩));rw [MT hi K,if_pos (show Gu o (Cy o k)[i]=true from h)]
  ·refine BK ((i+1:Nat):Int) (by simp) (by omega) (by omega) ?_;exact Ay ⟨rfl,by rw [MT hi K,if_neg (show ¬Gu o (Cy o k)[i]=true from h)]⟩
 ·rintro s ⟨rfl,K⟩;unfold L2;rw [List.take_length] at K;exact BQ (by omega) (Ay ⟨_,rfl,.inr ⟨K,rfl⟩⟩)
theorem ZS{F:Nat}{o:OW}(Z:4000<F)(h:VO o):BF (f51 F o) (IX o):=by
 have Y:=h.n5;have ap:=h.n2;have aq:=h.d8;unfold f51;refine Br ((L3 F o).symm.trans (Ob (by omega) h)) ?_;refine BQ (by simp) ?_;refine Bo (S:=λq=>(∃r,q=Sum.inl r/\IX o r)∨(q=Sum.inr ()/\IX o ([],11))) ?_ ?_
 ·refine Df (o.1.length - 1) (λi s=>s=((i+2:Nat):Int)/\∀j,2<=j->j<i+2->(Cy o j).find? (Gu o)=none) ⟨rfl,by omega⟩ (by omega) ?_ ?_
  ·rintro i s hi ⟨rfl,K⟩;unfold N1;refine CF (by omega) (Br (TU (by omega) Y (by omega) (i+2) F [] (i+2) (by omega) (by simp) (by omega)).1 ?_);rw [← SW];refine Bo (Xm Z Y (by omega) (by omega) (by omega)) ?_;rintro q (⟨c,ac,rfl⟩ | ⟨ag,rfl⟩)
   ·exact Ay (.inl ⟨_,rfl,.inl ⟨i+2,by omega,by omega,K,ac,rfl⟩⟩)
   ·rw [Sum.elim_inr];refine BK ((i+1+2:Nat):Int) (by omega) (by omega) (by omega) (Ay ⟨rfl,λj O al=>?_⟩);rcases Nat.lt_or_ge j (i+2) with am | aw
    ·exact K j O am
    ·rw [show j=i+2 by omega];exact ag
  ·rintro s ⟨rfl,K⟩;unfold N1;refine BQ (by omega) (Ay ⟨_,rfl,.inr ⟨rfl,.inr ⟨λj O al=>K j O (by omega),rfl⟩⟩⟩)
 ·rintro q (⟨r,rfl,U⟩ | ⟨rfl,U⟩)
  ·exact Ay U
  ·exact Ay U
end Pal
namespace Pal
theorem LX{w:List Int}{n:Nat}{i:Int}{B:Int}(hb:BN B w)(K:n<=5)(O:0<=i)(hi:i<n):ix (w.take n) i=some (gN w i.toNat):=by
 have U:=hb.1;have:i.toNat<(w.take n).length:=by rw [List.length_take];omega
 refine Me (m:=i.toNat) (by omega) ?_;rw [List.getElem?_eq_getElem this,List.getElem_take,L4 (by omega)]
theorem Y8{w:List Int}{i j:Nat}{v:Int}(h:i≠j):gN (w.set i v) j=gN w j:=by
 unfold gN;rw [List.getD_eq_getElem?_getD,List.getElem?_set_ne h,List.getD_eq_getElem?_getD]
theorem WR{w:List Int}{d:DT}{n:Nat}(O:0<=d.1)(U:0<=d.2.1)(Y:d.1≠d.2.1):(Lu w d).take n=((w.take n).set d.1.toNat (gN w d.1.toNat - d.2.2)).set d.2.1.toNat (gN w d.2.1.toNat+d.2.2):=by
 unfold Lu IW;have K:d.2.1.toNat≠d.1.toNat:=by omega
 rw [Y8 K,List.take_set,List.take_set,List.set_comm _ _ K,Int.sub_eq_add_neg]
theorem Tv{F:Nat}{o:OW}(al:100<F)(h:VO o):f89 F o=some ((Ez o).take o.1.length):=by
 have U:=h.n5;have am:=h.d8;refine EL ?_;unfold f89;refine Br (b:=List.replicate o.1.length 0) ?_ ?_
 ·unfold IQ;rw [if_pos (by omega)];rfl
 refine Bo (S:=λr=>r=(Ez o).take o.1.length) ?_ (λr Y=>Ay Y);refine Df o.2.length (λi s=>s.2=(i:Int)/\∃w,s.1=w.take o.1.length/\w=(o.2.take i).foldl Lu (List.replicate 5 0)/\BN (20*i) w) ⟨rfl,List.replicate 5 0,by rw [List.take_replicate,Nat.min_eq_left U],rfl,rfl,by simp⟩ (by omega) ?_ ?_
 ·rintro i ⟨s,c⟩ hi ⟨K,w,O,hw,hb⟩;simp only at K O;subst K;subst O;obtain⟨v1,v2,Z,v4,ac,v6,ap⟩:=h.ds _ (List.getElem_mem hi);have ag:=hb.add (i:=o.2[i].2.1) (v:=o.2[i].2.2) (V:=10) (by omega) (by omega) (by omega) (by omega);have g2:=ag.add (i:=o.2[i].1) (v:= -o.2[i].2.2) (V:=10) (by omega) (by omega) (by omega) (by omega);have k1:=hb.bd (i:=o.2[i].2.1.toNat) (by omega);have aq:=hb.bd (i:=o.2[i].1.toNat) (by omega);unfold N6;refine CF (by simp only;omega) (Cq (m:=i) rfl hi ?_);refine Br (LX hb U (by omega) (by omega)) (Br (LX hb U (by omega) (by omega)) ?_);refine BK _ rfl (by omega) (by omega) (Br (LX hb U (by omega) (by omega)) ?_);refine BK _ rfl (by omega) (by omega) (BK ((i+1:Nat):Int) (by simp) (by omega) (by omega) ?_);refine Ay ⟨rfl,Lu w o.2[i],(WR v1 Z ac).symm,?_,g2.Ag (by omega)⟩;rw [List.take_add_one,List.getElem?_eq_getElem hi,List.foldl_append,← hw]
  rfl
 ·rintro⟨s,c⟩ ⟨K,w,O,hw,hb⟩;simp only at K O;subst K;unfold N6;rw [List.take_length] at hw;exact BQ (by simp) (Ay ⟨_,rfl,by simp only;rw [O,hw];rfl⟩)
end Pal
namespace Pal
theorem Yf{F:Nat}{l:List Int}(K:100<F)(O:l.length<=20)(hb:∀x∈l,-1000<=x/\x<=1000):f103 F l=some l.sum:=by
 have U:=(P2 K O hb).1;rw [← U];have e:Pu F l=L8 F l:=by funext s;rfl
 unfold f103 f85;rw [e]
def GB(o:OW)(k:Nat):List Int:=((List.range k).filter λh:Nat=>decide ((o.1.getD h []).sum< -gN (Ez o) h)).map λh:Nat=>(h:Int)
theorem O4(o:OW)(k:Nat):GB o (k+1)=GB o k++(if(o.1.getD k []).sum< -gN (Ez o) k then [(k:Int)] else []):=by
 unfold GB;rw [List.range_succ,List.filter_append,List.map_append];congr 1;by_cases h:(o.1.getD k []).sum< -gN (Ez o) k
 ·rw [if_pos h];simp only [List.filter_cons,List.filter_nil,h,decide_true,if_true,List.map_cons,List.map_nil]
 ·rw [if_neg h];simp only [List.filter_cons,List.filter_nil,h,decide_false,Bool.false_eq_true,if_false,List.map_nil]
theorem M6(o:OW)(k:Nat):(GB o k).length<=k:=by
 unfold GB;rw [List.length_map];have K:=List.length_filter_le (λh:Nat=>decide ((o.1.getD h []).sum< -gN (Ez o) h)) (List.range k);rw [List.length_range] at K;exact K
theorem Ua{x:List Int}(h:CS x):x.length<=20/\∀c∈x,-1000<=c/\c<=1000:=⟨by have:=h.1;omega,λc K=>by have:=h.2 c K;omega⟩
theorem YT{F:Nat}{o:OW}(Z:100<F)(h:VO o):f39 F o=some (GB o o.1.length,0):=by
 have aq:=h.n5;obtain⟨hw,hb⟩:=NB Z h;refine EL ?_;unfold f39;refine Br (Qc Z h) ?_;refine BQ (by simp) ?_;refine Br hw ?_;refine Bo (S:=λr=>r=GB o o.1.length) ?_ (by rintro r rfl;exact Ay rfl);refine Df 5 (λi s=>s.2=(i:Int)/\s.1=GB o (min i o.1.length)) ⟨rfl,by simp [GB]⟩ (by omega) ?_ ?_
 ·rintro i ⟨l,z⟩ hi ⟨K,O⟩;simp only at K O;subst K;subst O;have aw:=M6 o (min i o.1.length);have a0:=hb.bd hi;unfold NK
  dsimp only;refine CF (by omega) (Br (hb.ix (by omega) (by omega)) ?_);rw [show Int.toNat (i:Int)=i by omega];refine Bo (S:=λq=>(q=true/\i<o.1.length/\(o.1.getD i []).sum< -gN (Ez o) i)∨(q=false/\¬(i<o.1.length/\(o.1.getD i []).sum< -gN (Ez o) i))) ?_ ?_
  ·refine Cu (λag=>?_) (λag=>Ay (.inr ⟨rfl,by omega⟩));have U:i<o.1.length:=by omega
   obtain⟨c1,c2⟩:=Ua (h.cs _ (List.getElem_mem U));obtain⟨s1,s2,a1⟩:=P2 (F:=F) Z c1 c2;refine Cq (m:=i) rfl U (Br s1 ?_);refine BK _ rfl (by omega) (by omega) (Ay ?_);rw [M0 U];by_cases Y:(o.1[i]).sum< -gN (Ez o) i
   ·exact .inl ⟨decide_eq_true Y,U,Y⟩
   ·exact .inr ⟨decide_eq_false Y,λk=>Y k.2⟩
  ·intro q al;refine Bo (S:=λr=>r=GB o (min (i+1) o.1.length)) ?_ ?_
   ·rcases al with⟨rfl,ac,am⟩ | ⟨rfl,ac⟩
    ·rw [show min (i+1) o.1.length=i+1 by omega,O4,if_pos am,show min i o.1.length=i by omega];refine CF rfl (Kg (by have:=M6 o i;omega) (Ay rfl))
    ·refine BQ (by simp) (Ay ?_);rcases Nat.lt_or_ge i o.1.length with ap | a2
     ·rw [show min (i+1) o.1.length=i+1 by omega,O4,if_neg (λk=>ac ⟨ap,k⟩),show min i o.1.length=i by omega,List.append_nil]
     ·rw [show min (i+1) o.1.length=min i o.1.length by omega]
   ·rintro r rfl;exact BK ((i+1:Nat):Int) (by simp) (by omega) (by omega) (Ay ⟨rfl,rfl⟩)
 ·rintro⟨l,z⟩ ⟨K,O⟩;simp only at K O;subst K;subst O;unfold NK
  dsimp only;exact BQ (by omega) (Ay ⟨_,rfl,by rw [show min 5 o.1.length=o.1.length by omega]⟩)
theorem YY{F:Nat}{o:OW}(U:100<F)(h:VO o):f54 F o=some (GB o o.1.length,0):=by
 have Z:=h.n5;obtain⟨hw,hb⟩:=NB U h;refine EL ?_;unfold f54;refine Br ((L3 F o).symm.trans (Ob (by omega) h)) ?_;refine BQ (by simp) ?_;refine Br (Tv U h) ?_;have hlen:((Ez o).take o.1.length).length=o.1.length:=by rw [List.length_take,hb.1];omega
 refine Bo (S:=λr=>r=GB o o.1.length) ?_ (by rintro r rfl;exact Ay rfl);refine Df o.1.length (λi s=>s.2=(i:Int)/\s.1=GB o i) ⟨rfl,by simp [GB]⟩ (by omega) ?_ ?_
 ·rintro i ⟨l,z⟩ hi ⟨K,O⟩;simp only at K O;subst K;subst O;have ac:=M6 o i;have ag:=hb.bd (show i<5 by omega);obtain⟨c1,c2⟩:=Ua (h.cs _ (List.getElem_mem hi));obtain⟨s1,s2,al⟩:=P2 (F:=F) U c1 c2;unfold N2
  dsimp only;refine CF (by omega) (Cq (m:=i) rfl hi ?_);refine Br (LX hb Z (by omega) (by omega)) ?_;rw [show Int.toNat (i:Int)=i by omega];refine BK _ rfl (by omega) (by omega) (Br (Yf U c1 c2) ?_);refine Bo (S:=λr=>r=GB o (i+1)) ?_ ?_
  ·rw [O4,M0 hi];refine Cu (λY=>?_) (λY=>Ay ?_)
   ·rw [if_pos Y];exact Kg (by omega) (Ay rfl)
   ·rw [if_neg Y,List.append_nil]
  ·rintro r rfl;exact BK ((i+1:Nat):Int) (by simp) (by omega) (by omega) (Ay ⟨rfl,rfl⟩)
 ·rintro⟨l,z⟩ ⟨K,O⟩;simp only at K O;subst K;subst O;unfold N2
  dsimp only;exact BQ (by omega) (Ay ⟨_,rfl,rfl⟩)
def B7(l:List Int):Int:=l.foldl (λm x=>max m (x+1)) 0
theorem M1(l:List Int)(k:Int):B7 (l++ [k])=max (B7 l) (k+1):=by unfold B7;rw [List.foldl_append];rfl
def RG(l:List Int):Prop:=0<=B7 l/\B7 l<=(l.length:Int)/\∀x∈l,0<=x/\x<B7 l
theorem RG.nil:RG []:=⟨Int.le_refl _,Int.le_refl _,λx K=>by cases K⟩
theorem RG.snoc{l:List Int}{k:Int}(h:RG l)(Y:0<=k)(Z:k<=B7 l):RG (l++ [k]):=by
 obtain⟨ac,ag,O⟩:=h;have U:((l++ [k]).length:Int)=(l.length:Int)+1:=by simp
 unfold RG;rw [M1,U];refine⟨by omega,by omega,λx K=>?_⟩;rcases List.mem_append.1 K with K | K
 ·have:=O x K;omega
 ·cases List.mem_singleton.1 K;omega
def EW:Nat->List Int->List (List Int)
 | 0,l=> [l]
 | j+1,l=>(List.range ((B7 l).toNat+1)).flatMap λk:Nat=>EW j (l++ [(k:Int)])
theorem NS:∀(j:Nat) (l:List Int),RG l->∀x∈EW j l,RG x/\x.length=l.length+j
 | 0,l,h,x,K=>by cases List.mem_singleton.1 K;exact⟨h,rfl⟩
 | j+1,l,h,x,K=>by
  obtain⟨k,O,K⟩:=List.mem_flatMap.1 K
  have O:=List.mem_range.1 O
  have Y:=h.1
  obtain⟨U,g2⟩:=NS j _ (h.snoc (k:=(k:Int)) (by omega) (by omega)) x K
  exact⟨U,by rw [g2];simp;omega⟩
theorem NF:∀(j:Nat) (l:List Int),RG l->l.length+j<=5->(EW j l).length<=5 ^ j
 | 0,l,h,_=>by simp [EW]
 | j+1,l,h,O=>by
  have U:=h.1;have Y:=h.2.1
  have:((List.range ((B7 l).toNat+1)).flatMap λk:Nat=>EW j (l++ [(k:Int)])).length<=(List.range ((B7 l).toNat+1)).length*5 ^ j:=K2 λk K=>by
   have K:=List.mem_range.1 K
   exact NF j _ (h.snoc (by omega) (by omega)) (by simp;omega)
  rw [List.length_range] at this
  show((List.range ((B7 l).toNat+1)).flatMap λk:Nat=>EW j (l++ [(k:Int)])).length<=_
  rw [Nat.pow_succ,Nat.mul_comm]
  exact Nat.le_trans this (Nat.mul_le_mul_right _ (by omega))
theorem K5{F:Nat}{l:List Int}(Y:100<F)(h:RG l)(Z:l.length<=20):f101 F l=some (B7 l):=by
 obtain⟨ac,ag,U⟩:=h;refine EL ?_;unfold f101;refine Bo (S:=λr=>r=B7 l) ?_ (by rintro r rfl;exact Ay rfl);refine Df l.length (λi s=>s.2=(i:Int)/\s.1=B7 (l.take i)) ⟨rfl,rfl⟩ (by omega) ?_ ?_
 ·rintro i ⟨m,z⟩ hi ⟨K,O⟩;simp only at K O;subst K;subst O;have al:=U _ (List.getElem_mem hi);unfold Nt
  dsimp only;refine CF (by omega) (Cq (m:=i) rfl hi ?_);refine BK _ rfl (by omega) (by omega) (BK ((i+1:Nat):Int) (by simp) (by omega) (by omega) ?_);refine Ay ⟨rfl,?_⟩;simp only;rw [List.take_add_one,List.getElem?_eq_getElem hi,Option.toList_some,M1]
 ·rintro⟨m,z⟩ ⟨K,O⟩;simp only at K O;subst K;subst O;unfold Nt
  dsimp only;exact BQ (by omega) (Ay ⟨_,rfl,by rw [List.take_length]⟩)
theorem SK{F n:Nat}(Y:100<F)(Z:n<=5):∀(j N:Nat) (l:List Int),j<N->l.length+j=n->RG l->K9 N F l (n:Int)=some (EW j l)
 | 0,N+1,l,_,ac,h=>by
  show Kn (K9 N F) F l n=_
  unfold Kn
  rw [if_pos (by omega)];rfl
 | j+1,N+1,l,am,ac,h=>by
  have ap:=h.1;have aq:=h.2.1
  have ag:=λ(k:Nat) (U:(k:Int)<=B7 l)=>SK Y Z j N (l++ [(k:Int)]) (by omega) (by simp;omega) (h.snoc (by omega) U)
  have al:∀i,i<=(B7 l).toNat+1->((List.range i).flatMap λk:Nat=>EW j (l++ [(k:Int)])).length<=5 ^ 5*5:=by
   intro i hi;have:((List.range i).flatMap λk:Nat=>EW j (l++ [(k:Int)])).length<=(List.range i).length*5 ^ 5:=K2 λk U=>by
    have U:=List.mem_range.1 U;exact Nat.le_trans (NF j _ (h.snoc (by omega) (by omega)) (by simp;omega)) (Nat.pow_le_pow_right (by omega) (by omega))
   rw [List.length_range] at this;exact Nat.le_trans this (by rw [Nat.mul_comm];exact Nat.mul_le_mul_left _ (by omega))
  have aw:(5:Nat) ^ 5=3125:=by decide
  show Kn (K9 N F) F l n=_;refine EL ?_;unfold Kn;refine BQ (by omega) (Bo (S:=λr=>r=EW (j+1) l) ?_ (by rintro r rfl;exact Ay rfl));refine Df ((B7 l).toNat+1) (λi s=>s.2=(i:Int)/\s.1=(List.range i).flatMap λk:Nat=>EW j (l++ [(k:Int)])) ⟨rfl,rfl⟩ (by omega) ?_ ?_
  ·rintro i ⟨m,z⟩ hi ⟨K,O⟩;simp only at K O;subst K;subst O;have hb:=al i (by omega);have a0:=NF j _ (h.snoc (k:=(i:Int)) (by omega) (by omega)) (by simp;omega);have a1:(5:Nat) ^ j<=5 ^ 5:=Nat.pow_le_pow_right (by omega) (by omega);unfold No
   dsimp only;refine Br (K5 Y h (by omega)) (CF (by omega) ?_);refine BF.KI (by simp;omega) (Kg (by simp;omega) ?_);rw [List.nil_append];refine Br (ag i (by omega)) (Br (b:=((List.range i).flatMap λk:Nat=>EW j (l++ [(k:Int)]))++EW j (l++ [(i:Int)])) (by unfold Cs;rw [if_pos (by omega)]) ?_);refine BK ((i+1:Nat):Int) (by simp) (by omega) (by omega) (Ay ⟨rfl,?_⟩);simp only;rw [List.range_succ,List.flatMap_append];simp only [List.flatMap_cons,List.flatMap_nil,List.append_nil]
  ·rintro⟨m,z⟩ ⟨K,O⟩;simp only at K O;subst K;subst O;unfold No
   dsimp only;exact Br (K5 Y h (by omega)) (BQ (by omega) (Ay ⟨_,rfl,rfl⟩))
def F0(w l:List Int)(g:Int):Nat->Int
 | 0=>0
 | i+1=>F0 w l g i+if l.getD i 0=g then gN w i else 0
def sm(w l:List Int)(g:Int):Int:=F0 w l g l.length
theorem SV(w l:List Int)(k g:Int):∀i,i<=l.length->F0 w (l++ [k]) g i=F0 w l g i
 | 0,_=>rfl
 | i+1,h=>by
  show F0 w (l++ [k]) g i+_=F0 w l g i+_
  rw [SV w l k g i (by omega),List.getD_eq_getElem?_getD,List.getElem?_append_left (by omega),← List.getD_eq_getElem?_getD]
theorem XE(w l:List Int)(k g:Int):sm w (l++ [k]) g=sm w l g+if k=g then gN w l.length else 0:=by
 unfold sm;rw [List.length_append,List.length_singleton];show F0 w (l++ [k]) g l.length+_=_;rw [SV w l k g _ (Nat.le_refl _),List.getD_eq_getElem?_getD,List.getElem?_append_right (Nat.le_refl _),Nat.sub_self]
 rfl
theorem Tm{w l:List Int}{g:Int}(hw:BN 200 w):∀i:Nat,i<=5-> -(200*(i:Int))<=F0 w l g i/\F0 w l g i<=200*(i:Int)
 | 0,_=>by simp [F0]
 | i+1,h=>by
  have K:=Tm (l:=l) (g:=g) hw i (by omega)
  have O:=hw.bd (show i<5 by omega)
  show -_<=F0 w l g i+_/\F0 w l g i+_<=_
  split <;> omega
theorem R0{w l:List Int}{g:Int}(h:∀x∈l,x≠g):∀i,i<=l.length->F0 w l g i=0
 | 0,_=>rfl
 | i+1,hi=>by
  show F0 w l g i+_=0
  rw [R0 h i (by omega),if_neg,Int.add_zero]
  rw [M0 (by omega)]
  exact h _ (List.getElem_mem _)
def Lw(w l:List Int):Prop:=∀g:Nat,(g:Int)<B7 l->sm w l g=0
noncomputable def Ee(w:List Int)(b l:List Int):List Int:=open Classical in if Lw w l/\B7 b<B7 l then l else b
theorem YE{F n:Nat}{w l:List Int}(ac:100<F)(al:n<=5)(hw:BN 200 w)(am:l.length=n)(h:RG l):BF (f102 F (w.take n) l) (λr=>r=true↔Lw w l):=by
 obtain⟨ap,aq,aw⟩:=id h;unfold f102;refine Bo (S:=λq=>(q=Sum.inl false/\¬Lw w l)∨(q=Sum.inr ()/\Lw w l)) ?_ ?_
 ·refine Df (B7 l).toNat (λi s=>s=(i:Int)/\∀g:Nat,g<i->sm w l g=0) ⟨rfl,by omega⟩ (by omega) ?_ ?_
  ·rintro i s hi ⟨rfl,Y⟩;unfold Nl;refine Br (K5 ac h (by omega)) (CF (by omega) ?_);refine Bo (S:=λr=>r=sm w l i) ?_ ?_
   ·refine Df l.length (λt s=>s.2=(t:Int)/\s.1=F0 w l i t) ⟨rfl,rfl⟩ (by omega) ?_ ?_
    ·rintro t ⟨m,z⟩ ag ⟨K,U⟩;simp only at K U;subst K;subst U;have hb:=Tm (l:=l) (g:=(i:Int)) hw t (by omega);have a0:=hw.bd (show t<5 by omega);unfold Nb
     dsimp only;refine CF (by omega) (Cq (m:=t) rfl ag ?_);refine Bo (S:=λr=>r=F0 w l i (t+1)) ?_ ?_
     ·show BF _ λr=>r=F0 w l i t+_;rw [M0 ag];refine Cu (λO=>?_) (λO=>Ay (by rw [if_neg O,Int.add_zero]));refine Br (LX hw al (by omega) (by omega)) ?_;rw [show Int.toNat (t:Int)=t by omega];exact BK _ rfl (by omega) (by omega) (Ay (by rw [if_pos O]))
     ·rintro r rfl;exact BK ((t+1:Nat):Int) (by simp) (by omega) (by omega) (Ay ⟨rfl,rfl⟩)
    ·rintro⟨m,z⟩ ⟨K,U⟩;simp only at K U;subst K;subst U;unfold Nb
     dsimp only;exact BQ (by omega) (Ay ⟨_,rfl,rfl⟩)
   ·rintro r rfl;refine Cu (λK=>Ay (.inl ⟨rfl,λk=>K (k i (by omega))⟩)) (λK=>?_);refine BK ((i+1:Nat):Int) (by simp) (by omega) (by omega) (Ay ⟨rfl,λg O=>?_⟩);rcases Nat.lt_succ_iff_lt_or_eq.1 O with O | rfl
    ·exact Y g O
    ·exact Decidable.not_not.1 K
  ·rintro s ⟨rfl,Y⟩;unfold Nl;exact Br (K5 ac h (by omega)) (BQ (by omega) (Ay ⟨_,rfl,.inr ⟨rfl,λg O=>Y g (by omega)⟩⟩))
 ·rintro q (⟨rfl,Z⟩ | ⟨rfl,Z⟩)
  ·exact Ay (iff_of_false (by simp) Z)
  ·exact Ay (iff_of_true rfl Z)
theorem T0(w b l:List Int):Ee w b l=l∨Ee w b l=b:=by
 unfold Ee;split
 ·exact .inl rfl
 ·exact .inr rfl
theorem Qg{w:List Int}{n:Nat}:∀(L:List (List Int)) (b:List Int),(∀x∈L,RG x/\x.length=n)->(RG b/\b.length<=n)->RG (L.foldl (Ee w) b)/\(L.foldl (Ee w) b).length<=n
 | [],b,_,hb=>hb
 | x::L,b,h,hb=>by
  rw [List.foldl_cons]
  have K:=h x List.mem_cons_self
  refine Qg L _ (λy O=>h y (List.mem_cons_of_mem _ O)) ?_
  rcases T0 w b x with e | e <;> rw [e]
  ·exact⟨K.1,Nat.le_of_eq K.2⟩
  ·exact hb
noncomputable def Ls(o:OW):List Int:=(EW o.1.length []).foldl (Ee (Ez o)) []
theorem W3{o:OW}(h:VO o):(Ls o).length<=5:=by
 have K:=h.n5;have:=(Qg (w:=Ez o) (n:=o.1.length) (EW o.1.length []) [] (λx O=>by have:=NS _ _ RG.nil x O;exact⟨this.1,by simpa using this.2⟩) ⟨RG.nil,by simp⟩).2;exact Nat.le_trans this K
theorem YP{F:Nat}{o:OW}(a0:4000<F)(h:VO o):f53 F o=some (Ls o,0):=by
 have U:=h.n5;obtain⟨hw,hb⟩:=NB (F:=F) (by omega) h;have Y:=NS o.1.length [] RG.nil;have hlen:=NF o.1.length [] RG.nil (by simpa using U);have a1:(5:Nat) ^ 5=3125:=by decide
 have a2:(5:Nat) ^ o.1.length<=5 ^ 5:=Nat.pow_le_pow_right (by omega) U;refine EL ?_;unfold f53;refine Br ((L3 F o).symm.trans (Ob (by omega) h)) ?_;refine BQ (by simp) ?_;refine Br (SK (by omega) U o.1.length F [] (by omega) (by simp) RG.nil) ?_;unfold Ls;generalize EW o.1.length []=L at Y hlen ⊢;refine Bo (S:=λr=>r=L.foldl (Ee (Ez o)) []) ?_ (by rintro r rfl;exact Ay rfl);refine Df L.length (λi s=>s.2=(i:Int)/\s.1=(L.take i).foldl (Ee (Ez o)) []) ⟨rfl,rfl⟩ (by omega) ?_ ?_
 ·rintro i ⟨m,z⟩ hi ⟨K,O⟩;simp only at K O;subst K;subst O;obtain⟨ac,g2⟩:=Y _ (List.getElem_mem hi);have am:L[i].length=o.1.length:=by simpa using g2
  obtain⟨ag,ap⟩:=Qg (w:=Ez o) (n:=o.1.length) (L.take i) [] (λx aq=>by have:=Y x (List.mem_of_mem_take aq);exact⟨this.1,by simpa using this.2⟩) ⟨RG.nil,by simp⟩;have e:(L.take (i+1)).foldl (Ee (Ez o)) []=Ee (Ez o) ((L.take i).foldl (Ee (Ez o)) []) L[i]:=by
   rw [List.take_add_one,List.getElem?_eq_getElem hi,List.foldl_append];rfl
  generalize (L.take i).foldl (Ee (Ez o)) []=b at ag ap e ⊢;unfold NU
  dsimp only;refine CF (by omega) (Cq (m:=i) rfl hi ?_);refine Br (K5 (by omega) ac (by omega)) (Br (K5 (by omega) ag (by omega)) ?_);refine Bo (S:=λq=>q=true↔(Lw (Ez o) L[i]/\B7 b<B7 L[i])) ?_ ?_
  ·refine Cu (λhm=>?_) (λhm=>Ay (iff_of_false (by simp) λk=>hm k.2));refine Cq (m:=i) rfl hi (Br (Tv (by omega) h) ?_);refine Bo (YE (by omega) U hb am ac) ?_;intro r aw;exact Ay (aw.trans ⟨λk=>⟨k,hm⟩,λk=>k.1⟩)
  ·intro q al;refine Bo (S:=λr=>r=Ee (Ez o) b L[i]) ?_ ?_
   ·refine Cu (λZ=>?_) (λZ=>Ay ?_)
    ·refine Cq (m:=i) rfl hi (Ay ?_);unfold Ee;rw [if_pos (al.1 Z)]
    ·unfold Ee;rw [if_neg (λk=>Z (al.2 k))]
   ·rintro r rfl;exact BK ((i+1:Nat):Int) (by simp) (by omega) (by omega) (Ay ⟨rfl,e.symm⟩)
 ·rintro⟨m,z⟩ ⟨K,O⟩;simp only at K O;subst K;subst O;unfold NU
  dsimp only;exact BQ (by omega) (Ay ⟨_,rfl,by rw [List.take_length]⟩)
theorem Sb{l:List Int}{i:Nat}(hi:i<l.length):B7 (l.take (i+1))=max (B7 (l.take i)) (l[i]+1):=by
 rw [List.take_add_one,List.getElem?_eq_getElem hi,Option.toList_some,M1]
theorem TA{F:Nat}{l:List Int}(ac:100<F)(h:RG l)(U:0<l.length)(ag:l.length<=20):f98 F l=some (B7 l - 1):=by
 obtain⟨al,am,Y⟩:=h;refine EL ?_;unfold f98;refine BQ (by omega) (Cq (m:=0) rfl U ?_);have Z:B7 (l.take 1)=l[0]+1:=by
  have ap:=Y _ (List.getElem_mem U);rw [Sb U];show(max 0 (l[0]+1):Int)=_;omega
 refine Bo (S:=λr=>r=B7 l - 1) ?_ (by rintro r rfl;exact Ay rfl);refine Df (l.length - 1) (λi s=>s.2=((i+1:Nat):Int)/\s.1=B7 (l.take (i+1)) - 1) ⟨rfl,by rw [Z];simp only;omega⟩ (by omega) ?_ ?_
 ·rintro i ⟨m,z⟩ hi ⟨K,O⟩;simp only at K O;subst K;subst O;unfold Ny
  dsimp only;refine CF (by omega) (Cq (m:=i+1) rfl (by omega) ?_);refine BK ((i+1+1:Nat):Int) (by simp) (by omega) (by omega) (Ay ⟨rfl,?_⟩);simp only;rw [Sb (i:=i+1) (by omega)];omega
 ·rintro⟨m,z⟩ ⟨K,O⟩;simp only at K O;subst K;subst O;unfold Ny
  dsimp only;rw [show l.length - 1+1=l.length by omega,List.take_length];exact BQ (by omega) (Ay ⟨_,rfl,rfl⟩)
theorem YJ{F:Nat}{b l:List Int}(U:100<F)(h:RG l)(O:0<l.length)(Y:l.length<=20)(hb:RG b)(Z:b.length<=20):
  f96 F (b,decide (b≠ [])) l=some (if B7 b<B7 l then(l,decide (l≠ [])) else(b,decide (b≠ []))):=by
 have ac:0<B7 l:=by
  have:=h.2.2 _ (List.getElem_mem O);omega
 have ag:l≠ []:=by rintro rfl;simp at O
 refine EL ?_;unfold f96;refine Bo (S:=λq=>q=decide (B7 b<B7 l)) ?_ ?_
 ·refine Cu (λK=>Ay ?_) (λK=>?_)
  ·have:b= []:=by simpa using K
   subst this;exact(decide_eq_true (show B7 []<B7 l from ac)).symm
  ·have al:b≠ []:=by simpa using K
   have am:0<b.length:=Nat.pos_of_ne_zero λe=>al (List.eq_nil_of_length_eq_zero e);unfold f97;refine Br (b:=decide (B7 b - 1<B7 l - 1)) ?_ (Ay (decide_eq_decide.2 (by omega)));rw [TA U h O Y,Option.bind_some,TA U hb am Z,Option.bind_some]
 ·rintro q rfl;refine Bo (S:=λr=>r=if B7 b<B7 l then(l,decide (l≠ [])) else(b,decide (b≠ []))) ?_ (by rintro r rfl;exact Ay rfl)
  refine Cu (λK=>Ay ?_) (λK=>Ay ?_)
  ·rw [if_pos (of_decide_eq_true K),decide_eq_true ag]
  ·rw [if_neg (λk=>K (decide_eq_true k))]
theorem T1{F:Nat}{o:OW}{w:List Int}(al:100<F)(ap:2<=o.1.length)(aq:o.1.length<=5)(hw:BN 200 w):∀(j N:Nat) (l S b:List Int),j<N->l.length+j=o.1.length->RG l->BN (200*(l.length:Int)) S->(∀g:Nat,g<5->gN S g=sm w l g)->RG b->b.length<=20->
  Lh N F l S (B7 l) o (b,decide (b≠ [])) w=some ((EW j l).foldl (Ee w) b,decide ((EW j l).foldl (Ee w) b≠ []))
 | 0,N+1,l,S,b,_,aw,h,U,Z,hb,ag=>by
  show Ks (Lh N F) F l S (B7 l) o (b,decide (b≠ [])) w=_
  have K:S=List.replicate 5 0↔Lw w l:=by
   constructor
   ·intro e g ac;have:=h.2.1;rw [← Z g (by omega),e];unfold gN;rw [List.getD_eq_getElem?_getD,List.getElem?_replicate];split <;> rfl
   ·intro k;refine WY U.1 (by simp) λg ac=>?_;rw [Z g ac,show gN (List.replicate 5 (0:Int)) g=0 by unfold gN;rw [List.getD_eq_getElem?_getD,List.getElem?_replicate];split <;> rfl];rcases Int.lt_or_le (g:Int) (B7 l) with a0 | a7
    ·exact k g a0
    ·exact R0 (λx O=>by have:=h.2.2 x O;omega) _ (Nat.le_refl _)
  refine EL ?_;unfold Ks;refine CF (by omega) (Bo (S:=λr=>r=(Ee w b l,decide (Ee w b l≠ []))) ?_ (by rintro r rfl;exact Ay rfl));refine Cu (λhe=>?_) (λhe=>Ay ?_)
  ·refine Br (YJ al h (by omega) (by omega) hb ag) (Ay ?_);unfold Ee;by_cases hm:B7 b<B7 l
   ·rw [if_pos hm,if_pos ⟨K.1 he,hm⟩]
   ·rw [if_neg hm,if_neg (λk=>hm k.2)]
  ·unfold Ee;rw [if_neg (λk=>he (K.2 k.1))]
 | j+1,N+1,l,S,b,a8,aw,h,U,Z,hb,ag=>by
  have a9:=h.1;have bb:=h.2.1;have be:=hw.bd (show l.length<5 by omega);show Ks (Lh N F) F l S (B7 l) o (b,decide (b≠ [])) w=_;have a1:∀i,i<=(B7 l).toNat+1->RG (((List.range i).flatMap λk:Nat=>EW j (l++ [(k:Int)])).foldl (Ee w) b)/\(((List.range i).flatMap λk:Nat=>EW j (l++ [(k:Int)])).foldl (Ee w) b).length<=20:=by
   intro i hi;have:∀(L:List (List Int)) (b:List Int),(∀x∈L,RG x/\x.length<=20)->(RG b/\b.length<=20)->RG (L.foldl (Ee w) b)/\(L.foldl (Ee w) b).length<=20:=by
    intro L
    induction L with
    | nil=>intro b _ hb;exact hb
    | cons x L a2=>
     intro b O hb;rw [List.foldl_cons];refine a2 _ (λy a3=>O y (List.mem_cons_of_mem _ a3)) ?_;rcases T0 w b x with e | e <;> rw [e]
     ·exact O x List.mem_cons_self
     ·exact hb
   refine this _ b (λx O=>?_) ⟨hb,ag⟩;obtain⟨k,am,O⟩:=List.mem_flatMap.1 O;have am:=List.mem_range.1 am;obtain⟨a4,g2⟩:=NS j _ (h.snoc (k:=(k:Int)) (by omega) (by omega)) x O;exact⟨a4,by rw [g2];simp;omega⟩
  refine EL ?_;unfold Ks;refine BQ (by omega) (BK _ rfl (by omega) (by omega) ?_);refine Bo (S:=λr=>r=((EW (j+1) l).foldl (Ee w) b,decide ((EW (j+1) l).foldl (Ee w) b≠ []))) ?_ (by rintro r rfl;exact Ay rfl);refine Df ((B7 l).toNat+1) (λi s=>s.2.2=(i:Int)/\s.1=((List.range i).flatMap λk:Nat=>EW j (l++ [(k:Int)])).foldl (Ee w) b/\s.2.1=decide (s.1≠ [])) ⟨rfl,rfl,rfl⟩ (by omega) ?_ ?_
  ·rintro i ⟨m,q,z⟩ hi ⟨K,hm,Y⟩;simp only at K hm;change q=decide (m≠ []) at Y;obtain⟨r1,r2⟩:=a1 i (by omega);subst K;subst Y;rw [← hm] at r1 r2;have bi:=U.bd (show i<5 by omega);have a5:S.set i (gN S i+gN w l.length)=IW S (i:Int) (gN w l.length):=by unfold IW;rw [show Int.toNat (i:Int)=i by omega]
   unfold NW
   dsimp only;refine CF (by omega) (Br (U.ix (by omega) (by omega)) ?_);refine Br (hw.ix (by omega) (by omega)) ?_;rw [show Int.toNat (i:Int)=i by omega,show Int.toNat (l.length:Int)=l.length by omega];refine BK _ rfl (by omega) (by omega) (Br (U.ix (by omega) (by omega)) ?_);refine BK ((i+1:Nat):Int) (by simp) (by omega) (by omega) (BF.KI (by simp;omega) ?_);rw [a5,show max (B7 l) (((i+1:Nat):Int))=B7 (l++ [(i:Int)]) by rw [M1];simp];have a6:(((l++ [(i:Int)]).length:Nat):Int)=(l.length:Int)+1:=by simp
   refine Br (T1 al ap aq hw j N (l++ [(i:Int)]) (IW S (i:Int) (gN w l.length)) m (by omega) (by simp;omega) (h.snoc (by omega) (by omega)) ((U.add (V:=200) (by omega) (by omega) (by omega) (by omega)).Ag (by rw [a6];omega)) (λg ac=>?_) r1 r2) ?_
   ·rw [Ze U.1 (by omega) (by omega),Z g ac,XE];by_cases e:(g:Int)=(i:Int)
    ·rw [if_pos e,if_pos e.symm]
    ·rw [if_neg e,if_neg (λk=>e k.symm)]
   ·refine BK ((i+1:Nat):Int) (by simp) (by omega) (by omega) (Ay ⟨rfl,?_,rfl⟩);simp only;rw [List.range_succ,List.flatMap_append,List.foldl_append,← hm];simp only [List.flatMap_cons,List.flatMap_nil,List.append_nil]
  ·rintro⟨m,q,z⟩ ⟨K,hm,Y⟩;simp only at K hm;change q=decide (m≠ []) at Y;subst K;subst Y;subst hm;unfold NW
   dsimp only;exact BQ (by omega) (Ay ⟨_,rfl,rfl⟩)
theorem ZQ{F:Nat}{o:OW}(U:4000<F)(h:VO o):f52 F o=some (Ls o,0):=by
 have K:=h.n5;obtain⟨hw,hb⟩:=NB (F:=F) (by omega) h;refine EL ?_;unfold f52;refine Br (Qc (by omega) h) ?_;refine BQ (by simp) ?_;refine Br hw ?_;have:=T1 (F:=F) (by omega) h.n2 K hb o.1.length F [] (List.replicate 5 0) [] (by omega) (by simp) RG.nil ⟨by simp,λx O=>by have:=List.eq_of_mem_replicate O;omega⟩ (λg Y=>by unfold gN sm F0;rw [List.getD_eq_getElem?_getD,List.getElem?_replicate];split <;> rfl) RG.nil (by simp);refine Br (b:=(Ls o,decide (Ls o≠ []))) this (Ay rfl)
end Pal
namespace Pal
theorem VO.bO{o:OW}(h:VO o):NV 10 o:=⟨by have:=h.n5;omega,λx K=>by have:=(h.cs x K).1;omega,by have:=h.d8;omega⟩
theorem ZR{F k:Nat}{b:IC}(K:100<F)(hb:BG k b)(O:k<1000):BF (f31 F b 5 6) (λr=>NV 10 r.1/\BG (k+100) r.2):=(YV (pm:=5) (dm:=6) K hb O (by omega) (by omega) (by omega)).Ag λ_ h=>⟨h.1.bO,h.2.2.2⟩
theorem YU{F k:Nat}{b:IC}{o:OW}{d:DT}(Y:100<F)(O:NV 20 o)(hb:BG k b)(ac:k<500):BF (f19 F o d b) (λr=>(∃a c,r.1= [o,a,c]/\NV 30 a/\NV 30 c)/\BG (k+101) r.2):=by
 unfold f19;refine Bo (ZR Y hb (by omega)) ?_;rintro⟨a,ag⟩ ⟨K,Z⟩;simp only at K Z ⊢;refine Bo (ZK K (by omega)) ?_;rintro _ rfl;refine Bo (TH Z (by omega) (by omega) (by omega)) ?_;rintro⟨y,al⟩ g2;simp only at g2 ⊢;have am:=K.l2;refine Bo (S:=λr=>r.length<=20/\∀x∈r,x.length<=20) ?_ ?_
 ·refine Cu (λ_=>?_) (λ_=>?_)
  ·exact Br (TT Y (O.up (m:=40) (by omega)).l1 (O.up (m:=40) (by omega)).n1) (Ay ⟨O.l1,O.n1⟩)
  ·exact Ay ⟨Nat.le_trans K.l1 (by omega),λx U=>Nat.le_trans (K.n1 x U) (by omega)⟩
 ·rintro r ⟨r1,r2⟩;exact Ay ⟨⟨a,_,rfl,K.up (by omega),⟨Nat.le_trans r1 (by omega),λx U=>Nat.le_trans (r2 x U) (by omega),by simp;omega⟩⟩,g2⟩
end Pal
namespace Pal
theorem P1{F:Nat}{o:OW}(O:100<F)(h:NV 40 o):∃e,f48 F o=some e/\(e=0->VO o)/\(e≠0->f70 F o []=some (([],[]),e)):=by
 obtain⟨e,K,U⟩:=T2 O h;refine⟨e,K,U.1,λY=>?_⟩;refine EL ?_;unfold f70;exact Br ((L3 F o).trans K) (CF Y (Ay rfl))
theorem Yo{F:Nat}{o:OW}(O:4000<F)(h:NV 40 o):∃r,f33 F o=some r/\f51 F o=some r/\r.1.length<=40:=by
 obtain⟨e,U,Y,Z⟩:=P1 (F:=F) (by omega) h;by_cases he:e=0
 ·have K:=Y he;obtain⟨r,ac,p2⟩:=Zo O K;obtain⟨r',ag,al⟩:=ZS O K;refine⟨r,ac,by rw [ag,al.uniq p2],?_⟩;rcases p2 with⟨k,a1,ap,-,am,-⟩ | ⟨-,rfl⟩
  ·have:=(Ma o k _ (List.mem_of_find?_eq_some am)).1;have:=K.n5;omega
  ·simp
 ·refine⟨([],e),?_,?_,by simp⟩
  ·unfold f33;rw [Z he,Option.bind_some,if_pos he]
  ·unfold f51;rw [U,Option.bind_some,if_pos he]
theorem ZH{F:Nat}{o:OW}(O:4000<F)(h:NV 40 o):∃r,f52 F o=some r/\f53 F o=some r/\r.1.length<=40:=by
 obtain⟨e,U,Y,Z⟩:=P1 (F:=F) (by omega) h;by_cases he:e=0
 ·have K:=Y he;exact⟨_,ZQ O K,YP O K,by have:=W3 K;simp only;omega⟩
 ·refine⟨([],e),?_,?_,by simp⟩
  ·unfold f52;rw [Z he,Option.bind_some,if_pos he]
  ·unfold f53;rw [U,Option.bind_some,if_pos he]
theorem XO{F:Nat}{o:OW}(Z:4000<F)(h:NV 40 o):∃r,f39 F o=some r/\f54 F o=some r/\r.1.length<=40:=by
 obtain⟨e,O,U,Y⟩:=P1 (F:=F) (by omega) h;by_cases he:e=0
 ·have K:=U he;exact⟨_,YT (by omega) K,YY (by omega) K,by have:=M6 o o.1.length;have:=K.n5;simp only;omega⟩
 ·refine⟨([],e),?_,?_,by simp⟩
  ·unfold f39;rw [Y he,Option.bind_some,if_pos he]
  ·unfold f54;rw [O,Option.bind_some,if_pos he]
theorem Zn{F:Nat}(U:4000<F)(ac:f18 F=some true)(o:OW)(d:DT)(OA:List Int):f12 F o d OA=some true:=by
 refine EL ?_;unfold f12;refine Bo (Zc (by omega)) ?_;intro c Y;refine Cu (λ_=>Br ac (Ay rfl)) (λh=>?_);have ag:=Y (by simpa using h);refine Br (b:=(OA,0,2685821657736338717)) rfl (Bo (YU (k:=0) (b:=(OA,0,2685821657736338717)) (by omega) ag ⟨Int.le_refl _,Int.le_refl _⟩ (by omega)) ?_);rintro⟨os,b⟩ ⟨⟨a,c,e,al,Y⟩,hb⟩;simp only at e hb;have am:∀x∈os,NV 40 x:=by
  intro x Z;rw [e] at Z;simp only [List.mem_cons,List.not_mem_nil,or_false] at Z;rcases Z with rfl | rfl | rfl
  ·exact ag.up (by omega)
  ·exact al.up (by omega)
  ·exact Y.up (by omega)
 have hlen:os.length=3:=by rw [e];rfl
 clear e;refine Bo (S:=λq=>q=Sum.inr ()) ?_ ?_
 ·refine Df 3 (λi s=>s=(i:Int)) rfl (by omega) ?_ ?_
  ·rintro i s hi rfl;have K:i<os.length:=by omega
   have O:=am _ (List.getElem_mem K);obtain⟨r1,ap,p2,p3⟩:=Yo U O;obtain⟨r2,aq,g2,aw⟩:=ZH U O;obtain⟨r3,k1,a0,a1⟩:=XO U O;unfold NH;refine CF (by simp only;omega) ?_;refine Cq (m:=i) rfl K ?_;refine Br (Za (by omega) O) ?_;refine Br ap ?_;refine Cq (m:=i) rfl K ?_;refine Br p2 ?_;refine Br aq ?_;refine Cq (m:=i) rfl K ?_;refine Br g2 ?_;refine Br k1 ?_;refine Cq (m:=i) rfl K ?_;refine Br a0 ?_;refine Bo (S:=λq=>q=false) (BQ (by simp) (Ay (decide_eq_false (by simp)))) ?_;rintro q rfl;refine Bo (S:=λq=>q=false) (BQ (by simp) (Ay (decide_eq_false (by simp)))) ?_;rintro q rfl;refine Bo (S:=λq=>q=false) (BQ (by simp) (Br (NR (by omega) p3) (Ay rfl))) ?_;rintro q rfl;refine Bo (S:=λq=>q=false) (BQ (by simp) (Br (NR (by omega) aw) (Ay rfl))) ?_;rintro q rfl;refine Bo (S:=λq=>q=false) (BQ (by simp) (Br (NR (by omega) a1) (Ay rfl))) ?_;rintro q rfl;refine Bo (S:=λq=>q=false) (BQ (by simp) (Cq (m:=i) rfl K (Br (ai (by omega) O) (Ay rfl)))) ?_;rintro q rfl;refine BQ (by simp) ?_;refine BK ((i+1:Nat):Int) (by simp) (by omega) (by omega) ?_;exact Ay rfl
  ·rintro s rfl;unfold NH;exact BQ (by simp only;omega) (Ay ⟨_,rfl,rfl⟩)
 ·rintro q rfl;exact Br ac (Ay rfl)
end Pal
